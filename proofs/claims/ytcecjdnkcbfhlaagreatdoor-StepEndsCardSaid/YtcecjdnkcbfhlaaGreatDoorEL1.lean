/- Joined texts. -/
import Derived.Maps.RangeRun
import Derived.Sort.OwnSorted
import Derived.Shelf.SlSortCmp.NoneTotal
import Derived.Sort.LotA
import Derived.Test.YtcecjdnkcbfhlaaGreatDoorEL0
set_option linter.unusedSimpArgs false
set_option linter.unusedVariables false
set_option linter.unusedSectionVars false
section
namespace Go.Stp
open Go.RowKit
def tailR (P:Program) (ops:Array Oper) (G:Act→World→Prop):List Oper→Act→World→Prop
 |[],a,w=>G a w
 |o::rest,a,w=>∃ v w',R1 P ops o a w v w'∧tailR P ops G rest (a.put o.dst v) w'
theorem wpFlow_mono {P:Program} {ops:Array Oper} {w1:World} {n:Nm} {F F':List (Nat × RL)→List Nat→Prop} (h:∀ L A,F L A→F' L A):∀ {ol:List Oper} {L:List (Nat × RL)} {A:List Nat},wpFlow P ops w1 n F L A ol→wpFlow P ops w1 n F' L A ol
 |[],_,_,k=>h _ _ k
 |_::_,_,_,⟨d,r,fr,h1,h2,h3,h4,k⟩=>⟨d,r,fr,h1,h2,h3,h4,wpFlow_mono h k⟩
def lateUB (ops:Array Oper) (m:Nat) (U:List Nat):Bool:=
 flowB ops m&&decide (m<ops.size)&&Region.chainB .any ops m&&((List.range ops.size).all fun t=>(decide (t<m)||(match ops[t]? with|some o=>o.after.all fun e=>!Region.binds .any e||Nat.blt e.on t|none=>false))) &&
 ((List.range m).all fun i=>U.contains i||(List.range (m+1)).any fun j=>decide (i<j)&&!U.contains j&&Region.waitsFor .any ops j i)&&Region.noSelect ops &&
 U.all fun i=>decide (i<m)&&match ops[i]? with
  |some o=>(match o.op with|.extract _ _=>true|_=>false)&&o.guard.isNone&&(List.range ops.size).all fun j=>Nat.beq j i||Region.waitsFor .any ops j i||(decide (j<m)&&!U.contains j)||match ops[j]? with|some oj=>o.apart ops oj|none=>false
  |none=>false
section
variable {P:Program} {ops:Array Oper} {w1:World} {n:Nm} {m:Nat}
structure LateU (ops:Array Oper) (m:Nat) (U:List Nat):Prop where
 flow:FlowOk ops m
 lt:m<ops.size
 chain:Region.chainB .any ops m=true
 back:∀ t,m≤t→t<ops.size→∀ o,ops[t]?=some o→∀ e∈o.after,Region.binds .any e=true→e.on<t
 sink:∀ i,i<m→i ∉ U→∃ j,i<j∧j≤m∧j ∉ U∧Region.waitsFor .any ops j i=true
 sel:∀ (j:Nat) (o:Oper) cs b,ops[j]?=some o→o.op≠.select cs b
 pure:∀ i∈U,i<m∧∃ o x k,ops[i]?=some o∧o.op=.extract x k∧o.guard=none
 apart:∀ i∈U,∀ o,ops[i]?=some o→∀ j oj,ops[j]?=some oj→j≠i→(m≤j∨j∈U)→(∀ e∈oj.after,Region.binds .any e=true→e.on≠i)→o.apart ops oj=true
theorem lateUB_ok {U:List Nat} (h:lateUB ops m U=true):LateU ops m U:=by
 simp only [lateUB,Bool.and_eq_true,decide_eq_true_eq] at h
 obtain ⟨⟨⟨⟨⟨⟨h1,h2⟩,h3⟩,h4⟩,h5⟩,h6⟩,h7⟩:=h
 have key:∀ i∈U,i<m∧∃ o x k,ops[i]?=some o∧o.op=.extract x k∧o.guard=none∧∀ j oj,ops[j]?=some oj→j≠i→(m≤j∨j∈U)→(∀ e∈oj.after,Region.binds .any e=true→e.on≠i)→o.apart ops oj=true:=by
  intro i hi
  have h8:=List.all_eq_true.1 h7 i hi
  obtain ⟨h9,h10⟩:=Bool.and_eq_true_iff.1 h8
  refine ⟨by simpa using h9,?_⟩
  cases ho:ops[i]? with
  |none=>rw [ho] at h10;cases h10
  |some o=>
   rw [ho] at h10
   simp only [Bool.and_eq_true] at h10
   obtain ⟨⟨h11,h12⟩,h13⟩:=h10
   have hx:∃ x k,o.op=.extract x k:=by
    split at h11
    · rename_i x k e
      exact ⟨x,k,e⟩
    · cases h11
   obtain ⟨x,k,hx⟩:=hx
   refine ⟨o,x,k,rfl,hx,by simpa using h12,fun j oj hj hne hjm hno=>?_⟩
   have h14:=List.all_eq_true.1 h13 j (List.mem_range.2 (Array.getElem?_eq_some_iff.1 hj).1)
   rw [hj] at h14
   simp only [Bool.or_eq_true] at h14
   rcases h14 with ((h14|h14)|h14)|h14
   · exact absurd (Nat.eq_of_beq_eq_true h14) hne
   · obtain ⟨o',ho',e,he,hb,hon⟩:=Region.waitsFor_spec h14
     obtain rfl:o'=oj:=Option.some.inj (ho'.symm.trans hj)
     exact absurd hon (hno e he hb)
   · obtain ⟨h15,h16⟩:=Bool.and_eq_true_iff.1 h14
     have h15:j<m:=by simpa using h15
     rcases hjm with hjm|hjm
     · omega
     · have:U.contains j=true:=List.contains_iff_mem.2 hjm
       rw [this] at h16
       cases h16
   · exact h14
 refine ⟨flowB_ok h1,h2,h3,fun t ht hlt o ho e he hb=>?_,fun i hi hu=>?_,fun j o cs b ho=>Region.noSelect_spec h6 j o cs b ho,fun i hi=>?_,fun i hi o ho j oj hj hne hjm hno=>?_⟩
 · have h8:=List.all_eq_true.1 h4 t (List.mem_range.2 hlt)
   rw [ho] at h8
   simp only [Bool.or_eq_true,decide_eq_true_eq] at h8
   rcases h8 with h8|h8
   · omega
   · have:=Array.all_eq_true_iff_forall_mem.1 h8 e he
     simpa [hb,Nat.blt_eq] using this
 · have h8:=List.all_eq_true.1 h5 i (List.mem_range.2 hi)
   rcases Bool.or_eq_true_iff.1 h8 with h8|h8
   · exact absurd (List.contains_iff_mem.1 h8) hu
   · obtain ⟨j,hj,h9⟩:=List.any_eq_true.1 h8
     simp only [Bool.and_eq_true,decide_eq_true_eq,Bool.not_eq_true'] at h9
     refine ⟨j,h9.1.1,by have:=List.mem_range.1 hj;omega,fun hm=>?_,h9.2⟩
     have:U.contains j=true:=List.contains_iff_mem.2 hm
     rw [this] at h9
     cases h9.1.2
 · obtain ⟨h8,o,x,k,h9,h10,h11,_⟩:=key i hi
   exact ⟨h8,o,x,k,h9,h10,h11⟩
 · obtain ⟨_,o',x,k,h9,h10,h11,h12⟩:=key i hi
   obtain rfl:o'=o:=Option.some.inj (h9.symm.trans ho)
   exact h12 j oj hj hne hjm hno
theorem pureR {o:Oper} {x:Operand} {k d:Nat} {r:RL} {fr:Bool} {a:Act} {w:World} (ho:o.op=.extract x k) (hg:o.guard=none) (hd:o.dst=some d) (hdn:d<a.tmps.size) (h:StepF P ops o fr r a w) :
 ∃ v,(∀ w',R1 P ops o a w' v w')∧r.at w.heap.size w.heap.size w v∧(fr=true→∀ b,ownB v=some b→w.heap.size≤b∧b<w.heap.size):=by
 have hw:=wanted_none (ops:=ops) (a:=a) hg
 rcases h with ⟨h,_⟩|⟨_,h⟩
 · rw [hw] at h;cases h
 · have h:=h (fun a' w'=>∃ v,Ext w w'∧r.at w.heap.size w'.heap.size w' v∧(fr=true→∀ b,ownB v=some b→w.heap.size≤b∧b<w'.heap.size)∧a'=a.put o.dst v∧w'.heap.size=w'.heap.size) (fun _ _ _=>False) fun v w' X hv hf=>⟨v,X,hv,hf,rfl,rfl⟩
   have e1:execOp a.eval o=Instr.extract (a.eval x) k >>= fun v=>pure (.value v):=by
    unfold execOp
    rw [ho]
   unfold Oper.wp at h
   rw [e1] at h
   cases hx:a.eval x with
   |tuple vs=>
    rw [hx] at h e1
    cases hv:vs[k]? with
    |none=>simp [Instr.extract,hv,stuck,Oper.upon] at h
    |some v0=>
     have e2:∀ w,(execOp a.eval o).run P w=.ok (.value v0) w:=fun w=>by
      rw [e1]
      simp [Instr.extract,hv]
     simp only [Instr.extract,hv,Sem.run_bind,Sem.run_pure,Result.andThen_ok,Oper.upon_value] at h
     obtain ⟨v,X,h1,h2,h3,_⟩:=h
     have h4:v0=v:=by
      rw [hd] at h3
      have:=congrArg (fun b:Act=>b.tmps.getD d undef) h3
      rwa [getD_put_self hdn,getD_put_self hdn] at this
     subst h4
     exact ⟨v0,fun w'=>.inr ⟨hw,.inl (e2 w')⟩,h1,h2⟩
   |_=>rw [hx] at h;simp [Instr.extract,stuck,Oper.upon] at h
theorem anyR_tail {F:Act→World→Prop} (hc:Region.chainB .any ops m=true) (hback:∀ t,m≤t→t<ops.size→∀ o,ops[t]?=some o→∀ e∈o.after,Region.binds .any e=true→e.on<t) :
 ∀ (l:List Oper) (k:Nat) (listed:Array Bool) (a:Act) (w:World),(∀ j,l[j]?=ops[k+j]?)→k+l.length=ops.size→m≤k→listed.size=ops.size→(∀ i,i<k→listed.getD i false=true)→(∀ t,k≤t→t<ops.size→listed.getD t true=false)→
  tailR P ops F l a w→anyR P ops F l.length listed a w
 |[],k,listed,a,w,hl,hk,hm,hs,h1,h2,H=>by
  refine ⟨?_,H⟩
  cases hr:Region.ready .any ops listed with
  |nil=>rfl
  |cons t ts=>
   exfalso
   have ht:t∈Region.ready .any ops listed:=by rw [hr];simp
   obtain ⟨h3,o,ho,_⟩:=mem_ready.1 ht
   have hlt:=(Array.getElem?_eq_some_iff.1 ho).1
   have h4:=h1 t (by simp at hk;omega)
   have:=getD_both h3
   rw [h4] at this
   cases this
 |o::l,k,listed,a,w,hl,hk,hm,hs,h1,h2,H=>by
  obtain ⟨v,w',hR,H⟩:=H
  have h0:ops[k]?=some o:=by simpa using (hl 0).symm
  simp only [List.length_cons] at hk ⊢
  have hr:=ready_tail hc hback hm (by omega) h1 h2
  refine a_one hr h0 hR rfl (anyR_tail hc hback l (k+1) _ _ _ (fun j=>by have:=hl (j+1);simpa [Nat.add_assoc,Nat.add_comm 1 j] using this) (by omega) (by omega) (by simpa using hs) (fun i hi=>?_) (fun t ht ht'=>?_) H)
  · by_cases hik:i=k
    · subst hik
      have:i<listed.size:=by omega
      simp [this]
    · exact getD_set_true (h1 i (by omega))
  · rw [getD_set_ne true (by omega)]
    exact h2 t (by omega) ht'
theorem sink_done {U:List Nat} (L:LateU ops m U) {listed:Array Bool} (inv:HeadInv .any ops m listed) {t:Nat} (ht:m≤t) (hr:t∈Region.ready .any ops listed):∀ (D i:Nat),m-i≤D→i<m→i ∉ U→listed.getD i false=true:=by
 obtain ⟨hun,o,ho,hall⟩:=mem_ready.1 hr
 have hlt:t<ops.size:=(Array.getElem?_eq_some_iff.1 ho).1
 have htm:t=m:=by
  rcases Nat.lt_or_ge m t with h|h
  · exfalso
    have h3:=List.all_eq_true.1 L.chain t (List.mem_range.2 hlt)
    simp only [Bool.or_eq_true,decide_eq_true_eq] at h3
    rcases h3 with h3|h3
    · omega
    · obtain ⟨o',ho',e,he,hb,hon⟩:=Region.waitsFor_spec h3
      obtain rfl:o'=o:=Option.some.inj (ho'.symm.trans ho)
      have h4:=hall e he hb
      rw [hon,getD_both (inv.tail (t-1) (by omega) (by omega))] at h4
      cases h4
  · omega
 subst htm
 intro D
 induction D with
 |zero=>intro i h1 h2;omega
 |succ D ih=>
  intro i h1 h2 h3
  obtain ⟨j,h4,h5,h6,h7⟩:=L.sink i h2 h3
  obtain ⟨oj,hoj,e,he,hb,hon⟩:=Region.waitsFor_spec h7
  rcases Nat.lt_or_ge j t with h|h
  · have:=ih j (by omega) h h6
    rw [←hon]
    exact inv.closed j oj hoj this e he hb
  · obtain rfl:j=t:=by omega
    obtain rfl:oj=o:=Option.some.inj (hoj.symm.trans ho)
    rw [←hon]
    exact hall e he hb
theorem wpAny_wayU {Q:Exit→Act→World→Prop} {T:List (Nat × RL × Bool)} {L0:List (Nat × RL)} {a0:Act} {U:List Nat} {ol:List Oper} (hol:ops=ol.toArray) (L:LateU ops m U) (hT:T.length=m)
 (hL0:∀ s r,lookL L0 s=some r→r.stab∧r.holds w1 (a0.tmps.getD s undef))
 (hstep:∀ k o,k<m→ops[k]?=some o→∃ d r fr,T[k]?=some (d,r,fr)∧o.dst=some d∧d<n.n∧r.stab∧
  ∀ a w,Ext w1 w→a.tmps.size=n.n→a.defers=n.ds→FrOn (o.looksAt ops) (ctx L0 (T.take k)) a w→StepF P ops o fr r a w)
 (hend:∀ listed a w,(∀ i,i<m→listed.getD i false=true)→Way ops m n w1 T a0 listed a w→tailR P ops (fun a w=>Q .normal a w) (ol.drop m) a w) :
 ∀ (f:Nat) (listed:Array Bool) (a:Act) (w:World),cnt listed m=f→Way ops m n w1 T a0 listed a w→wpAny P .any ops Q (f+(ol.drop m).length) listed a w:=by
 have ok:=L.flow
 have hmn:m≤ops.size:=Nat.le_of_lt L.lt
 have dT:∀ (j d:Nat) (r:RL) (fr:Bool),T[j]?=some (d,r,fr)→j<m∧dstOf ops j=some d:=by
  intro j d r fr h
  have hj:j<m:=by rw [←hT];exact (List.getElem?_eq_some_iff.1 h).1
  obtain ⟨o,d',h1,h2,_⟩:=ok.op j hj
  obtain ⟨d'',r'',fr'',h3,h4,_⟩:=hstep j o hj h1
  rw [h3] at h
  simp only [Option.some.injEq,Prod.mk.injEq] at h
  obtain ⟨rfl,_⟩:=h
  exact ⟨hj,by simp [dstOf,h1,h4]⟩
 have sT:∀ (j d:Nat) (r:RL) (fr:Bool),T[j]?=some (d,r,fr)→r.stab:=by
  intro j d r fr h
  obtain ⟨hj,_⟩:=dT j d r fr h
  obtain ⟨o,d',h1,h2,_⟩:=ok.op j hj
  obtain ⟨d'',r'',fr'',h3,h4,_,h5,_⟩:=hstep j o hj h1
  rw [h3] at h
  simp only [Option.some.injEq,Prod.mk.injEq] at h
  rw [←h.2.1]
  exact h5
 have hfr:∀ {listed:Array Bool} {a:Act} {w:World} {i:Nat} {oi:Oper},Way ops m n w1 T a0 listed a w→i<m→ops[i]?=some oi→listed.getD i false=false→(∀ e∈oi.after,Region.binds .any e=true→listed.getD e.on false=true)→FrOn (oi.looksAt ops) (ctx L0 (T.take i)) a w:=by
  intro listed a w i oi Wy him hoi hil hall s hs r' hr'
  rcases lookL_ctx _ _ _ _ hr' with ⟨j,fr',hj⟩|⟨h1,h2⟩
  · have hji:j<i:=by
     have:=(List.getElem?_eq_some_iff.1 hj).1
     simp only [List.length_take] at this
     omega
    have hj':T[j]?=some (s,r',fr'):=by rw [List.getElem?_take,if_pos hji] at hj;exact hj
    obtain ⟨hjm,hdj⟩:=dT j s r' fr' hj'
    have hwait:=ok.dep j i oi s hji him hoi hdj hs
    obtain ⟨o',ho',e,he,hb,hon⟩:=Region.waitsFor_spec hwait
    obtain rfl:o'=oi:=Option.some.inj (ho'.symm.trans hoi)
    have hlj:listed.getD j false=true:=by rw [←hon];exact hall e he hb
    exact Wy.new j s r' fr' hj' hlj
  · obtain ⟨st,ho⟩:=hL0 s r' h2
    have:a.tmps.getD s undef=a0.tmps.getD s undef:=by
     refine Wy.old s fun j hj hlj hdj=>?_
     rcases Nat.lt_trichotomy j i with hlt|heq|hgt
     · obtain ⟨oj,dj,h3,h4,_⟩:=ok.op j hj
       obtain ⟨d3,r3,fr3,h5,h6,_⟩:=hstep j oj hj h3
       have:d3=s:=by
        have:dstOf ops j=some d3:=by simp [dstOf,h3,h6]
        rw [this] at hdj
        exact Option.some.inj hdj
       subst this
       exact h1 j d3 r3 fr3 (by rw [List.getElem?_take,if_pos hlt];exact h5) rfl
     · subst heq
       rw [hil] at hlj
       cases hlj
     · have hwait:=ok.anti j i oi s hgt hj hoi hdj hs
       obtain ⟨o',ho',e,he,hb,hon⟩:=Region.waitsFor_spec hwait
       have:=Wy.inv.closed j o' ho' hlj e he hb
       rw [hon,hil] at this
       cases this
    rw [this]
    exact st.on Wy.ext ho
 have hlast:∀ (f:Nat) (listed:Array Bool) (a:Act) (w:World),cnt listed m=f→Way ops m n w1 T a0 listed a w→(∀ i,i<m→i ∉ U→listed.getD i false=true)→anyR P ops (fun a w=>Q .normal a w) (f+(ol.drop m).length) listed a w:=by
  intro f
  induction f with
  |zero=>
   intro listed a w hc Wy hU
   rw [Nat.zero_add]
   have hall:=cnt_zero m hc
   refine anyR_tail L.chain L.back _ m listed a w (fun j=>by rw [hol];simp [List.getElem?_drop]) ?_ (Nat.le_refl _) Wy.inv.size hall Wy.inv.tail (hend listed a w hall Wy)
   rw [hol,List.length_drop]
   have:=L.lt
   rw [hol] at this
   simp at this ⊢
   omega
  |succ f ih=>
   intro listed a w hc Wy hU
   rw [show f+1+(ol.drop m).length=(f+(ol.drop m).length)+1 by omega]
   obtain ⟨i,hi,hl,hbefore⟩:=cnt_some m (show 0<cnt listed m by omega)
   have hiU:i∈U:=by
    rcases Classical.em (i∈U) with h|h
    · exact h
    · have:=hU i hi h
      rw [hl] at this
      cases this
   have hun:listed.getD i true=false:=getD_in (by rw [Wy.inv.size];omega) hl
   have hlt:i<listed.size:=by rw [Wy.inv.size];omega
   obtain ⟨_,oi,x,k,hoi,hox,hog⟩:=L.pure i hiU
   obtain ⟨o2,_,h1,_,h3⟩:=ok.op i hi
   obtain rfl:oi=o2:=Option.some.inj (hoi.symm.trans h1)
   have hdeps:∀ e∈oi.after,Region.binds .any e=true→listed.getD e.on false=true:=fun e he hb=>hbefore _ (h3 e he hb)
   have hr:i∈Region.ready .any ops listed:=mem_ready.2 ⟨hun,oi,hoi,hdeps⟩
   obtain ⟨d,r,fr,hTi,hd,hdn,hst,hok⟩:=hstep i oi hi hoi
   obtain ⟨v,hv1,hv2,hv3⟩:=pureR hox hog hd (by rw [Wy.size];exact hdn) (hok a w Wy.ext Wy.size Wy.defers (hfr Wy hi hoi hl hdeps))
   refine anyR_first hoi L.sel _ listed a w (fun j oj hoj hji hjun hno=>L.apart i hiU oi hoi j oj hoj hji ?_ hno) hr hv1 (ih _ _ _ ?_ (Way.next ok hmn dT sT Wy hr hi hoi hd hdn hTi v w (Ext.refl _) hv2 hv3) fun j hj hjU=>getD_set_true (hU j hj hjU))
   · rcases Nat.lt_or_ge j m with h|h
     · refine .inr ?_
       rcases Classical.em (j∈U) with hj|hj
       · exact hj
       · have:=hU j h hj
         rw [getD_both hjun] at this
         cases this
     · exact .inl h
   · have:=cnt_set hlt hl m hi
     omega
 intro f
 induction f with
 |zero=>
  intro listed a w hc Wy
  exact wpAny_of_anyR _ _ _ _ (hlast 0 listed a w hc Wy fun i hi _=>cnt_zero m hc i hi)
 |succ f ih=>
  intro listed a w hc Wy
  rcases Classical.em (∃ t,m≤t∧t∈Region.ready .any ops listed) with ⟨t,ht,hr⟩|hno
  · exact wpAny_of_anyR _ _ _ _ (hlast _ listed a w hc Wy fun i hi hU=>sink_done L Wy.inv ht hr _ i (Nat.le_refl _) hi hU)
  · rw [show f+1+(ol.drop m).length=(f+(ol.drop m).length)+1 by omega]
    obtain ⟨i0,hi0,hl0,hbefore⟩:=cnt_some m (show 0<cnt listed m by omega)
    have hun0:listed.getD i0 true=false:=getD_in (by rw [Wy.inv.size];omega) hl0
    have hr0:i0∈Region.ready .any ops listed:=by
     obtain ⟨o,d,h1,h2,h3⟩:=ok.op i0 hi0
     exact mem_ready.2 ⟨hun0,o,h1,fun e he hb=>hbefore _ (h3 e he hb)⟩
    refine ⟨fun h=>(by rw [h] at hr0;cases hr0),fun i hi=>?_⟩
    have him:i<m:=by
     rcases Nat.lt_or_ge i m with h|h
     · exact h
     · exact absurd ⟨i,h,hi⟩ hno
    obtain ⟨hiun,oi,hoi,hall⟩:=mem_ready.1 hi
    have hil:listed.getD i false=false:=getD_both hiun
    obtain ⟨d,r,fr,hTi,hd,hdn,hst,hok⟩:=hstep i oi him hoi
    have hlt:i<listed.size:=by rw [Wy.inv.size];omega
    have next:=Way.next ok hmn dT sT Wy hi him hoi hd hdn hTi
    have hc':cnt (listed.setIfInBounds i true) m=f:=by
     have:=cnt_set hlt hil m him
     omega
    unfold wpOp
    simp only [hoi]
    rcases hok a w Wy.ext Wy.size Wy.defers (hfr Wy him hoi hil hall) with ⟨hwant,hv⟩|⟨hwant,hK⟩
    · rw [if_neg (by rw [hwant];exact Bool.false_ne_true)]
      exact ih _ _ _ hc' (next undef w (Ext.refl _) hv (fun _ b hb=>by simp [ownB,undef] at hb))
    · rw [if_pos hwant]
      left
      exact hK _ _ fun v w' X hv hf=>ih _ _ _ hc' (next v w' X hv hf)
theorem tailR_mono {G G':Act→World→Prop} (h:∀ a w,G a w→G' a w):∀ {l:List Oper} {a:Act} {w:World},tailR P ops G l a w→tailR P ops G' l a w
 |[],_,_,k=>h _ _ k
 |_::_,_,_,⟨v,w',h1,k⟩=>⟨v,w',h1,tailR_mono h k⟩
theorem wp_flowU {Q:Exit→Act→World→Prop} {a:Act} {w:World} {l:List (Nat × Value)} {id:Nat} {ol:List Oper} (mm:Nat) (U:List Nat) (h:Fr n l a) (hm:P.follows .mixedOrders=true) (hB:lateUB ol.toArray mm U=true)
 (H:wpFlow P ol.toArray w n (fun L A=>∀ a' w',Ext w w'→FrR n L a' w'→Fresh w L A a' w'→tailR P ol.toArray (fun a w=>Q .normal a w) (ol.drop mm) a' w') (eqs l) [] (ol.take mm)):(Code.region id ol.toArray true).wp P Q a w:=by
 have L:=lateUB_ok hB
 have hmm:mm<ol.length:=by simpa using L.lt
 refine wp_region_any hm ?_
 obtain ⟨T,t1,t2,t3⟩:=flow_ex _ _ _ H
 have htl:(ol.take mm).length=mm:=by simp;omega
 have inv0:HeadInv .any ol.toArray mm (Array.replicate ol.toArray.size false):=
  ⟨by simp,fun j oj _ hl=>(by rw [getD_replicate_false] at hl;cases hl),fun t _ ht=>getD_in (by simpa using ht) (getD_replicate_false _ _)⟩
 have hstep:∀ k o,k<mm→ol.toArray[k]?=some o→∃ d r fr,T[k]?=some (d,r,fr)∧o.dst=some d∧d<n.n∧r.stab∧
  ∀ a w',Ext w w'→a.tmps.size=n.n→a.defers=n.ds→FrOn (o.looksAt ol.toArray) (ctx (eqs l) (T.take k)) a w'→StepF P ol.toArray o fr r a w':=fun k o hk ho=>
  t2 k o (by rw [List.getElem?_take,if_pos hk];simpa using ho)
 have nol:∀ k,(Array.replicate ol.toArray.size false).getD k false=true→False:=fun k hk=>by rw [getD_replicate_false] at hk;cases hk
 have hc0:∀ k,cnt (Array.replicate ol.toArray.size false) k=k:=by
  intro k
  induction k with
  |zero=>rfl
  |succ k ih=>simp only [cnt,ih,getD_replicate_false];simp
 have hsz:ol.toArray.size=mm+(ol.drop mm).length:=by simp;omega
 have h0:Way ol.toArray mm n w T a (Array.replicate ol.toArray.size false) a { w with drawn:=w.drawn+1 }:=⟨inv0,Ext.drew w,h.size,h.defers,fun _ _=>rfl,fun j d r fr _ hl=>(nol j hl).elim,fun j d r _ hl=>(nol j hl).elim,fun j d r i d' r' _ _ _ hl=>(nol j hl).elim,fun j d R fr _ hl=>(nol j hl).elim⟩
 have key:=wpAny_wayU (P:=P) (Q:=Q) (T:=T) (L0:=eqs l) (a0:=a) (w1:=w) (n:=n) rfl L (by rw [t1,htl]) (fun s r hr=>by
  obtain ⟨v,rfl,hv⟩:=lookL_eqs l s r hr
  exact ⟨trivial,h.has _ _ hv⟩) hstep (fun listed a' w' hl Wy=>t3 a' w' Wy.ext ⟨Wy.size,Wy.defers,fun s r hr=>by
   rcases lookL_ctx _ _ _ _ hr with ⟨j,fr,hj⟩|⟨h1,h2⟩
   · have hjm:j<mm:=by rw [←htl,← t1];exact (List.getElem?_eq_some_iff.1 hj).1
     exact Wy.new j s r fr hj (hl j hjm)
   · obtain ⟨v,rfl,hv⟩:=lookL_eqs l s r h2
     show a'.tmps.getD s undef=v
     rw [Wy.old s fun j hj hlj hdj=>?_]
     · exact h.has _ _ hv
     · obtain ⟨oj,dj,h3,h4,_⟩:=L.flow.op j hj
       obtain ⟨d3,r3,fr3,h5,h6,_⟩:=hstep j oj hj h3
       have:dstOf ol.toArray j=some d3:=by simp only [dstOf,h3,Option.bind_some,h6]
       rw [this] at hdj
       exact h1 j d3 r3 fr3 h5 (Option.some.inj hdj)⟩ ⟨fun s R hr=>by
   rcases lookL_ctx _ _ _ _ hr with ⟨j,fr,hj⟩|⟨h1,h2⟩
   · have hjm:j<mm:=by rw [←htl,← t1];exact (List.getElem?_eq_some_iff.1 hj).1
     obtain ⟨lo,hi2,k1,k2,k3,k4⟩:=Wy.iv j s R fr hj (hl j hjm)
     refine ⟨lo,hi2,k1,k3,fun t ht hts b hb=>?_⟩
     rcases mem_ctxA _ _ _ ht with ht|⟨i,r',hi'⟩
     · cases ht
     · have him:i<mm:=by rw [←htl,← t1];exact (List.getElem?_eq_some_iff.1 hi').1
       by_cases hji:j=i
       · subst hji
         rw [hj] at hi'
         simp only [Option.some.injEq,Prod.mk.injEq] at hi'
         exact absurd hi'.1.symm hts
       · exact k4 i t r' hi' (hl i him) hji b hb
   · obtain ⟨v,hv,_⟩:=lookL_eqs l s _ h2
     exact (nomatch hv),fun s hs b hb=>by
   rcases mem_ctxA _ _ _ hs with hs|⟨j,r,hj⟩
   · cases hs
   · have hjm:j<mm:=by rw [←htl,← t1];exact (List.getElem?_eq_some_iff.1 hj).1
     exact Wy.lo j s r hj (hl j hjm) b hb,fun s hs t ht hne b hb=>by
   rcases mem_ctxA _ _ _ hs with hs|⟨j,r,hj⟩
   · cases hs
   · rcases mem_ctxA _ _ _ ht with ht|⟨i,r',hi'⟩
     · cases ht
     · have hjm:j<mm:=by rw [←htl,← t1];exact (List.getElem?_eq_some_iff.1 hj).1
       have him:i<mm:=by rw [←htl,← t1];exact (List.getElem?_eq_some_iff.1 hi').1
       refine Wy.ne j s r i t r' hj hi' (fun e=>?_) (hl j hjm) (hl i him) b hb
       subst e
       rw [hj] at hi'
       simp only [Option.some.injEq,Prod.mk.injEq] at hi'
       exact hne hi'.1⟩) mm _ a _ (hc0 mm) h0
 rwa [←hsz] at key
end
section
variable {P:Program} {ops:Array Oper} {Q:Exit→Act→World→Prop} {G:Act→World→Prop} {n:Nm} {l:List (Nat × Value)} {a:Act} {w:World} {w0:Bs} {Zi Z:FZ} {hl:List Own} {rest:List Oper} {o:Oper} {d:Nat} {V:Value}
theorem flU {id:Nat} {ol:List Oper} {y:Code} (m:Nat) (U:List Nat) (h:Fr n l a) (H:wpFlow P ol.toArray w n (fun L A=>∀ a' w',Ext w w'→FrR n L a' w'→Fresh w L A a' w'→tailR P ol.toArray (fun a w=>y.wp P Q a w) (ol.drop m) a' w') (eqs l) [] (ol.take m))
 (hm:P.follows .mixedOrders=true:=by kernel_rfl) (hB:lateUB ol.toArray m U=true:=by kernel_rfl):(Code.seq (.region id ol.toArray true) y).wp P Q a w:=
 wp_seq_k fun K hK=>wp_flowU m U h hm hB (by
  refine wpFlow_mono (fun L A hF a' w' X h1 h2=>?_) H
  exact tailR_mono (fun a w hy=>hK a w hy) (hF a' w' X h1 h2))
theorem tE (k:G a w):tailR P ops G [] a w:=k
theorem t1v (h:Fr n l a) (hd:dstB n.n o=some d) (hv:Val P l w o V) (kk:∀ a',Fr n ((d,V)::l) a'→tailR P ops G rest a' w):tailR P ops G (o::rest) a w:=by
 obtain ⟨h1,h2,h3⟩:=dstB_ok hd
 refine ⟨V,w,R1.val h h1 hv,?_⟩
 rw [h2]
 exact kk _ (h.put h3 V)
theorem tcps:∀ (k:Nat) {l l':List (Nat × Value)} {ol ol':List Oper} {a:Act},Fr n l a→cpRun n.n k l ol=some (l',ol')→(∀ a',Fr n l' a'→tailR P ops G ol' a' w)→tailR P ops G ol a w
 |0,l,l',ol,ol',a,h,e,kk=>by
  simp only [cpRun,Option.some.injEq,Prod.mk.injEq] at e
  obtain ⟨rfl,rfl⟩:=e
  exact kk a h
 |k+1,l,l',[],ol',a,h,e,kk=>by cases e
 |k+1,l,l',o::ol,ol',a,h,e,kk=>by
  simp only [cpRun] at e
  split at e
  · cases e
  · rename_i d hd
    split at e
    · cases e
    · rename_i V hV
      exact t1v h hd (cpV_ok hV) fun a' h'=>tcps k h' e kk
variable {t ty e:TypeId} {pos:String} {af:Array Edge} {x y:Operand} {b:Nat} {cs:List Value}
theorem tS (h:Fr n l a) (H:HZ w0 Zi Z hl w) (i:Nat) {k off:Nat} (hs:∀ w,(sizeOf t).run P w=.ok k w) (vs cs':List Value) (hl':List Own) (kk:∀ w',HZ w0 Zi Z hl' w'→tailR P ops G rest a w')
 (hx:ev l x=some (.pointer (some ⟨b,off,none⟩)):=by rfl) (hy:ev l y=some V:=by rfl) (hi:hl[i]?=some (.blk b (Cel cs e)):=by rfl) (hvs:V.cells.toList=vs:=by rfl) (hk:vs.length=k:=by rfl) (h1:allOne vs=true:=by rfl) (hle:Nat.ble (off+k) cs.length=true:=by rfl) (hcs:putAt cs off vs=cs':=by rfl) (hhl:hl.set i (.blk b (Cel cs' e))=hl':=by rfl) :
 tailR P ops G (⟨none,.store t x y,ty,pos,af,none⟩::rest) a w:=by
 have hle:off+k≤cs.length:=by simpa [Nat.ble_eq] using hle
 have hsz:V.cells.size=k:=by rw [←hk,← hvs];simp
 have e1:execOp a.eval ⟨none,.store t x y,ty,pos,af,none⟩=Instr.storeAt t (a.eval x) (a.eval y) >>= fun _=>pure .skip:=rfl
 obtain ⟨w',hr,hh,r1,r2,r3,r4,r5⟩:=storeCells_world (P:=P) b off e vs 0 cs w (H.hp.get i hi) (by omega) (allOne_mem h1)
 have e2:(execOp a.eval ⟨none,.store t x y,ty,pos,af,none⟩).run P w=.ok .skip w':=by
  rw [e1,h.ev hx,h.ev hy]
  simp [Instr.storeAt,Instr.sureAddr,storeVar,hs,hsz,hvs,hr]
 rw [Nat.add_zero,hcs] at hh
 have H':=H.hp.turn i hi (.blk b (Cel cs' e)) hh r1 r2 r3 (by omega) (fun b' _ hne=>r5 b' (fun e=>hne (by rw [e];rfl))) (fun b' hb'=>.inl (by simpa [Own.at] using hb'))
 refine ⟨undef,w',.inr ⟨wanted_none rfl,.inr ⟨e2,rfl⟩⟩,kk w' ?_⟩
 rw [←hhl]
 exact H.turn i hi H' (fun c _ hc=>r5 c fun e=>hc (by rw [e];rfl)) (fun c hc=>.inl (by simpa [Own.at] using hc))
end
end Go.Stp
end
section
namespace Go.ValP
open Go.Stp
structure Nd where
 k:Int
 op:Int
 v:V
 a:Rf
 b:Rf
 nm:List UInt8
 l:List Nd
instance:Inhabited Nd:=⟨⟨0,0,default,default,default,[],[]⟩⟩
structure Gt where
 v:V
 c:C
deriving Inhabited
structure Rs where
 v:V
 c:C
 l:List C
deriving Inhabited
structure Rn where
 p:List V
 c:C
deriving Inhabited
mutual
def NRel (Z:FZ):Nd→List Value→Prop
 |⟨k,op,v,a,b,nm,l⟩,cs=>∃ sv css,cs=[.int .i64 k,.int .i64 op,.int .i64 v.k,.int .i64 v.n,S v.s,.int .i64 a.c.s,.int .i64 a.c.c,.int .i64 a.c.r,.bool a.ac,.bool a.ar,.int .i64 b.c.s,.int .i64 b.c.c,.int .i64 b.c.r,.bool b.ac,.bool b.ar,S nm,sv]∧
  RdZ Z sv 17 (Subtype.val (p:=fun l:List Value=>l.length=17)) css∧NRels Z l css
def NRels (Z:FZ):List Nd→List (Cl 17)→Prop
 |[],[]=>True
 |n::l,c::cs=>NRel Z n c.1∧NRels Z l cs
 |[],_::_=>False
 |_::_,[]=>False
end
theorem NRel_iff {Z:FZ} {x:Nd} {cs:List Value}:NRel Z x cs↔∃ sv css,cs=[.int .i64 x.k,.int .i64 x.op,.int .i64 x.v.k,.int .i64 x.v.n,S x.v.s,.int .i64 x.a.c.s,.int .i64 x.a.c.c,.int .i64 x.a.c.r,.bool x.a.ac,.bool x.a.ar,.int .i64 x.b.c.s,.int .i64 x.b.c.c,.int .i64 x.b.c.r,.bool x.b.ac,.bool x.b.ar,S x.nm,sv]∧
 RdZ Z sv 17 (Subtype.val (p:=fun l:List Value=>l.length=17)) css∧NRels Z x.l css:=by
 cases x
 simp only [NRel]
mutual
theorem NRel_mono {Z Z':FZ} (hz:Z.subC Z'):∀ {x:Nd} {cs:List Value},NRel Z x cs→NRel Z' x cs
 |⟨k,op,v,a,b,nm,l⟩,cs,h=>by
  simp only [NRel] at h ⊢
  obtain ⟨sv,css,h1,h2,h3⟩:=h
  exact ⟨sv,css,h1,h2.subC hz,NRels_mono hz h3⟩
theorem NRels_mono {Z Z':FZ} (hz:Z.subC Z'):∀ {l:List Nd} {css:List (Cl 17)},NRels Z l css→NRels Z' l css
 |[],[],_=>by simp only [NRels]
 |n::l,c::cs,h=>by
  simp only [NRels] at h ⊢
  exact ⟨NRel_mono hz h.1,NRels_mono hz h.2⟩
 |[],_::_,h=>by simp only [NRels] at h
 |_::_,[],h=>by simp only [NRels] at h
end
def nodeEnc:Enc Nd where
 sz:=17
 rel Z x cs:=NRel Z x cs
 mono hz h:=NRel_mono hz h
 len h:=by
  obtain ⟨sv,css,h1,_⟩:=NRel_iff.1 h
  rw [h1];rfl
 one h:=by
  obtain ⟨sv,css,h1,h2,_⟩:=NRel_iff.1 h
  rw [h1]
  simp only [allOne,h2.one]
  rfl
theorem NRels_el {Z:FZ}:∀ {l:List Nd} {css:List (Cl 17)},NRels Z l css↔EL nodeEnc Z css l
 |[],[]=>by simp [NRels,EL]
 |n::l,c::cs=>by
  simp only [NRels,EL,NRels_el (l:=l) (css:=cs)]
  rfl
 |[],_::_=>by simp [NRels,EL]
 |_::_,[]=>by simp [NRels,EL]
theorem node_op {Z:FZ} {x:Nd} {cs:List Value} (h:nodeEnc.rel Z x cs):∃ sv,cs=[.int .i64 x.k,.int .i64 x.op,.int .i64 x.v.k,.int .i64 x.v.n,S x.v.s,.int .i64 x.a.c.s,.int .i64 x.a.c.c,.int .i64 x.a.c.r,.bool x.a.ac,.bool x.a.ar,.int .i64 x.b.c.s,.int .i64 x.b.c.c,.int .i64 x.b.c.r,.bool x.b.ac,.bool x.b.ar,S x.nm,sv]∧RdN Z sv nodeEnc x.l:=by
 obtain ⟨sv,css,h1,h2,h3⟩:=NRel_iff.1 h
 exact ⟨sv,h1,css,h2,NRels_el.1 h3⟩
theorem node_mk {Z:FZ} {x:Nd} {cs:List Value} (h:∃ sv,cs=[.int .i64 x.k,.int .i64 x.op,.int .i64 x.v.k,.int .i64 x.v.n,S x.v.s,.int .i64 x.a.c.s,.int .i64 x.a.c.c,.int .i64 x.a.c.r,.bool x.a.ac,.bool x.a.ar,.int .i64 x.b.c.s,.int .i64 x.b.c.c,.int .i64 x.b.c.r,.bool x.b.ac,.bool x.b.ar,S x.nm,sv]∧RdN Z sv nodeEnc x.l):nodeEnc.rel Z x cs:=by
 obtain ⟨sv,h1,css,h2,h3⟩:=h
 exact NRel_iff.2 ⟨sv,css,h1,h2,NRels_el.2 h3⟩
theorem nodeEnc_dflt {Z:FZ}:nodeEnc.rel Z default [.int .i64 0,.int .i64 0,.int .i64 0,.int .i64 0,S [],.int .i64 0,.int .i64 0,.int .i64 0,.bool false,.bool false,.int .i64 0,.int .i64 0,.int .i64 0,.bool false,.bool false,S [],.slice none 0 0]:=node_mk ⟨_,rfl,RdN.nil⟩
abbrev gtL (x:Gt):List Value:=[.int .i64 x.v.k,.int .i64 x.v.n,S x.v.s,.int .i64 x.c.s,.int .i64 x.c.c,.int .i64 x.c.r]
def zeroPl:List V:=List.replicate 128 ⟨0,0,[]⟩
theorem zeroPl_len:zeroPl.length=128:=by simp [zeroPl]
abbrev nA (n:Nd) (s:Value):Value:=.agg #[.int .i64 n.k,.int .i64 n.op,.int .i64 n.v.k,.int .i64 n.v.n,S n.v.s,.int .i64 n.a.c.s,.int .i64 n.a.c.c,.int .i64 n.a.c.r,.bool n.a.ac,.bool n.a.ar,.int .i64 n.b.c.s,.int .i64 n.b.c.c,.int .i64 n.b.c.r,.bool n.b.ac,.bool n.b.ar,S n.nm,s]
abbrev nL (n:Nd) (s:Value):List Value:=[.int .i64 n.k,.int .i64 n.op,.int .i64 n.v.k,.int .i64 n.v.n,S n.v.s,.int .i64 n.a.c.s,.int .i64 n.a.c.c,.int .i64 n.a.c.r,.bool n.a.ac,.bool n.a.ar,.int .i64 n.b.c.s,.int .i64 n.b.c.c,.int .i64 n.b.c.r,.bool n.b.ac,.bool n.b.ar,S n.nm,s]
abbrev gA (n:Gt):Value:=.agg #[.int .i64 n.v.k,.int .i64 n.v.n,S n.v.s,.int .i64 n.c.s,.int .i64 n.c.c,.int .i64 n.c.r]
abbrev gL (n:Gt):List Value:=[.int .i64 n.v.k,.int .i64 n.v.n,S n.v.s,.int .i64 n.c.s,.int .i64 n.c.c,.int .i64 n.c.r]
abbrev vA (n:V):Value:=.agg #[.int .i64 n.k,.int .i64 n.n,S n.s]
abbrev cA (n:C):Value:=.agg #[.int .i64 n.s,.int .i64 n.c,.int .i64 n.r]
abbrev pt (b:Nat):Value:=.pointer (some ⟨b,0,none⟩)
end Go.ValP
end
section
namespace Go.Stp
open Go.RowKit
section
variable {κ ν:Type} [DecidableEq κ] [Inhabited κ]
def kOf (m:List (κ × ν)) (q:Nat):κ:=match m[q]? with
 |some p=>p.1
 |none=>default
theorem kOf_some {m:List (κ × ν)} {q:Nat} {p:κ × ν} (h:m[q]?=some p):kOf m q=p.1:=by simp [kOf,h]
theorem keys_perm {m:List (κ × ν)} {is:List Nat} (hn:is.Nodup) (hi:∀ i∈is,i<m.length) (hall:∀ q,q<m.length→q∈is):(is.map (kOf m)).Perm (m.map (·.1)):=by
 have h1:is.Perm (List.range m.length):=(List.perm_ext_iff_of_nodup hn List.nodup_range).2 fun q=>⟨fun h=>List.mem_range.2 (hi q h),fun h=>hall q (List.mem_range.1 h)⟩
 have h2:=h1.map (kOf m)
 have h3:(List.range m.length).map (kOf m)=m.map (·.1):=by
  apply List.ext_getElem?
  intro q
  simp only [List.getElem?_map]
  rcases Nat.lt_or_ge q m.length with h|h
  · rw [List.getElem?_range h,List.getElem?_eq_getElem h]
    simp [kOf,h]
  · rw [List.getElem?_eq_none (by simpa using h),List.getElem?_eq_none h]
    rfl
 rwa [h3] at h2
variable (ek:κ→Value) (ev:ν→Value) (m:List (κ × ν))
def lcnt (is:List Nat):Nat:=(leftOf (mentL ek ev m 0).toArray is.toArray).size
variable {ek ev m}
theorem mentL_born:∀ x∈(mentL ek ev m 0),∃ q p,m[q]?=some p∧x=⟨ek p.1,ev p.2,q⟩:=by
 intro x hx
 obtain ⟨q,hq⟩:=List.getElem?_of_mem hx
 rw [mentL_get] at hq
 cases hp:m[q]? with
 |none=>rw [hp] at hq;cases hq
 |some p=>
  rw [hp] at hq
  simp only [Option.map_some,Option.some.injEq,Nat.zero_add] at hq
  exact ⟨q,p,hp,hq.symm⟩
theorem mentL_mem {q:Nat} {p:κ × ν} (h:m[q]?=some p):(⟨ek p.1,ev p.2,q⟩:MapEntry)∈mentL ek ev m 0:=
 List.mem_of_getElem? (i:=q) (by rw [mentL_get,h];simp)
theorem mentL_nodup:((mentL ek ev m 0).map (·.born)).Nodup:=by
 have:(mentL ek ev m 0).map (·.born)=List.range m.length:=by
  apply List.ext_getElem?
  intro q
  rw [List.getElem?_map,mentL_get]
  rcases Nat.lt_or_ge q m.length with h|h
  · rw [List.getElem?_range h,List.getElem?_eq_getElem h]
    simp
  · rw [List.getElem?_eq_none (l:=List.range m.length) (by simpa using h),List.getElem?_eq_none h]
    rfl
 rw [this]
 exact List.nodup_range
theorem lcnt_less {is:List Nat} {q:Nat} {p:κ × ν} (hp:m[q]?=some p) (hq:q ∉ is):lcnt ek ev m (is++[q])<lcnt ek ev m is:=by
 have h1:=left_shrinks (mentL ek ev m 0).toArray is.toArray ⟨ek p.1,ev p.2,q⟩ (by
  rw [leftOf,Array.toList_filter]
  exact List.mem_filter.2 ⟨mentL_mem hp,by simp [hq]⟩)
 have e:is.toArray.push q=(is++[q]).toArray:=by simp
 rw [e] at h1
 exact h1
theorem nodup_lt:∀ (n:Nat) (l:List Nat),l.Nodup→(∀ i∈l,i<n)→l.length≤n
 |0,[],_,_=>Nat.le_refl _
 |0,x::_,_,h=>absurd (h x (by simp)) (by omega)
 |n+1,l,hn,h=>by
  have h1:=nodup_lt n (l.erase n) (hn.erase n) fun i hi=>by
   have h2:=(List.Nodup.mem_erase_iff hn).1 hi
   have:=h i h2.2
   omega
  rw [List.length_erase] at h1
  split at h1<;>omega
theorem bound_len {is:List Nat} (hn:is.Nodup) (hi:∀ i∈is,i<m.length) {q:Nat} {p:κ × ν} (hp:m[q]?=some p) (hq:q ∉ is):is.length+1≤m.length:=by
 have hn':(q::is).Nodup:=List.nodup_cons.2 ⟨hq,hn⟩
 have:=nodup_lt m.length (q::is) hn' fun x hx=>by
  rcases List.mem_cons.1 hx with rfl|hx
  · exact (List.getElem?_eq_some_iff.1 hp).1
  · exact hi x hx
 simpa using this
theorem nodup_snoc {is:List Nat} {q:Nat} (hn:is.Nodup) (hq:q ∉ is):(is++[q]).Nodup:=by
 rw [List.nodup_append]
 exact ⟨hn,by simp,fun a ha b hb=>by simp at hb;subst hb;exact fun e=>hq (e▸ha)⟩
theorem bound_snoc {is:List Nat} {q:Nat} {p:κ × ν} (hi:∀ i∈is,i<m.length) (hp:m[q]?=some p):∀ i∈is++[q],i<m.length:=fun i h=>by
 rcases List.mem_append.1 h with h|h
 · exact hi i h
 · obtain rfl:i=q:=by simpa using h
   exact (List.getElem?_eq_some_iff.1 hp).1
variable {P:Program} {ops:Array Oper} {Q:Exit→Act→World→Prop} {rest:List Oper} {n:Nm} {dn:Nat} {l:List (Nat × Value)} {a:Act} {w:World} {w0:Bs} {hl:List Own} {Zi Z:FZ}
 {d:Option Nat} {x y z:Operand} {t kt et ty:TypeId} {pos:String} {af:Array Edge} {g:Option (Nat × Bool)} {b r:Nat}
theorem z_rangeM (h:Fr n l a) (H:HZ w0 Zi Z hl w) (i:Nat) (hi:hl[i]?=some (.blk b (MObj ek ev m))) (ht:P.underlying t=some (.map kt et)) (hx:Stp.ev l x=some (.map (some b))) (hd:Nat.blt dn n.n=true)
 (k:∀ a' r w',Ext w w'→HZ w0 Zi Z (hl++[.blk r (.mapIter (some b) m.length (([]:List Nat)).toArray m.length)]) w'→Fr n ((dn,.pointer (some ⟨r,0,none⟩))::l) a'→wpList P ops Q rest a' w') :
 wpList P ops Q (⟨some dn,.range t x,ty,pos,af,none⟩::rest) a w:=by
 refine wpList_plain rfl fun K hK=>?_
 have hb:=H.hp.get i hi
 have e1:execOp a.eval ⟨some dn,.range t x,ty,pos,af,none⟩=Instr.range t (a.eval x) >>= fun v=>pure (.value v):=rfl
 have e2:(execOp a.eval ⟨some dn,.range t x,ty,pos,af,none⟩).run P w=.ok (.value (.pointer (some ⟨w.heap.size,0,none⟩))) (w.alloc (.mapIter (some b) m.length #[] m.length)):=by
  rw [e1,h.ev hx,Sem.run_bind,run_range_map w t kt et b _ _ ht hb]
  rfl
 unfold Oper.wp
 rw [e2]
 exact hK _ _ (k _ w.heap.size _ (Ext.alloc _ _) (H.push (Ext.alloc _ _) (.blk _ _) (heap_alloc_new w _) (fun b hb=>by simp only [Own.at,Option.some.injEq] at hb;omega)) (h.put hd _))
theorem z_nextM (h:Fr n l a) (H:HZ w0 Zi Z hl w) (i j:Nat) {is:List Nat} (hi:hl[i]?=some (.blk b (MObj ek ev m))) (hj:hl[j]?=some (.blk r (.mapIter (some b) m.length is.toArray m.length))) (hx:Stp.ev l x=some (.pointer (some ⟨r,0,none⟩))) (hd:Nat.blt dn n.n=true)
 (k0:(∀ q,q<m.length→q∈is)→∀ a',Fr n ((dn,.tuple #[.bool false])::l) a'→wpList P ops Q rest a' w)
 (k1:∀ q p,m[q]?=some p→q ∉ is→∀ a' w',HZ w0 Zi Z (hl.set j (.blk r (.mapIter (some b) m.length (is++[q]).toArray m.length))) w'→Fr n ((dn,.tuple #[.bool true,ek p.1,ev p.2])::l) a'→wpList P ops Q rest a' w') :
 wpList P ops Q (⟨some dn,.next x false,ty,pos,af,none⟩::rest) a w:=by
 refine wpList_plain rfl fun K hK=>?_
 have hb:=H.hp.get i hi
 have hr:=H.hp.get j hj
 have e1:execOp a.eval ⟨some dn,.next x false,ty,pos,af,none⟩=Instr.next (a.eval x) false ty >>= fun v=>pure (.value v):=rfl
 rcases run_next_at (P:=P) w ty r b m.length m.length is.toArray (mentL ek ev m 0).toArray m.length hr hb (fun x hx=>by
  obtain ⟨q,p,hp,rfl⟩:=mentL_born x (by simpa using hx)
  exact (List.getElem?_eq_some_iff.1 hp).1) (Nat.le_refl _) with ⟨h0,hrun⟩|⟨e,he,w1,hw1,hrun⟩
 · have e2:(execOp a.eval ⟨some dn,.next x false,ty,pos,af,none⟩).run P w=.ok (.value (.tuple #[.bool false])) w:=by
    rw [e1,h.ev hx,Sem.run_bind,hrun]
    rfl
   unfold Oper.wp
   rw [e2]
   refine hK _ _ (k0 (fun q hq=>?_) _ (h.put hd _))
   have:=all_seen _ _ h0 ⟨ek (m[q]).1,ev (m[q]).2,q⟩ (by simpa using mentL_mem (List.getElem?_eq_getElem hq))
   simpa using this
 · obtain ⟨h1,h2⟩:=mem_left he
   obtain ⟨q,p,hp,rfl⟩:=mentL_born e (by simpa using h1)
   have e2:(execOp a.eval ⟨some dn,.next x false,ty,pos,af,none⟩).run P w=.ok (.value (.tuple #[.bool true,ek p.1,ev p.2])) (ChangeMaps.setBlock w1 r (.mapIter (some b) m.length (is++[q]).toArray m.length)):=by
    rw [e1,h.ev hx,Sem.run_bind,hrun]
    simp
   have H1:HZ w0 Zi Z hl w1:=by
    rcases hw1 with rfl|rfl
    · exact H
    · exact H.ext (Ext.drew w)
   have hr1:=H1.hp.get j hj
   unfold Oper.wp
   rw [e2]
   obtain ⟨s1,s2⟩:=MapKept.heap_set (o':=.mapIter (some b) m.length (is++[q]).toArray m.length) hr1
   have hat:∀ c,(Own.blk r (.mapIter (some b) m.length (is++[q]).toArray m.length)).at=some c→(Own.blk r (.mapIter (some b) m.length is.toArray m.length)).at=some c∨w1.heap.size≤c:=fun c hc=>.inl hc
   have hsame:∀ c,c<w1.heap.size→(Own.blk r (.mapIter (some b) m.length is.toArray m.length)).at≠some c→(ChangeMaps.setBlock w1 r (.mapIter (some b) m.length (is++[q]).toArray m.length)).heap[c]?=w1.heap[c]?:=fun c _ hne=>s2 c fun e=>hne (by rw [e];rfl)
   exact hK _ _ (k1 q p hp (by simpa using h2) _ _ (H1.turn j hj (H1.hp.turn j hj (.blk r (.mapIter (some b) m.length (is++[q]).toArray m.length)) s1 rfl rfl rfl (by simp [ChangeMaps.setBlock]) hsame hat) hsame hat) (h.put hd _))
theorem v_entryM {is:List Nat} {q:Nat} {p:κ × ν} (hx:Stp.ev l x=some (.pointer (some ⟨r,0,none⟩))) (hb:w.heap[b]?=some (MObj ek ev m)) (hr:w.heap[r]?=some (.mapIter (some b) m.length (is++[q]).toArray m.length)) (hp:m[q]?=some p) :
 Val P l w ⟨d,.entry x,ty,pos,af,g⟩ (.tuple #[ek p.1,ev p.2]):=fun n a h=>by
 have e1:execOp a.eval ⟨d,.entry x,ty,pos,af,g⟩=Instr.entry (a.eval x) >>= fun v=>pure (.value v):=rfl
 have e2:(is++[q]).toArray=is.toArray.push q:=by simp
 rw [e2] at hr
 have h1:=run_entry_at (P:=P) w r b m.length is.toArray (mentL ek ev m 0).toArray m.length ⟨ek p.1,ev p.2,q⟩ hr hb (by simpa using mentL_mem hp) (by simpa using mentL_nodup)
 rw [e1,h.ev hx,Sem.run_bind,h1]
 rfl
end
section
variable {α:Type} [Inhabited α] {enc:α→List Value} {k:Nat}
theorem flat_el (hk:∀ x,(enc x).length=k) (hk0:0<k):∀ (xs:List α) (t:Nat),t<xs.length*k→(xs.flatMap enc)[t]?=some ((enc (xs.toArray[t / k]!))[t % k]!)
 |[],t,h=>by simp at h
 |u::r,t,h=>by
  rcases Nat.lt_or_ge t k with h1|h1
  · rw [List.flatMap_cons,List.getElem?_append_left (by rw [hk];exact h1),Nat.div_eq_of_lt h1,Nat.mod_eq_of_lt h1]
    have:t<(enc u).length:=by rw [hk];exact h1
    simp [this]
  · have e1:t / k=(t-k) / k+1:=by
     rw [Nat.div_eq_sub_div hk0 h1]
    have e2:t % k=(t-k) % k:=Nat.mod_eq_sub_mod h1
    have hlt:t-k<r.length*k:=by
     simp only [List.length_cons,Nat.add_mul,Nat.one_mul] at h
     omega
    rw [List.flatMap_cons,List.getElem?_append_right (by rw [hk];exact h1),hk,flat_el hk hk0 r (t-k) hlt,e1,e2]
    have hq:(t-k) / k<r.length:=Nat.div_lt_of_lt_mul (by rw [Nat.mul_comm];exact hlt)
    simp [hq]
theorem flatK_list (hk:∀ x,(enc x).length=k) (hk0:0<k) (xs:List α):(Sort.flatK enc k xs.toArray).toList=xs.flatMap enc:=by
 have hl:(xs.flatMap enc).length=xs.length*k:=flatMap_len enc k hk xs
 apply List.ext_getElem?
 intro t
 rcases Nat.lt_or_ge t (xs.length*k) with h|h
 · rw [flat_el hk hk0 xs t h]
   simp [Sort.flatK,h]
 · rw [List.getElem?_eq_none (by simpa [Sort.flatK] using h),List.getElem?_eq_none (by omega)]
theorem holdsK_row {w:World} {g:Nat} {cur:Array Value} {e:TypeId} {xs:List α} (hk:∀ x,(enc x).length=k) (hk0:0<k) (hb:w.heap[g]?=some (.cells cur e (0,0))) (ht:cur.toList.take (xs.length*k)=xs.flatMap enc):Sort.HoldsK enc k w g 0 xs.toArray:=by
 intro j hj
 have hj':j<xs.length*k:=by simpa using hj
 refine ⟨?_,by simp [World.frozen?,hb]⟩
 have h1:(cur.toList.take (xs.length*k))[j]?=(xs.flatMap enc)[j]?:=by rw [ht]
 rw [List.getElem?_take_of_lt hj',← flatK_list hk hk0] at h1
 simp only [World.cell?,hb,Nat.zero_add]
 simp only [Option.isSome_none,Bool.false_eq_true,if_false]
 rw [←Array.getElem?_toList,h1,Array.getElem?_toList,Array.getElem?_eq_getElem hj,getElem!_pos _ j hj]
 rfl
theorem heap_sortedK {w:World} {g n:Nat} {os:Array Obj} {cur:Array Value} {e:TypeId} {fr:Nat × Nat} (d:Array α) (hb:w.heap[g]?=some (.cells cur e fr)) :
 (Proofs.sortWorldK enc k w g 0 n d os).heap[g]?=some (.cells (Sort.putCells id 0 (Sort.flatK enc k d) cur) e fr):=by
 have hg:g<w.heap.size:=(Array.getElem?_eq_some_iff.1 hb).1
 unfold Proofs.sortWorldK Sort.putRowK
 rw [Sort.heap_grow_old _ _ (by simpa using hg)]
 simp [Sort.putRow,Sort.mapBlock,Sort.ahead,Array.getElem?_modify,hb,Sort.onCells]
theorem heap_sortedK_ne {w:World} {g n:Nat} {os:Array Obj} (d:Array α) {c:Nat} (hc:c<w.heap.size) (hne:c≠g):(Proofs.sortWorldK enc k w g 0 n d os).heap[c]?=w.heap[c]?:=by
 unfold Proofs.sortWorldK Sort.putRowK
 rw [Sort.heap_grow_old _ _ (by simpa using hc)]
 simp [Sort.putRow,Sort.mapBlock,Sort.ahead,Array.getElem?_modify,Ne.symm hne]
theorem HZ.sorted {w0:Bs} {w:World} {Zi Z:FZ} {hl:List Own} (H:HZ w0 Zi Z hl w) (i:Nat) {e:TypeId} {g cap n:Nat} {os:Array Obj} {cur:Array Value} {xs ys:List α} (hk:∀ x,(enc x).length=k) (hk0:0<k) (hi:hl[i]?=some (.row e k (.slice (some ⟨g,0,none⟩) xs.length cap) xs.length (xs.flatMap enc)))
 (hb:w.heap[g]?=some (.cells cur e (0,0))) (h1:xs.length≤cap) (h2:cap≤maxLen) (h3:cur.size=cap*k) (hlen:ys.length=xs.length) :
 HZ w0 Zi Z (hl.set i (.row e k (.slice (some ⟨g,0,none⟩) xs.length cap) ys.length (ys.flatMap enc))) (Proofs.sortWorldK enc k w g 0 n ys.toArray os):=by
 have hf:(ys.flatMap enc).length=ys.length*k:=flatMap_len enc k hk ys
 have hcap:ys.length*k≤cap*k:=Nat.mul_le_mul_right k (by omega)
 have hhold:(Proofs.sortWorldK enc k w g 0 n ys.toArray os).ownsRow 0 e k (.slice (some ⟨g,0,none⟩) xs.length cap) ys.length (ys.flatMap enc):=
  ⟨hf,.inr ⟨g,cap,_,by rw [hlen],Nat.zero_le _,heap_sortedK _ hb,by omega,h2,by simp [Sort.putCells,h3],by
   rw [←flatK_list hk hk0 ys]
   apply List.ext_getElem?
   intro j
   have hsz:(Sort.flatK enc k ys.toArray).size=ys.length*k:=by simp
   rcases Nat.lt_or_ge j (ys.length*k) with hj|hj
   · have hjc:j<cur.size:=by rw [h3];omega
     rw [List.getElem?_take_of_lt hj,Array.getElem?_toList,Array.getElem?_toList]
     have e9:(Sort.flatK enc k ys.toArray)[j]?=some ((Sort.flatK enc k ys.toArray)[j]!):=by
      rw [Array.getElem?_eq_getElem (by rw [hsz];exact hj),getElem!_pos _ j (by rw [hsz];exact hj)]
     rw [e9]
     simp [Sort.putCells,hj,hjc]
   · rw [List.getElem?_take_eq_none hj,List.getElem?_eq_none (by rw [Array.length_toList,hsz];exact hj)]⟩⟩
 have hat:∀ b,(Own.row e k (.slice (some ⟨g,0,none⟩) xs.length cap) ys.length (ys.flatMap enc)).at=some b→(Own.row e k (.slice (some ⟨g,0,none⟩) xs.length cap) xs.length (xs.flatMap enc)).at=some b∨w.heap.size≤b:=fun b hb=>.inl hb
 have hsame:∀ c,c<w.heap.size→(Own.row e k (.slice (some ⟨g,0,none⟩) xs.length cap) xs.length (xs.flatMap enc)).at≠some c→(Proofs.sortWorldK enc k w g 0 n ys.toArray os).heap[c]?=w.heap[c]?:=fun c hc hne=>heap_sortedK_ne _ hc fun e=>hne (by rw [e];rfl)
 have hsz:w.heap.size≤(Proofs.sortWorldK enc k w g 0 n ys.toArray os).heap.size:=Proofs.size_sortWorldK_c enc k w g 0 n ys.toArray os
 exact H.turn i hi (H.hp.turn i hi (.row e k (.slice (some ⟨g,0,none⟩) xs.length cap) ys.length (ys.flatMap enc)) hhold rfl rfl rfl hsz hsame hat) hsame hat
end
end Go.Stp
end
section
namespace Go.ValP
open Go.Sort
def cLess (a b:C):Bool:=if a.s≠b.s then decide (a.s<b.s) else if a.r≠b.r then decide (a.r<b.r) else decide (a.c<b.c)
def cCmp (a b:C):Int:=if cLess a b=true then -1 else 1
theorem cLess_iff {a b:C}:cLess a b=true↔a.s<b.s∨(a.s=b.s∧(a.r<b.r∨(a.r=b.r∧a.c<b.c))):=by
 unfold cLess
 by_cases h1:a.s=b.s
 · by_cases h2:a.r=b.r
   · simp [h1,h2]
   · simp [h1,h2]
 · simp [h1]
theorem cLess_not {a b:C}:cLess a b=false↔¬ (a.s<b.s∨(a.s=b.s∧(a.r<b.r∨(a.r=b.r∧a.c<b.c)))):=by
 rw [←cLess_iff]
 simp
theorem lt_cCmp:Proofs.ltOf cCmp=cLess:=by
 funext a b
 unfold Proofs.ltOf cCmp
 cases cLess a b<;>simp
theorem cSWO:SWO (Proofs.ltOf cCmp):=by
 rw [lt_cCmp]
 refine ⟨fun x=>?_,fun x y z h1 h2=>?_,fun x y z h1 h2=>?_⟩
 · rw [cLess_not];omega
 · rw [cLess_iff] at h1 h2 ⊢;omega
 · rw [cLess_not] at h1 h2 ⊢;omega
theorem cTot:∀ x y:C,Proofs.ltOf cCmp x y=false→Proofs.ltOf cCmp y x=false→x=y:=by
 rw [lt_cCmp]
 intro x y h1 h2
 rw [cLess_not] at h1 h2
 obtain ⟨s,c,r⟩:=x
 obtain ⟨s',c',r'⟩:=y
 simp only at h1 h2
 have e1:s=s':=by omega
 have e2:r=r':=by omega
 have e3:c=c':=by omega
 rw [e1,e2,e3]
def cellSort (l:List C):List C:=l.mergeSort fun x y=>!(Proofs.ltOf cCmp) y x
def srtK (m:List (C × Bool)):List C:=cellSort (m.map (·.1))
theorem le_trans_c:∀ a b c:C,(!(Proofs.ltOf cCmp) b a)=true→(!(Proofs.ltOf cCmp) c b)=true→(!(Proofs.ltOf cCmp) c a)=true:=by
 intro a b c h1 h2
 simp only [Bool.not_eq_true'] at h1 h2 ⊢
 exact cSWO.ntrans c b a h2 h1
theorem le_total_c:∀ a b:C,((!(Proofs.ltOf cCmp) b a)||!(Proofs.ltOf cCmp) a b)=true:=by
 intro a b
 cases h:Proofs.ltOf cCmp b a with
 |false=>rfl
 |true=>
  cases h2:Proofs.ltOf cCmp a b with
  |false=>rfl
  |true=>
   have:=cSWO.trans a b a h2 h
   rw [cSWO.irrefl] at this
   cases this
theorem cellSort_perm (l:List C):(cellSort l).Perm l:=List.mergeSort_perm l _
theorem cellSort_sorted (l:List C):(cellSort l).Pairwise fun x y=>(!(Proofs.ltOf cCmp) y x)=true:=List.pairwise_mergeSort le_trans_c le_total_c l
theorem cellSort_eq {l l':List C} (h:l.Perm l'):cellSort l=cellSort l':=by
 refine List.Perm.eq_of_pairwise (le:=fun x y=>(!(Proofs.ltOf cCmp) y x)=true) (fun a b _ _ h1 h2=>?_) (cellSort_sorted l) (cellSort_sorted l') (((cellSort_perm l).trans h).trans (cellSort_perm l').symm)
 simp only [Bool.not_eq_true'] at h1 h2
 exact cTot a b h2 h1
theorem srtK_perm {m:List (C × Bool)} {ks:List C} (h:ks.Perm (m.map (·.1))):cellSort ks=srtK m:=cellSort_eq h
end Go.ValP
end
section
namespace Go.ValP
open Go.Stp
structure Tk where
 k:Int
 s:List UInt8
 a:Int
deriving Inhabited
abbrev tkL (x:Tk):List Value:=[.int .i64 x.k,S x.s,.int .i64 x.a]
def levelsL:List (List UInt8):=[[61,32,60,62,32,60,32,60,61,32,62,32,62,61],[38],[43,32,45],[42,32,47]]
end Go.ValP
end
