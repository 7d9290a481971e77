/- Joined texts. -/
import Derived.RangeFuncCalls
import Derived.OrdersIn
import Derived.TacticsIn
import Derived.RangeFuncLeaves
import Derived.Recover
import Derived.Test.YtcecjdnkcbfhlaaGreatDoorEL1
set_option linter.unusedSimpArgs false
set_option linter.unusedVariables false
set_option linter.unusedSectionVars false
section
namespace Go.Stp
open Go.RowKit
section
variable {P:Program} {ops:Array Oper} {Q:Exit→Act→World→Prop}
def plainOp (o:Oper):Bool:=match o.op with
 |.defer _=>false
 |_=>true
theorem rowsIn_round {n:Nat} {row:String} {args:Array Value} {w:World} {R:Value→World→Prop} (l:Nat) (h:Rows P row args w R):RowsIn (Fence.wide.inRound l) n P row args w R:=fun c cs _=>
 let ⟨v,w',r,s⟩:=h c cs
 ⟨v,w',r,stepsIn_wide.2 s⟩
theorem Oper.wp_round {o:Oper} {a:Act} {w:World} {K:Act→World→Prop} {n:Nat} (l:Nat) (hp:plainOp o=true) (h:o.wp P a w K Q):o.wpIn (Fence.wide.inRound l) n P a w K Q:=by
 have hd:∀ c,o.op≠.defer c:=fun c e=>by
  unfold plainOp at hp
  rw [e] at hp
  cases hp
 refine ⟨fun _ _=>trivial,?_⟩
 rw [show (Fence.wide.inRound l).round=some l from rfl,Oper.semAt_some l a.eval o hd]
 unfold Oper.wp at h
 generalize (execOp a.eval o).run P w=r at h
 cases r with
 |ok x w'=>
  cases x with
  |value v=>exact h
  |skip=>exact h
  |defer d=>exact h
  |enter f args=>exact ⟨fun e=>(nomatch e),CallsIn.inRound l (callsIn_wide.2 h)⟩
  |row r args=>exact ⟨fun e=>(nomatch e),rowsIn_round l h⟩
  |_=>exact h.elim
 |halt s w'=>
  cases s with
  |panic v=>exact h
  |_=>exact h.elim
def onlyN (K:Act→World→Prop):Exit→Act→World→Prop
 |.normal,a,w=>K a w
 |_,_,_=>False
theorem onlyN_lets {K:Act→World→Prop}:¬ LetsOut (onlyN K):=fun ⟨_,_,h⟩=>h
theorem wpAny_round {K:Act→World→Prop} {n:Nat} (l:Nat) (hp:∀ (i:Nat) (o:Oper),ops[i]?=some o→plainOp o=true):∀ (f:Nat) (listed:Array Bool) (a:Act) (w:World),wpAny P .any ops (onlyN K) f listed a w→wpAnyIn (Fence.wide.inRound l) n P .any ops (onlyN K) f listed a w
 |0,_,_,_,h=>h
 |f+1,listed,a,w,h=>⟨h.1,fun i hi=>by
  have h1:=h.2 i hi
  unfold wpOp at h1
  unfold wpOpIn
  cases ho:ops[i]? with
  |none=>rw [ho] at h1;exact wpAny_round l hp f _ _ _ h1
  |some o=>
   rw [ho] at h1
   simp only at h1 ⊢
   by_cases hw:Region.wanted o (yielded ops a.tmps)=true
   · rw [if_pos hw] at h1 ⊢
     rcases h1 with h1|⟨_,h1⟩
     · exact Oper.wp_round l (hp i o ho) (Oper.wp_mono (fun a w=>wpAny_round l hp f _ a w) h1)
     · exact absurd h1 onlyN_lets
   · rw [if_neg hw] at h1 ⊢
     exact ⟨fun _ _=>trivial,wpAny_round l hp f _ _ _ h1⟩⟩
theorem region_round {K:Act→World→Prop} {id:Nat} {a:Act} {w:World} {n:Nat} (l:Nat) (hm:P.follows .mixedOrders=true) (hp:ops.all plainOp=true)
 (h:wpAny P .any ops (onlyN K) ops.size (Array.replicate ops.size false) a { w with drawn:=w.drawn+1 }):(Code.region id ops true).wpIn (Fence.wide.inRound l) n P (onlyN K) a w:=
 wpIn_region_any hm (wpAny_round l (fun i o ho=>Array.all_eq_true_iff_forall_mem.1 hp o (Array.mem_of_getElem? ho)) _ _ _ _ h)
theorem wpOp_round {K K' K2:Act→World→Prop} {n:Nat} (l:Nat) (hp:∀ (i:Nat) (o:Oper),ops[i]?=some o→plainOp o=true) {i:Nat} {a:Act} {w:World} (hk:∀ a w,K' a w→K2 a w) (h1:wpOp P ops (onlyN K) i K' a w):wpOpIn (Fence.wide.inRound l) n P ops (onlyN K) i K2 a w:=by
 unfold wpOp at h1
 unfold wpOpIn
 cases ho:ops[i]? with
 |none=>rw [ho] at h1;exact hk _ _ h1
 |some o=>
  rw [ho] at h1
  simp only at h1 ⊢
  by_cases hw:Region.wanted o (yielded ops a.tmps)=true
  · rw [if_pos hw] at h1 ⊢
    rcases h1 with h1|⟨_,h1⟩
    · exact Oper.wp_round l (hp i o ho) (Oper.wp_mono hk h1)
    · exact absurd h1 onlyN_lets
  · rw [if_neg hw] at h1 ⊢
    exact ⟨fun _ _=>trivial,hk _ _ h1⟩
theorem wpOps_round {K:Act→World→Prop} {n:Nat} (l:Nat) (hp:∀ (i:Nat) (o:Oper),ops[i]?=some o→plainOp o=true):∀ (is:List Nat) (a:Act) (w:World),wpOps P ops (onlyN K) is a w→wpOpsIn (Fence.wide.inRound l) n P ops (onlyN K) is a w
 |[],_,_,h=>h
 |i::rest,a,w,h=>by
  rw [wpOps_cons] at h
  rw [wpOpsIn_cons]
  exact wpOp_round l hp (wpOps_round l hp rest) h
theorem regionS_round {K:Act→World→Prop} {id:Nat} {ol:List Oper} {a:Act} {w:World} {n:Nat} (l:Nat) (hp:ol.toArray.all plainOp=true) (h:wpList P ol.toArray (onlyN K) ol a w):(Code.region id ol.toArray false).wpIn (Fence.wide.inRound l) n P (onlyN K) a w:=by
 refine wpIn_region (wpOps_round l (fun i o ho=>Array.all_eq_true_iff_forall_mem.1 hp o (Array.mem_of_getElem? ho)) _ _ _ ?_)
 have:=wpOps_eq_wpList (P:=P) (ops:=ol.toArray) (Q:=onlyN K) ol 0 (fun j=>by simp)
 rw [←List.range_eq_range'] at this
 rw [show ol.toArray.size=ol.length by simp,this]
 exact h
end
end Go.Stp
end
section
namespace Go.Stp
open Go.RowKit
def marks (Ds:List Nat):List Deferred:=Ds.map fun D=>{ target:=.collected D,args:=#[] }
structure DZ (w0:Bs) (Zi Z:FZ) (Ds:List Nat):Prop where
 nd:Ds.Nodup
 z:∀ D∈Ds,Z D=some (.deferred (some []))
 zi:∀ D∈Ds,Zi D=none
 lo:∀ D∈Ds,w0.heap.size≤D
def shut:List Nat→World→World
 |[],w=>w
 |D::Ds,w=>shut Ds (w.putObj D (.deferred none))
def FZ.cut (Z:FZ) (D:Nat):FZ:=fun b=>if b=D then none else Z b
def FZ.less (Z:FZ):List Nat→FZ
 |[]=>Z
 |D::Ds=>FZ.less (Z.cut D) Ds
section
variable {w0:Bs} {w w':World} {Zi Z Z':FZ} {hl:List Own} {Ds:List Nat} {D:Nat}
theorem DZ.nil:DZ w0 Zi Z []:=⟨.nil,(fun _ h=>nomatch h),(fun _ h=>nomatch h),(fun _ h=>nomatch h)⟩
theorem DZ.sub (d:DZ w0 Zi Z Ds) (h:Z.sub Z'):DZ w0 Zi Z' Ds:=⟨d.nd,fun D hD=>h _ _ (d.z D hD),d.zi,d.lo⟩
theorem DZ.tail (d:DZ w0 Zi Z (D::Ds)):DZ w0 Zi (Z.cut D) Ds:=
 ⟨(List.nodup_cons.1 d.nd).2,fun E hE=>by
  unfold FZ.cut
  rw [if_neg (fun e:E=D=>(List.nodup_cons.1 d.nd).1 (e▸hE))]
  exact d.z E (List.mem_cons_of_mem _ hE),fun E hE=>d.zi E (List.mem_cons_of_mem _ hE),fun E hE=>d.lo E (List.mem_cons_of_mem _ hE)⟩
theorem FZ.cut_c (h:Z D=some (.deferred (some []))):Z.subC (Z.cut D):=fun b cs e fz hb=>by
 unfold FZ.cut
 split
 · rename_i e1;rw [e1,h] at hb;cases hb
 · exact hb
theorem FZ.subC.trans {Z Z' Z'':FZ} (h:Z.subC Z') (k:Z'.subC Z''):Z.subC Z'':=fun b cs e fz hb=>k b cs e fz (h b cs e fz hb)
theorem DZ.less:∀ {Ds:List Nat} {Z:FZ},DZ w0 Zi Z Ds→Z.subC (Z.less Ds)
 |[],_,_=>fun _ _ _ _ h=>h
 |D::Ds,Z,d=>by
  show Z.subC ((Z.cut D).less Ds)
  exact (FZ.cut_c (d.z D (by simp))).trans d.tail.less
theorem HZ.shut1 (H:HZ w0 Zi Z hl w) (hz:Z D=some (.deferred (some []))) (hzi:Zi D=none) (hlo:w0.heap.size≤D):HZ w0 Zi (Z.cut D) hl (w.putObj D (.deferred none)):=by
 have hs:∀ b,b≠D→(w.putObj D (.deferred none)).heap[b]?=w.heap[b]?:=fun b hb=>World.putObj_heap_other hb
 have hne:∀ o∈hl,∀ b,o.at=some b→b≠D:=fun o ho b hb e=>by
  have:=H.off o ho b hb
  rw [e,hz] at this
  cases this
 refine ⟨⟨⟨H.hp.below.os,H.hp.below.tape,H.hp.below.output,by rw [World.putObj_size];exact H.hp.below.size,fun k hk hn=>(hs k (fun e=>?_)).trans (H.hp.below.block k hk hn)⟩,fun i o hi=>Own.holds_same (H.hp.own i o hi) fun b hb=>hs b (hne o (List.mem_of_getElem? hi) b hb),H.hp.lo,H.hp.apart⟩,fun b o hb=>?_,fun o ho b hb=>?_,fun b o hb=>?_,fun b o hb=>?_⟩
 · have h1:k<w0.w.heap.size:=hk
   have h2:w0.w.heap.size≤D:=hlo
   omega
 · unfold FZ.cut at hb
   split at hb
   · cases hb
   · exact (hs b (by assumption)).trans (H.zin b o hb)
 · unfold FZ.cut
   split
   · rfl
   · exact H.off o ho b hb
 · unfold FZ.cut
   split
   · rename_i e;rw [e,hzi] at hb;cases hb
   · exact H.sub b o hb
 · unfold FZ.cut at hb
   split at hb
   · cases hb
   · exact H.new b o hb
theorem HZ.shut:∀ {Ds:List Nat} {Z:FZ} {w:World},HZ w0 Zi Z hl w→DZ w0 Zi Z Ds→HZ w0 Zi (Z.less Ds) hl (Stp.shut Ds w)
 |[],_,_,H,_=>H
 |D::Ds,Z,w,H,d=>by
  show HZ w0 Zi ((Z.cut D).less Ds) hl (Stp.shut Ds (w.putObj D (.deferred none)))
  exact HZ.shut (H.shut1 (d.z D (by simp)) (d.zi D (by simp)) (d.lo D (by simp))) d.tail
end
section
variable {P:Program} {fn:Func} {tmps:Array Value} {R:Ending→World→Prop}
theorem leavesM_marks {n:Nat}:∀ {Ds:List Nat} {w:World},Ds.Nodup→(∀ D∈Ds,w.heap[D]?=some (.deferred (some [])))→(∃ v,(results fn tmps).run P (shut Ds w)=.ok v (shut Ds w)∧R (.returned v) (shut Ds w))→LeavesInM Fence.wide n P fn tmps R (marks Ds) .returning w
 |[],_,_,_,h=>h
 |D::Ds,w,hn,hz,h=>⟨by simp,.inl ⟨D,_,rfl,run_takeDeferred (hz D (by simp)),leavesM_marks (List.nodup_cons.1 hn).2 (fun E hE=>by
  rw [World.putObj_heap_other (fun e:E=D=>(List.nodup_cons.1 hn).1 (e▸hE))]
  exact hz E (List.mem_cons_of_mem _ hE)) h⟩⟩
def OutM (P:Program) (fn:Func) (R:Value→World→Prop) (a:Act) (w:World):Prop:=
 ∃ Ds:List Nat,a.defers=marks Ds∧Ds.Nodup∧(∀ D∈Ds,w.heap[D]?=some (.deferred (some [])))∧∃ v,(results fn a.tmps).run P (shut Ds w)=.ok v (shut Ds w)∧R v (shut Ds w)
end
section
variable {P:Program} {fn:Func} {n:Nat} {l:List (Nat × Value)} {a:Act} {w:World} {R:Value→World→Prop} {w0:Bs} {Zi Z:FZ} {hl:List Own} {Ds:List Nat}
theorem enterM {f:FuncId} {c:Code} {vs:List Value} (hf:P.funcs[f]?=some fn) (hb:fn.body=some c) (hn:fn.ntmps=n) (hle:Nat.ble vs.length n=true)
 (h:∀ Q a,Fr n (slots 0 vs) a→(∀ a w,OutM P fn R a w→Q .ret a w)→(∀ a w,OutM P fn R a w→Q .normal a w)→c.wp P Q a w):Calls P f vs.toArray w (Ret R):=by
 refine callsIn_wide.1 (callsIn_of_wp_marks (n:=0) hf hb trivial (wpIn_wide.2 ?_))
 rw [hn]
 have key:∀ (a:Act) (w:World),OutM P fn R a w→LeavesInM Fence.wide 0 P fn a.tmps (Ret R) a.defers .returning w:=fun a w ⟨Ds,h1,h2,h3,h4⟩=>by
  rw [h1]
  exact leavesM_marks h2 h3 h4
 exact h _ _ (Fr.enter n vs hle) key key
theorem outM (h:Fr ⟨n,marks Ds⟩ l a) (H:HZ w0 Zi Z hl w) (d:DZ w0 Zi Z Ds) (k:∀ a w,Z.subC (Z.less Ds)→HZ w0 Zi (Z.less Ds) hl w→Fr n l a→Out P fn R a w):OutM P fn R a w:=by
 obtain ⟨_,v,hv,hR⟩:=k { a with defers:=[] } (shut Ds w) d.less (H.shut d) ⟨h.size,rfl,h.has⟩
 exact ⟨Ds,h.defers,d.nd,fun D hD=>H.zin _ _ (d.z D hD),v,hv,hR⟩
end
section
variable {P:Program} {n:Nat} {w:World}
theorem enGM {f:FuncId} {fn:Func} {c:Code} {vs:List Value} {R:Value→World→Prop} (hf:P.funcs[f]?=some fn) (is:List Nat) (l':List (Nat × Value))
 (h:∀ Q a,Fr n l' a→(∀ a w,OutM P fn R a w→Q .ret a w)→(∀ a w,OutM P fn R a w→Q .normal a w)→c.wp P Q a w) (hb:fn.body=some c:=by rfl) (hn:fn.ntmps=n:=by rfl) (hle:Nat.ble vs.length n=true:=by rfl) (e:pickS (slots 0 vs) is=l':=by rfl):Calls P f vs.toArray w (Ret R):=
 enterM hf hb hn hle fun Q a hfr hr hn=>h Q a (hfr.only is e) hr hn
end
section
variable {w0:Bs} {w w':World} {Zi Z Zr Z2:FZ} {hl hl2:List Own} {R i:Nat} {o o':Obj}
theorem HZ.putAt (H:HZ w0 Zi Z hl w) (i:Nat) (hi:hl[i]?=some (.blk R o)) (o':Obj) {hl':List Own} (hh:hl.set i (.blk R o')=hl'):HZ w0 Zi Z hl' (w.putObj R o'):=by
 subst hh
 have hlt:R<w.heap.size:=(Array.getElem?_eq_some_iff.1 (H.hp.get i hi)).1
 have hs:∀ b,b<w.heap.size→(Own.blk R o).at≠some b→(w.putObj R o').heap[b]?=w.heap[b]?:=fun b _ hb=>World.putObj_heap_other fun e=>hb (by rw [e];rfl)
 exact H.turn i hi (H.hp.turn i hi (.blk R o') (World.putObj_heap_same hlt) rfl rfl rfl (by rw [World.putObj_size];exact Nat.le_refl _) hs (fun b hb=>.inl hb)) hs (fun b hb=>.inl hb)
theorem HZ.putLast (H:HZ w0 Zi Z (hl++[.blk R o]) w) (o':Obj):HZ w0 Zi Z (hl++[.blk R o']) (w.putObj R o'):=
 H.putAt (o:=o) hl.length (by simp) o' (by simp)
theorem HZ.last (H:HZ w0 Zi Z (hl++[.blk R o]) w):w.heap[R]?=some o:=H.hp.get (o:=o) hl.length (by simp)
theorem HZ.own (H:HZ w0 Zi Z hl w):HZ w0 Z Z hl w:=⟨H.hp,H.zin,H.off,FZ.sub.refl _,fun _ _ h=>.inl h⟩
theorem HZ.base (H:HZ w0 Zi Zr hl w) (K:HZ w0 Zr Z2 hl2 w'):HZ w0 Zi Z2 hl2 w':=
 ⟨K.hp,K.zin,K.off,H.sub.trans K.sub,fun b o hb=>(K.new b o hb).elim (H.new b o) .inr⟩
theorem HZ.more {E E':FZ} (H:HZ w0 Zi Zr hl w) (hE:E.sub Zr) (X:Ext w w') (hn:∀ b o,E' b=some o→E b=some o∨(w.heap.size≤b∧w'.heap[b]?=some o)):∃ Z',Zr.sub Z'∧E'.sub Z'∧HZ w0 Zi Z' hl w':=by
 have key:∀ b o o',E' b=some o→Zr b=some o'→o=o':=fun b o o' h1 h2=>by
  rcases hn b o h1 with h|⟨h,_⟩
  · have:=hE b o h
    rw [h2] at this
    exact (Option.some.inj this).symm
  · rw [H.zlt h] at h2
    cases h2
 have hs:Zr.sub (fun b=>match E' b with|some o=>some o|none=>Zr b):=fun b o hb=>by
  show (match E' b with|some o=>some o|none=>Zr b)=some o
  cases he:E' b with
  |none=>exact hb
  |some o'=>rw [key b o' o he hb]
 refine ⟨fun b=>match E' b with|some o=>some o|none=>Zr b,hs,fun b o hb=>by show (match E' b with|some o=>some o|none=>Zr b)=some o;rw [hb],H.hp.ext X,fun b o hb=>?_,fun x hx b hb=>?_,H.sub.trans hs,fun b o hb=>?_⟩
 · replace hb:(match E' b with|some o=>some o|none=>Zr b)=some o:=hb
   cases he:E' b with
   |none=>rw [he] at hb;exact H.zin.ext X b o hb
   |some o'=>
    rw [he] at hb
    cases hb
    rcases hn b o he with h|⟨_,h⟩
    · exact H.zin.ext X b o (hE b o h)
    · exact h
 · show (match E' b with|some o=>some o|none=>Zr b)=none
   cases he:E' b with
   |none=>exact H.off x hx b hb
   |some o'=>
    rcases hn b o' he with h|⟨h,_⟩
    · have h1:=hE b o' h
      rw [H.off x hx b hb] at h1
      cases h1
    · have:=H.lt x hx b hb
      omega
 · replace hb:(match E' b with|some o=>some o|none=>Zr b)=some o:=hb
   cases he:E' b with
   |none=>rw [he] at hb;exact H.new b o hb
   |some o'=>
    rw [he] at hb
    cases hb
    rcases hn b o he with h|⟨h,_⟩
    · exact H.new b o (hE b o h)
    · exact .inr (.inl (Nat.le_trans H.sz h))
end
def Iter {α:Type} (P:Program) (gf:Nat) (cap:Array Value) (enc:α→Value) (xs:List α) (Z:FZ):Prop:=
 ∀ (l:Nat) (J:FZ→List α→World→Prop),
  (∀ E s A,J E s A→E.inn A)→
  (∀ E E' s A B,J E s A→Ext A B→(∀ b o,E' b=some o→E b=some o∨(A.heap.size≤b∧B.heap[b]?=some o))→J E' s B)→
  (∀ E pre x A,J E pre A→pre++[x] <+: xs→YieldAt Fence.wide 0 P l #[enc x] A fun e B=>e=.returned (.bool true)∧J E (pre++[x]) B)→
  ∀ E W,Z.sub E→J E [] W→CallsIn Fence.wide 0 P gf (#[.func (.yield l) #[] #[]]++cap) W fun e B=>(∃ v,e=.returned v)∧∃ E',J E' xs B
theorem Iter.sub {α:Type} {P:Program} {gf:Nat} {cap:Array Value} {enc:α→Value} {xs:List α} {Z Z':FZ} (h:Iter P gf cap enc xs Z) (hz:Z.sub Z'):Iter P gf cap enc xs Z':=
 fun l J a b c E W hE hJ=>h l J a b c E W (hz.trans hE) hJ
section
variable {α:Type} {P:Program} {Q:Exit→Act→World→Prop} {N p:Nat} {l:List (Nat × Value)} {a:Act} {w:World} {w0:Bs} {Zi Z:FZ} {hl:List Own} {Ds:List Nat} {g:Operand} {assign body:Code} {gf:Nat} {cap:Array Value} {enc:α→Value} {xs:List α}
theorem c_rangeF (J:Nat→List α→FZ→List Own→Prop) (h:Fr ⟨N,marks Ds⟩ l a) (H:HZ w0 Zi Z hl w) (d:DZ w0 Zi Z Ds) (hit:Iter P gf cap enc xs Z)
 (eg:∀ args w,(callFunc gf args).run P w=.ok (.enter gf args) w)
 (h0:∀ D Z',Z.sub Z'→DZ w0 Zi Z' (D::Ds)→J D [] Z' hl)
 (round:∀ (D R:Nat) (o:Obj) (pre:List α) (x:α) (Z1 Zr:FZ) (hl':List Own) (a':Act) (A:World),pre++[x] <+: xs→J D pre Z1 hl'→Z1.sub Zr→HZ w0 Zr Zr (hl'++[.blk R o]) A→Fr N ((p,enc x)::l) a'→
  assign.wpIn (Fence.wide.inRound R) 0 P (onlyN fun a1 A1=>A1.heap[R]?=some o∧∀ o',body.wpIn (Fence.wide.inRound R) 0 P (onlyN fun _ B=>∃ Z2 hl2,J D (pre++[x]) Z2 hl2∧HZ w0 Zr Z2 (hl2++[.blk R o']) B) a1 (A1.putObj R o')) a' A)
 (done:∀ (D:Nat) (Z1 Z':FZ) (hl':List Own) (R:Nat) (o:Obj) (a':Act) (A:World),J D xs Z1 hl'→Z1.sub Z'→HZ w0 Zi Z' (hl'++[.blk R o]) A→Fr ⟨N,marks (D::Ds)⟩ l a'→Q .normal a' A)
 (hg:ev l g=some (.func (.func gf) #[] cap):=by rfl) (hp:Nat.blt p N=true:=by rfl) :
 (Code.rangeFunc g #[p] assign body).wp P Q a w:=by
 refine wpIn_wide.1 (wpIn_rangeFunc (F:=Fence.wide) (n:=0) ?_)
 intro fn hfn
 rw [show Fence.wide.round=none from rfl]
 obtain ⟨rec,hrec⟩:∃ rec:LoopState→Option Code→Loop,rec=fun st pe=>{ state:=st,pending:=pe,fn,tmps:=a.tmps,params:=#[p],assign,body,defers:=w.heap.size }:=⟨_,rfl⟩
 have HD:=H.freeze (Ext.alloc w (.deferred (some []))) (heap_alloc_new w _) (Nat.le_refl _)
 have hZn:Z w.heap.size=none:=H.zlt (Nat.le_refl _)
 have hsub:Z.sub (Z.add w.heap.size (.deferred (some []))):=FZ.sub_add hZn
 have dz:DZ w0 Zi (Z.add w.heap.size (.deferred (some []))) (w.heap.size::Ds):=
  ⟨List.nodup_cons.2 ⟨(fun hm=>by have:=d.z _ hm;rw [hZn] at this;cases this),d.nd⟩,fun D hD=>by
   rcases List.mem_cons.1 hD with rfl|hD
   · simp [FZ.add]
   · exact hsub _ _ (d.z D hD),fun D hD=>by
   rcases List.mem_cons.1 hD with rfl|hD
   · cases hzi:Zi w.heap.size with
     |none=>rfl
     |some o=>have:=H.sub _ _ hzi;rw [hZn] at this;cases this
   · exact d.zi D hD,fun D hD=>by
   rcases List.mem_cons.1 hD with rfl|hD
   · exact H.sz
   · exact d.lo D hD⟩
 have HR:=HD.push (Ext.alloc (w.alloc (.deferred (some []))) (.loop (rec .ready none))) (.blk (w.heap.size+1) (.loop (rec .ready none))) (by
  have:=heap_alloc_new (w.alloc (.deferred (some []))) (.loop (rec .ready none))
  rw [World.size_alloc] at this
  exact this) (fun b hb=>by
   simp only [Own.at,Option.some.injEq] at hb
   rw [World.size_alloc]
   omega)
 obtain ⟨W1,hW1⟩:∃ W1,(w.alloc (.deferred (some []))).alloc (.loop (rec .ready none))=W1:=⟨_,rfl⟩
 rw [hW1] at HR
 refine ⟨w.heap.size+1,[{ target:=.collected w.heap.size,args:=#[] }],W1,{ target:=.fn (.func gf) cap,args:=#[.func (.yield (w.heap.size+1)) #[] #[]] },W1,gf,
  #[.func (.yield (w.heap.size+1)) #[] #[]]++cap,W1,?_,?_,?_,?_,(fun hd=>nomatch hd),?_⟩
 · rw [←hW1,hrec]
   exact run_enterLoop_outer _ _ _ _ _
 · simp only [resolve,h.ev hg]
   simp [go_sem]
 · intro f' hf'
   trivial
 · simp [invoke,go_sem,eg]
 · have hcall:=hit (w.heap.size+1) (fun E pre A=>∃ Z1 Zr hl',J w.heap.size pre Z1 hl'∧Z1.sub Zr∧E.sub Zr∧HZ w0 Zi Zr (hl'++[.blk (w.heap.size+1) (.loop (rec .ready none))]) A)
    (fun E s A ⟨_,_,_,_,_,hE,HA⟩ b o hb=>HA.zin b o (hE b o hb))
    (fun E E' s A B ⟨Z1,Zr,hl',hJ,h1,hE,HA⟩ X hn=>by
     obtain ⟨Z',k1,k2,HB⟩:=HA.more hE X hn
     exact ⟨Z1,Z',hl',hJ,h1.trans k1,k2,HB⟩)
    (fun E pre x A ⟨Z1,Zr,hl',hJ,h1,hE,HA⟩ hpx=>by
     have hl:=HA.last
     have hy:=run_yield (P:=P) (args:=#[enc x]) hl (by rw [hrec];rfl)
     rw [hrec] at hy
     refine ⟨fn,_,assign,body,hy,roundIn_of_wpIn hfn ?_⟩
     have hp':p<N:=by simpa [Nat.blt_eq] using hp
     have hfr:Fr N ((p,enc x)::l) { tmps:=(#[p].zip #[enc x]).foldl (fun t q=>t.setIfInBounds q.1 q.2) a.tmps,defers:=[] }:=by
      have h1:Fr N l { tmps:=a.tmps,defers:=[] }:=⟨h.size,rfl,h.has⟩
      have h2:=h1.put hp (enc x)
      simpa [Act.put] using h2
     refine wpIn_mono (round w.heap.size (w.heap.size+1) _ pre x Z1 Zr hl' _ A hpx hJ h1 HA.own hfr) ?_
     intro e a1 A1 hq
     cases e with
     |normal=>
      obtain ⟨hR,hb⟩:=hq
      refine ⟨_,run_beginRound hR (by rw [hrec]),wpIn_mono (hb _) ?_⟩
      intro e a2 B hq
      cases e with
      |normal=>
       obtain ⟨Z2,hl2,hJ2,H2⟩:=hq
       have hl2':=H2.last
       have:=run_endRound (P:=P) none hl2'
       refine ⟨_,_,this,rfl,Z2,Z2,hl2,hJ2,FZ.sub.refl _,hE.trans H2.sub,?_⟩
       have H3:=(HA.base H2).putLast (.loop (rec .ready none))
       rw [hrec] at H3 ⊢
       exact H3
      |_=>exact hq.elim
     |_=>exact hq.elim)
    (Z.add w.heap.size (.deferred (some []))) W1 hsub ⟨_,_,hl,h0 _ _ hsub dz,FZ.sub.refl _,FZ.sub.refl _,HR⟩
   refine hcall.mono ?_
   rintro e B ⟨⟨v,rfl⟩,E',Z1,Zr,hl',hJ,h1,hE,HB⟩
   have:=run_endLoop (P:=P) HB.last (by rw [hrec];simp)
   rw [hrec] at this
   exact ⟨none,_,this,done _ Z1 Zr hl' _ _ _ _ hJ h1 (HB.putLast _) ⟨h.size,by show _::a.defers=_;rw [h.defers];rfl,h.has⟩⟩
end
section
variable {P:Program} {K:Act→World→Prop} {a:Act} {w:World} {F:Fence} {n:Nat}
theorem rb_block {id:Nat} {x:Code} (h:x.wpIn F n P (onlyN K) a w):(Code.block id x).wpIn F n P (onlyN K) a w:=
 wpIn_block (wpIn_mono h fun e a w hq=>by
  cases e with
  |normal=>exact hq
  |_=>exact hq.elim)
theorem rb_region {R nn:Nat} {id:Nat} {ol:List Oper} (h:wpList P ol.toArray (onlyN K) ol a w) (hp:ol.toArray.all plainOp=true:=by kernel_rfl):(Code.region id ol.toArray false).wpIn (Fence.wide.inRound R) nn P (onlyN K) a w:=regionS_round R hp h
theorem rb_nil {ops:Array Oper} (h:K a w):wpList P ops (onlyN K) [] a w:=h
end
section
variable {P:Program} {ops:Array Oper} {Q:Exit→Act→World→Prop} {rest:List Oper} {o:Oper} {n:Nm} {d m:Nat} {l:List (Nat × Value)} {a:Act} {w:World} {V:Value}
theorem y1 (h:Fr n l a) (hd:dstB n.n o=some d) (hv:Val P l w o V) (kk:∀ a',Fr n ((d,V)::l) a'→wpListIn Fence.wide m P ops Q rest a' w):wpListIn Fence.wide m P ops Q (o::rest) a w:=by
 obtain ⟨h1,h2,h3⟩:=dstB_ok hd
 refine wpListIn_plain h1 fun K hK=>?_
 unfold Oper.wpIn
 rw [show Fence.wide.round=none from rfl,Oper.semAt_none,hv n a h]
 refine ⟨fun _ _=>trivial,hK _ _ ?_⟩
 rw [h2]
 exact kk _ (h.put h3 V)
theorem yNil (h:Q .normal a w):wpListIn Fence.wide m P ops Q [] a w:=h
theorem yCall {x:Operand} {xs:Array Operand} {ats:Array TypeId} {ty:TypeId} {pos:String} {af:Array Edge} {lo:Nat} {v:Value} {J:World→Prop} (h:Fr n l a) (hx:ev l x=some (.func (.yield lo) #[] #[])) (hy:evs l xs.toList=some [v])
 (hY:YieldAt Fence.wide 0 P lo #[v] w fun e B=>e=.returned (.bool true)∧J B) (kk:∀ a' w',J w'→Fr n ((d,.bool true)::l) a'→wpListIn Fence.wide m P ops Q rest a' w') (hdn:Nat.blt d n.n=true:=by rfl) :
 wpListIn Fence.wide m P ops Q (⟨some d,.call { callee:=.value x,args:=xs,argTypes:=ats },ty,pos,af,none⟩::rest) a w:=by
 obtain ⟨fn,tmps,assign,body,hy1,hR⟩:=hY
 refine wpListIn_plain rfl fun K hK=>?_
 have e1:execOp a.eval ⟨some d,.call { callee:=.value x,args:=xs,argTypes:=ats },ty,pos,af,none⟩=(do let d ← Deferred.ofValue (a.eval x) (xs.map a.eval);invoke d.target d.args):=rfl
 have e3:((do let d ← Deferred.ofValue (a.eval x) (xs.map a.eval);invoke d.target d.args):Sem Next).run P w=.ok (.round lo fn tmps assign body) w:=by
  rw [h.ev hx,h.evsA hy]
  simp only [Deferred.ofValue,Sem.run_bind,Sem.run_pure,Result.andThen_ok,invoke]
  simpa using hy1
 unfold Oper.wpIn
 rw [show Fence.wide.round=none from rfl,Oper.semAt_none,e1,e3]
 refine ⟨fun _ _=>trivial,(fun hd=>nomatch hd),?_⟩
 have hR':RoundIn Fence.wide (m-1) P lo fn tmps assign body w fun e B=>e=.returned (.bool true)∧J B:=⟨hR.1,fun c cs _=>hR.2 c cs (room_wide _)⟩
 refine hR'.mono ?_
 rintro e w' ⟨rfl,hJ⟩
 exact hK _ _ (kk _ w' hJ (h.put hdn _))
theorem rgY {id:Nat} {ol:List Oper} {y:Code} (h:∀ K:Act→World→Prop,(∀ a w,y.wp P Q a w→K a w)→wpListIn Fence.wide 0 P ol.toArray (Exit.then K Q) ol a w):(Code.seq (.region id ol.toArray false) y).wp P Q a w:=
 wp_seq_k fun K hK=>(wpIn_wide (n:=0)).1 (wpIn_region_lit (h K hK))
end
section
variable {σ α ρ:Type}
def foldO (B:σ→α→Option σ):σ→List α→Option σ
 |s,[]=>some s
 |s,x::xs=>obind (B s x) fun s'=>foldO B s' xs
theorem foldO_app {B:σ→α→Option σ}:∀ {s:σ} {xs ys:List α},foldO B s (xs++ys)=obind (foldO B s xs) fun s'=>foldO B s' ys
 |s,[],ys=>rfl
 |s,x::xs,ys=>by
  simp only [List.cons_append,foldO]
  cases B s x with
  |none=>rfl
  |some s'=>exact foldO_app
theorem fold_step {B:σ→α→Option σ} {s0 s sF:σ} {x:α} {pre xs:List α} (hF:foldO B s0 xs=some sF) (h:foldO B s0 pre=some s) (hp:pre++[x] <+: xs):∃ s1,B s x=some s1∧foldO B s0 (pre++[x])=some s1:=by
 obtain ⟨t,rfl⟩:=hp
 rw [List.append_assoc,foldO_app,h] at hF
 obtain ⟨s1,h1,_⟩:=bo (show obind (B s x) (fun s'=>foldO B s' ([]++t))=some sF from hF)
 refine ⟨s1,h1,?_⟩
 rw [foldO_app,h]
 show obind (B s x) (fun s'=>foldO B s' [])=some s1
 rw [h1]
 rfl
theorem fdS {B F:σ→α→Option ρ} {s:σ} {x:α} {r:ρ} (e:B=F) (h:B s x=some r):F s x=some r:=by rw [←e];exact h
end
end Go.Stp
end
section
namespace Go.Stp
open Go.RowKit
section
variable {P:Program} {ops:Array Oper}
def Goes (P:Program) (o:Oper) (a:Act) (w:World) (R:Value→World→Prop):Prop:=match (execOp a.eval o).run P w with
 |.ok (.value v) w'=>R v w'
 |.ok .skip w'=>R undef w'
 |.ok (.enter f args) w'=>Calls P f args w' (Ret R)
 |.ok (.row r args) w'=>Rows P r args w' R
 |_=>False
def Step1 (P:Program) (ops:Array Oper) (o:Oper) (a:Act) (w:World) (R:Value→World→Prop):Prop:=
 (Region.wanted o (yielded ops a.tmps)=false∧R undef w)∨(Region.wanted o (yielded ops a.tmps)=true∧Goes P o a w R)
theorem Goes.wp {o:Oper} {a:Act} {w:World} {R:Value→World→Prop} {K:Act→World→Prop} {Q:Exit→Act→World→Prop} (h:Goes P o a w R) (hk:∀ v w',R v w'→K (a.put o.dst v) w'):o.wp P a w K Q:=by
 unfold Goes at h
 unfold Oper.wp
 generalize (execOp a.eval o).run P w=r at h ⊢
 cases r with
 |ok x w'=>
  cases x with
  |value v=>exact hk _ _ h
  |skip=>exact hk _ _ h
  |enter f args=>exact Calls.mono (show Calls P f args _ (Ret R) from h) (fun e w' hr=>match e,hr with
   |.returned v,hr=>hk v w' hr
   |.panicked _,hr=>(show False from hr).elim
   |.outgrown,hr=>(show False from hr).elim)
  |row r args=>exact (show Rows P r args _ _ from h).mono hk
  |_=>exact h.elim
 |halt s w'=>exact h.elim
theorem Goes.mono {o:Oper} {a:Act} {w:World} {R R':Value→World→Prop} (h:Goes P o a w R) (hk:∀ v w',R v w'→R' v w'):Goes P o a w R':=by
 unfold Goes at h ⊢
 generalize (execOp a.eval o).run P w=r at h ⊢
 cases r with
 |ok x w'=>
  cases x with
  |value v=>exact hk _ _ h
  |skip=>exact hk _ _ h
  |enter f args=>exact Calls.mono (show Calls P f args _ (Ret R) from h) (fun e w' hr=>match e,hr with
   |.returned v,hr=>hk v w' hr
   |.panicked _,hr=>(show False from hr).elim
   |.outgrown,hr=>(show False from hr).elim)
  |row r args=>exact (show Rows P r args _ _ from h).mono hk
  |_=>exact h.elim
 |halt s w'=>exact h.elim
theorem Step1.mono {o:Oper} {a:Act} {w:World} {R R':Value→World→Prop} (h:Step1 P ops o a w R) (hk:∀ v w',R v w'→R' v w'):Step1 P ops o a w R':=
 h.elim (fun ⟨h1,h2⟩=>.inl ⟨h1,hk _ _ h2⟩) fun ⟨h1,h2⟩=>.inr ⟨h1,h2.mono hk⟩
theorem Step1.put {o:Oper} {u:Value} {a:Act} {w:World} {d:Option Tmp} {R:Value→World→Prop} (hs:∀ cs b,o.op≠.select cs b) (h:∀ e,d=some e→e ∉ o.looksAt ops):Step1 P ops o (a.put d u) w R↔Step1 P ops o a w R:=by
 unfold Step1 Goes
 rw [wanted_put o a d u h,execOp_put o hs a d u h]
theorem R1.step {o:Oper} {v:Value} {a:Act} {w w':World} {R:Value→World→Prop} (h:R1 P ops o a w v w') (hR:R v w'):Step1 P ops o a w R:=by
 rcases h with ⟨h1,rfl,rfl⟩|⟨h1,h2|⟨h2,rfl⟩⟩
 · exact .inl ⟨h1,hR⟩
 · refine .inr ⟨h1,?_⟩
   unfold Goes
   rw [h2]
   exact hR
 · refine .inr ⟨h1,?_⟩
   unfold Goes
   rw [h2]
   exact hR
def anyC (P:Program) (ops:Array Oper) (kk:Nat) (C:World→Prop) (F:Act→World→Prop):Nat→Array Bool→Act→World→Prop
 |0,listed,a,w=>(listed.getD kk true=false→C w)∧Region.ready .any ops listed=[]∧F a w
 |f+1,listed,a,w=>(listed.getD kk true=false→C w)∧(Region.ready .any ops listed=[]→F a w)∧
  ∀ i∈Region.ready .any ops listed,∃ o,ops[i]?=some o∧Step1 P ops o a w (fun v w'=>anyC P ops kk C F f (listed.setIfInBounds i true) (a.put o.dst v) w')
variable {kk:Nat} {C:World→Prop} {F:Act→World→Prop}
theorem anyC.c {f:Nat} {listed:Array Bool} {a:Act} {w:World} (h:anyC P ops kk C F f listed a w):listed.getD kk true=false→C w:=by
 cases f<;>exact h.1
theorem wpAny_of_anyC {Q:Exit→Act→World→Prop}:∀ (f:Nat) (listed:Array Bool) (a:Act) (w:World),anyC P ops kk C (fun a w=>Q .normal a w) f listed a w→wpAny P .any ops Q f listed a w
 |0,_,_,_,h=>h.2
 |f+1,listed,a,w,h=>⟨h.2.1,fun i hi=>by
  obtain ⟨o,ho,hr⟩:=h.2.2 i hi
  unfold wpOp
  simp only [ho]
  rcases hr with ⟨hw,hr⟩|⟨hw,hr⟩
  · rw [if_neg (by rw [hw];exact Bool.false_ne_true)]
    exact wpAny_of_anyC f _ _ _ hr
  · rw [if_pos hw]
    left
    exact hr.wp fun v w' h=>wpAny_of_anyC f _ _ _ h⟩
def upB (ops:Array Oper) (listed:Array Bool) (i kk:Nat) (U:List Nat):Bool:=U.contains kk&&!Nat.beq i kk&&!U.contains i&&U.all fun u=>!listed.getD u true&&match ops[u]? with
 |none=>false
 |some o=>o.after.any fun e=>Region.binds .any e&&(Nat.beq e.on i||U.contains e.on)
theorem upB_ok {listed:Array Bool} {i:Nat} {U:List Nat} (h:upB ops listed i kk U=true):kk∈U∧i≠kk∧(∀ u∈U,listed.getD u true=false)∧∀ u∈U,∀ o,ops[u]?=some o→∃ e∈o.after,Region.binds .any e=true∧(e.on=i∨e.on∈U):=by
 simp only [upB,Bool.and_eq_true,Bool.not_eq_true'] at h
 obtain ⟨⟨⟨h1,h2⟩,h3⟩,h4⟩:=h
 refine ⟨List.contains_iff_mem.1 h1,fun e=>?_,fun u hu=>?_,fun u hu o ho=>?_⟩
 · subst e;rw [Nat.beq_refl] at h2;cases h2
 · have:=List.all_eq_true.1 h4 u hu
   simp only [Bool.and_eq_true,Bool.not_eq_true'] at this
   exact this.1
 · have:=List.all_eq_true.1 h4 u hu
   rw [ho] at this
   simp only [Bool.and_eq_true] at this
   obtain ⟨e,hlt,hb⟩:=Array.any_eq_true.1 this.2
   simp only [Bool.and_eq_true,Bool.or_eq_true] at hb
   refine ⟨o.after[e],Array.getElem_mem hlt,hb.1,hb.2.imp (fun q=>Nat.eq_of_beq_eq_true q) (fun q=>List.contains_iff_mem.1 q)⟩
theorem anyC_first {i:Nat} {oi:Oper} {v:Value} {U:List Nat} (hi:ops[i]?=some oi) (hsel:∀ (j:Nat) (o:Oper) cs b,ops[j]?=some o→o.op≠.select cs b)
 (hkU:kk∈U) (hik:i≠kk) (hU:∀ u∈U,∀ o,ops[u]?=some o→∃ e∈o.after,Region.binds .any e=true∧(e.on=i∨e.on∈U)) :
 ∀ (f:Nat) (listed:Array Bool) (a:Act) (w:World),
  (∀ j oj,ops[j]?=some oj→j≠i→listed.getD j true=false→(∀ e∈oj.after,Region.binds .any e=true→e.on≠i)→oi.apart ops oj=true)→
  i∈Region.ready .any ops listed→(∀ u∈U,listed.getD u true=false)→(∀ w,C w→R1 P ops oi a w v w)→
  anyC P ops kk C F f (listed.setIfInBounds i true) (a.put oi.dst v) w→anyC P ops kk C F (f+1) listed a w:=by
 have key:∀ {f:Nat} {listed:Array Bool} {a:Act} {w:World},(∀ u∈U,listed.getD u true=false)→anyC P ops kk C F f (listed.setIfInBounds i true) a w→C w:=fun hl H=>H.c (by rw [getD_set_ne true hik];exact hl kk hkU)
 intro f
 induction f with
 |zero=>
  intro listed a w _ hr hl hy H
  refine ⟨fun _=>key hl H,fun h=>(by rw [h] at hr;cases hr),fun j hj=>?_⟩
  by_cases hji:j=i
  · subst hji;exact ⟨oi,hi,(hy w (key hl H)).step H⟩
  · have:=ready_mono hj hji
    rw [H.2.1] at this
    cases this
 |succ f ih=>
  intro listed a w hfree hr hl hy H
  have hun:=(mem_ready.1 hr).1
  refine ⟨fun _=>key hl H,fun h=>(by rw [h] at hr;cases hr),fun j hj=>?_⟩
  by_cases hji:j=i
  · subst hji;exact ⟨oi,hi,(hy w (key hl H)).step H⟩
  · obtain ⟨o,ho,hK'⟩:=H.2.2 j (ready_mono hj hji)
    obtain ⟨hjun,oj,hoj,hall⟩:=mem_ready.1 hj
    obtain rfl:oj=o:=Option.some.inj (hoj.symm.trans ho)
    have hnot:∀ e∈oj.after,Region.binds .any e=true→e.on≠i:=fun e he hb heq=>by
     have h1:=hall e he hb
     rw [heq,getD_both hun] at h1
     cases h1
    have hjU:j ∉ U:=fun hm=>by
     obtain ⟨e,he,hb,hor⟩:=hU j hm oj hoj
     have h1:=hall e he hb
     rcases hor with q|q
     · rw [q,getD_both hun] at h1;cases h1
     · rw [getD_both (hl _ q)] at h1;cases h1
    obtain ⟨h1,h2,h3⟩:=Oper.apart_spec (hfree j oj hoj hji hjun hnot)
    have hfree':∀ k ok,ops[k]?=some ok→k≠i→(listed.setIfInBounds j true).getD k true=false→
     (∀ e∈ok.after,Region.binds .any e=true→e.on≠i)→oi.apart ops ok=true:=fun k ok hk hki hun hno=>by
     refine hfree k ok hk hki ?_ hno
     by_cases hjk:j=k
     · subst hjk;exact hjun
     · rw [getD_set_ne true hjk] at hun;exact hun
    refine ⟨oj,hoj,((Step1.put (hsel j oj · · hoj) h1).1 hK').mono fun v' w' hK=>ih (listed.setIfInBounds j true) _ w' hfree' (ready_mono hr (Ne.symm hji)) (fun u hu=>by rw [getD_set_ne true (fun e:j=u=>hjU (e▸hu))];exact hl u hu) (fun w hw=>(R1.put (hsel i oi · · hi) h3).2 (hy w hw)) ?_⟩
    rw [Array.setIfInBounds_comm _ _ hji,← Act.put_comm a v v' h2]
    exact hK
variable {n:Nm} {d:Nat} {l:List (Nat × Value)} {a:Act} {w:World} {V:Value} {o:Oper}
theorem aC_hoist {f:Nat} {oi:Oper} {listed listed':Array Bool} (i:Nat) (U:List Nat) (h:Fr n l a) (hi:ops[i]?=some oi) (hv:∀ w,C w→Val P l w oi V) (hb:(hoistB ops listed i&&upB ops listed i kk U)=true)
 (hl:listed.setIfInBounds i true=listed') (k:∀ a',Fr n ((d,V)::l) a'→anyC P ops kk C F f listed' a' w) (hg:oi.guard=none:=by rfl) (hd:oi.dst=some d:=by rfl) (hdn:Nat.blt d n.n=true:=by rfl):anyC P ops kk C F (f+1) listed a w:=by
 simp only [hoistB,Bool.and_eq_true] at hb
 obtain ⟨⟨⟨hsel,hr⟩,hf⟩,hu⟩:=hb
 obtain ⟨u1,u2,u3,u4⟩:=upB_ok hu
 subst hl
 refine anyC_first hi (Region.noSelect_spec hsel) u1 u2 u4 f listed a w (Region.free_spec hi hf) (by simpa using hr) u3 (fun w hw=>.inr ⟨wanted_none hg,.inl (hv w hw n a h)⟩) ?_
 rw [hd]
 exact k _ (h.put hdn V)
theorem aC_one {f i:Nat} {R:Value→World→Prop} {listed listed':Array Bool} (hr:Region.ready .any ops listed=[i]) (hi:ops[i]?=some o) (hC:listed.getD kk true=false→C w) (hg:o.guard=none) (hR:Goes P o a w R) (hl:listed.setIfInBounds i true=listed')
 (k:∀ v w',R v w'→anyC P ops kk C F f listed' (a.put o.dst v) w'):anyC P ops kk C F (f+1) listed a w:=by
 subst hl
 refine ⟨hC,fun h=>absurd h (by rw [hr];simp),fun j hj=>?_⟩
 rw [hr] at hj
 obtain rfl:j=i:=by simpa using hj
 exact ⟨o,hi,.inr ⟨wanted_none hg,hR.mono k⟩⟩
theorem aC_op {f:Nat} {R:Value→World→Prop} {listed listed':Array Bool} (i:Nat) (h:Fr n l a) (hi:ops[i]?=some o) (hr:Region.ready .any ops listed=[i]) (hC:listed.getD kk true=false→C w) (hR:Goes P o a w R) (hl:listed.setIfInBounds i true=listed')
 (k:∀ v w' a',R v w'→Fr n ((d,v)::l) a'→anyC P ops kk C F f listed' a' w') (hg:o.guard=none:=by rfl) (hd:o.dst=some d:=by rfl) (hdn:Nat.blt d n.n=true:=by rfl):anyC P ops kk C F (f+1) listed a w:=
 aC_one hr hi hC hg hR hl fun v w' hv=>by rw [hd];exact k v w' _ hv (h.put hdn v)
theorem aC_st {f:Nat} {R:Value→World→Prop} {listed listed':Array Bool} (i:Nat) (h:Fr n l a) (hi:ops[i]?=some o) (hr:Region.ready .any ops listed=[i]) (hC:listed.getD kk true=false→C w) (hR:Goes P o a w R) (hl:listed.setIfInBounds i true=listed')
 (k:∀ v w' a',R v w'→Fr n l a'→anyC P ops kk C F f listed' a' w') (hg:o.guard=none:=by rfl) (hd:o.dst=none:=by rfl):anyC P ops kk C F (f+1) listed a w:=
 aC_one hr hi hC hg hR hl fun v w' hv=>by rw [hd];exact k v w' _ hv h
theorem aC_end {f:Nat} {listed:Array Bool} (hC:listed.getD kk true=false→C w) (hr:Region.ready .any ops listed=[]) (k:F a w):anyC P ops kk C F f listed a w:=by
 cases f with
 |zero=>exact ⟨hC,hr,k⟩
 |succ f=>exact ⟨hC,fun _=>k,fun i hi=>by rw [hr] at hi;cases hi⟩
theorem Does.goes {R:Value→World→Prop} (h:Fr n l a) (hv:Does P l w o R) (hd:o.dst=some d:=by rfl) (hdn:Nat.blt d n.n=true:=by rfl):Goes P o a w R:=by
 have hw:=hv n a h (fun a' w'=>∃ v,a'=a.put (some d) v∧R v w') (fun _ _ _=>False) (fun v w' hr=>⟨v,by rw [hd],hr⟩)
 have hlt:d<a.tmps.size:=by rw [h.size];simpa [Nat.blt_eq] using hdn
 have inj:∀ v v':Value,a.put (some d) v=a.put (some d) v'→v=v':=fun v v' e=>by
  have:=congrArg (fun b:Act=>b.tmps.getD d undef) e
  simpa only [getD_put_self hlt] using this
 unfold Oper.wp Oper.upon at hw
 unfold Goes
 rw [hd] at hw
 generalize (execOp a.eval o).run P w=r at hw ⊢
 cases r with
 |ok x w'=>
  cases x with
  |value v=>
   obtain ⟨v',e,hr⟩:=hw
   exact (inj _ _ e).symm▸hr
  |skip=>
   obtain ⟨v',e,hr⟩:=hw
   exact (inj _ _ e).symm▸hr
  |defer dd=>
   obtain ⟨v',e,hr⟩:=hw
   have:=congrArg (fun b:Act=>b.defers.length) e
   simp [Act.put] at this
  |enter f args=>exact Calls.mono (show Calls P f args _ _ from hw) (fun e w'' hr=>by
   cases e with
   |returned v=>
    obtain ⟨v',e,hr⟩:=hr
    exact (inj _ _ e).symm▸hr
   |panicked ch=>exact (show False from hr)
   |outgrown=>obtain ⟨_,_,hf⟩:=(show LetsOut _ from hr);exact hf)
  |row r args=>exact (show Rows P r args _ _ from hw).mono (fun v w'' hr=>by
   obtain ⟨v',e,hr⟩:=hr
   exact (inj _ _ e).symm▸hr)
  |_=>exact hw.elim
 |halt s w'=>
  cases s with
  |panic v=>exact (show False from hw)
  |_=>exact hw.elim
theorem R1.goes {v:Value} {w':World} (h:R1 P ops o a w v w') (hg:o.guard=none:=by rfl):Goes P o a w (fun v' w''=>v'=v∧w''=w'):=by
 rcases h with ⟨h1,_,_⟩|⟨_,h2|⟨h2,rfl⟩⟩
 · rw [wanted_none hg] at h1;cases h1
 · unfold Goes;rw [h2];exact ⟨rfl,rfl⟩
 · unfold Goes;rw [h2];exact ⟨rfl,rfl⟩
end
section
variable {P:Program} {n:Nm} {l:List (Nat × Value)} {a:Act} {w w':World} {w0:Bs} {Zi Z Z':FZ} {hl:List Own} {Q:Exit→Act→World→Prop} {K:Act→World→Prop}
theorem HZ.weak (H:HZ w0 Zi Z' hl w) (h:Z.sub Z') (hi:Zi.sub Z):HZ w0 Zi Z hl w:=
 ⟨H.hp,fun b o hb=>H.zin b o (h b o hb),(fun o ho b hb=>by
  cases hz:Z b with
  |none=>rfl
  |some ob=>
   have:=h b ob hz
   rw [H.off o ho b hb] at this
   cases this),hi,fun b o hb=>H.new b o (h b o hb)⟩
theorem HZ.backO {w1:World} {p:Nat} {o:Obj} (H:HZ w0 Zi Z hl w) (eB:w0=⟨w1,[p]⟩) (i:Nat) (hi:hl[i]?=some (.blk p o)):Z.sub (ZB Zi w1.heap.size w):=fun b ob hb=>by
 unfold ZB
 split
 · exact H.zin b ob hb
 · rename_i hn
   rcases H.new b ob hb with h|h|h
   · exact h
   · subst eB;exact absurd h hn
   · subst eB
     obtain rfl:b=p:=by simpa using h
     have:=H.off _ (List.mem_of_getElem? hi) b rfl
     rw [hb] at this
     cases this
theorem c_lanyC {id:Nat} {ol:List Oper} (i kk:Nat) (H:HZ w0 Zi Z hl w)
 (h:∀ w,HZ w0 Zi Z hl w→anyC P ol.toArray kk (HZ w0 Zi Z (hl.set i dead)) (fun a w=>Q .normal a w) ol.toArray.size (Array.replicate ol.toArray.size false) a w) (hm:P.follows .mixedOrders=true:=by kernel_rfl):(Code.region id ol.toArray true).wp P Q a w:=
 wp_region_any hm (wpAny_of_anyC _ _ _ _ (h _ (H.ext (Ext.drew w))))
theorem sq_anyC {id:Nat} {ol:List Oper} {y:Code} (i kk:Nat) (H:HZ w0 Zi Z hl w)
 (h:∀ K:Act→World→Prop,(∀ a w,y.wp P Q a w→K a w)→∀ w,HZ w0 Zi Z hl w→anyC P ol.toArray kk (HZ w0 Zi Z (hl.set i dead)) K ol.toArray.size (Array.replicate ol.toArray.size false) a w) (hm:P.follows .mixedOrders=true:=by kernel_rfl):(Code.seq (.region id ol.toArray true) y).wp P Q a w:=
 wp_seq_k fun K hK=>wp_region_any hm (wpAny_of_anyC (Q:=Exit.then K Q) _ _ _ _ (h K hK _ (H.ext (Ext.drew w))))
theorem rb_anyC {R nn:Nat} {id:Nat} {ol:List Oper} (i kk:Nat) (H:HZ w0 Zi Z hl w)
 (h:∀ w,HZ w0 Zi Z hl w→anyC P ol.toArray kk (HZ w0 Zi Z (hl.set i dead)) K ol.toArray.size (Array.replicate ol.toArray.size false) a w) (hm:P.follows .mixedOrders=true:=by kernel_rfl) (hp:ol.toArray.all plainOp=true:=by kernel_rfl):(Code.region id ol.toArray true).wpIn (Fence.wide.inRound R) nn P (onlyN K) a w:=
 region_round R hm hp (wpAny_of_anyC (Q:=onlyN K) _ _ _ _ (h _ (H.ext (Ext.drew w))))
variable {ops:Array Oper} {x y:Operand} {t ty e:TypeId} {pos:String} {af:Array Edge} {b off:Nat} {cs:List Value} {u:Value}
theorem g_store1 (h:Fr n l a) (H:HZ w0 Zi Z hl w) (i:Nat) (hs:∀ w,(sizeOf t).run P w=.ok 1 w) (hu:u.cells.toList=[u]) (h1:u.oneCell'=true)
 (hx:ev l x=some (.pointer (some ⟨b,off,none⟩)):=by rfl) (hy:ev l y=some u:=by rfl) (hi:hl[i]?=some (.blk b (Cel cs e)):=by rfl) (hlt:off<cs.length:=by simp) :
 Goes P ⟨none,.store t x y,ty,pos,af,none⟩ a w (fun _ w'=>HZ w0 Zi Z (hl.set i (.blk b (Cel (cs.set off u) e))) w'):=by
 obtain ⟨w',hR,hh,r1,r2,r3,r4,r5⟩:=r_store1 (P:=P) (ops:=#[]) (ty:=ty) (pos:=pos) (af:=af) h rfl hx hy hu h1 hs (H.hp.get i hi) hlt
 refine (R1.goes hR rfl).mono ?_
 rintro v w'' ⟨rfl,rfl⟩
 have hsm:∀ c,c<w.heap.size→(Own.blk b (Cel cs e)).at≠some c→w''.heap[c]?=w.heap[c]?:=fun c _ hne=>r5 c fun q=>hne (by rw [q];rfl)
 exact H.turn i hi (H.hp.turn i hi (.blk b (Cel (cs.set off u) e)) hh r1 r2 r3 (by omega) hsm (fun c hc=>.inl hc)) hsm (fun c hc=>.inl hc)
theorem aC_slice {α:Type} {enc:α→List Value} {sz len kk f dn:Nat} {C:World→Prop} {F:Act→World→Prop} {listed listed':Array Bool} (data:List α) (i:Nat) (h:Fr n l a) (H:HZ w0 Zi Z hl w) {ps:Array (Nat × Operand)} (hi:ops[i]?=some ⟨some dn,.buildSlice t len ps,ty,pos,af,none⟩) (hr:Region.ready .any ops listed=[i]) (hC:listed.getD kk true=false→C w) (hl':listed.setIfInBounds i true=listed')
 (ht:P.underlying t=some (.slice e)) (hs:∀ w,(sizeOf e).run P w=.ok sz w) {z:Value} (hz:∀ w,(zeroValue e).run P w=.ok z w) (hsz:(Nat.ble 1 (len*sz)&&Nat.ble (len*sz) 1000)=true)
 {zl:List Value} (hzl:(Array.range (len*sz)).map (fun i=>z.cells[i % z.cells.size]!)=zl.toArray) {pl:List (Nat × Nat)} (hp:∀ i p,pl.toArray[i]?=some p→p=(i*sz,sz))
 (us:List Value) (cells:List Value) (hev:evs l (ps.toList.map (·.2))=some us) (hf:fillL pl zl ((ps.toList.map (·.1)).zip us)=some cells) (hlen:data.length=len) (hdt:data.flatMap enc=cells)
 (kk':∀ a' v Z' w',Z.sub Z'→HZ w0 Zi Z' hl w'→RdZ Z' v sz enc data→Fr n ((dn,v)::l) a'→anyC P ops kk C F f listed' a' w')
 (hd:Nat.blt dn n.n=true:=by rfl):anyC P ops kk C F (f+1) listed a w:=by
 refine aC_op i h hi hr hC (Does.goes h (d_slice (w:=w) ht hs hz hsz hzl hp us cells hev hf) rfl hd) hl' ?_ rfl rfl hd
 rintro v w' a' ⟨rfl,rfl⟩ h'
 have hb:(w.alloc (Cel cells e)).heap[w.heap.size]?=some (Cel cells e):=heap_alloc_new w _
 subst hlen
 exact kk' a' _ _ _ (FZ.sub_add (H.zlt (Nat.le_refl _))) (H.freeze (Ext.alloc w _) hb (Nat.le_refl _)) (RdZ.add hdt (Nat.le_refl _)) h'
theorem aC_append {α:Type} {enc:α→List Value} {sz bytes kk f dn:Nat} {C:World→Prop} {F:Act→World→Prop} {listed listed':Array Bool} {out data:List α} {sv yv:Value} (i:Nat) (h:Fr n l a) (H:HZ w0 Zi Z hl w) (j:Nat) (ho:ops[i]?=some ⟨some dn,.call { callee:=.builtin .append,args:=#[x,y],argTypes:=#[t,t] },ty,pos,af,none⟩) (hr:Region.ready .any ops listed=[i]) (hC:listed.getD kk true=false→C w) (hl':listed.setIfInBounds i true=listed')
 (hi:hl[j]?=some (.row e sz sv out.length (out.flatMap enc))) (ht:P.underlying t=some (.slice e))
 (hinfo:(P.info? e).map (fun i=>(i.zero.map (·.cells.size),i.size,i.bytes))=some (some sz,sz,bytes)) (hsz:Nat.ble 1 sz=true) (hx:ev l x=some sv) (hy:ev l y=some yv) (hrd:RdZ Z yv sz enc data)
 (henc:∀ a,(enc a).length=sz) (h1:∀ a∈data,allOne (enc a)=true) (hmax:out.length+data.length≤9223372036854775807∧(out.length+data.length)*bytes≤140737488355328)
 (kk':∀ a' v' w',HZ w0 Zi Z (hl.set j (.row e sz v' (out++data).length ((out++data).flatMap enc))) w'→Fr n ((dn,v')::l) a'→anyC P ops kk C F f listed' a' w')
 (hd:Nat.blt dn n.n=true:=by rfl):anyC P ops kk C F (f+1) listed a w:=by
 obtain ⟨v',w',hR,HH⟩:=r_app (ops:=ops) (dn:=dn) (ty:=ty) (pos:=pos) (af:=af) (t2:=t) (e2:=e) h H j hi rfl ht ht hinfo hsz hx hy hrd henc h1 hmax
 refine aC_op i h ho hr hC (R1.goes hR rfl) hl' ?_ rfl rfl hd
 rintro v w'' a' ⟨rfl,rfl⟩ h'
 exact kk' a' _ _ HH h'
theorem goes_of_list {o:Oper} {R:World→Prop} (h:wpList P ops (onlyN fun a' w'=>a'=a∧R w') [o] a w) (hg:o.guard=none:=by rfl):Goes P o a w (fun _ w'=>R w'):=by
 have hw:o.wp P a w (fun a' w'=>a'=a∧R w') (onlyN fun a' w'=>a'=a∧R w'):=by
  have h1:=h
  unfold wpList at h1
  rw [if_pos (wanted_none hg)] at h1
  rcases h1 with h1|⟨_,h1⟩
  · exact h1
  · exact absurd h1 onlyN_lets
 unfold Oper.wp Oper.upon at hw
 unfold Goes
 generalize (execOp a.eval o).run P w=r at hw ⊢
 cases r with
 |ok x w'=>
  cases x with
  |value v=>exact hw.2
  |skip=>exact hw.2
  |defer dd=>
   obtain ⟨he,_⟩:=(show ({ tmps:=a.tmps,defers:=dd::a.defers }:Act).put o.dst undef=a∧R w' from hw)
   have:=congrArg (fun b:Act=>b.defers.length) he
   cases hd:o.dst<;>simp [Act.put,hd] at this
  |enter f args=>exact Calls.mono (show Calls P f args _ _ from hw) (fun e w'' hr=>by
   cases e with
   |returned v=>exact hr.2
   |panicked ch=>exact (show False from hr)
   |outgrown=>obtain ⟨_,_,hf⟩:=(show LetsOut _ from hr);exact hf)
  |row r args=>exact (show Rows P r args _ _ from hw).mono (fun v w'' hr=>hr.2)
  |_=>exact hw.elim
 |halt s w'=>
  cases s with
  |panic v=>exact (show False from hw)
  |_=>exact hw.elim
end
end Go.Stp
end
section
namespace Go.Stp
open Go.RowKit
section
variable {P:Program} {ops:Array Oper} {Q:Exit→Act→World→Prop} {rest:List Oper} {nm:Nm} {n:Nat} {l l':List (Nat × Value)} {a:Act} {w:World} {R:Value→World→Prop} {fn:Func} {x:Operand} {ats:Array TypeId} {t ty:TypeId} {pos:String} {af:Array Edge} {f:FuncId} {cp:Array Value}
theorem leaves_out (h:Out P fn R a w):Leaves P fn a.tmps (Ret R) a.defers .returning w:=by
 obtain ⟨h1,v,h2,h3⟩:=h
 rw [h1]
 exact ⟨v,h2,h3⟩
theorem hrO (hd:∀ a w,Leaves P fn a.tmps (Ret R) a.defers .returning w→Q .ret a w):∀ a w,Out P fn R a w→Q .ret a w:=fun a w h=>hd a w (leaves_out h)
theorem enSD {Z:FZ} {c:Code} {vs:List Value} (hZ:Z.inn w) (hf:P.funcs[f]?=some fn) (is:List Nat) (l':List (Nat × Value))
 (h:∀ Q a Zi,Zi=Z→HZ w Zi Z [] w→Fr n l' a→(∀ a w,Leaves P fn a.tmps (Ret R) a.defers .returning w→Q .ret a w)→c.wp P Q a w) (hb:fn.body=some c:=by rfl) (hn:fn.ntmps=n:=by rfl) (hle:Nat.ble vs.length n=true:=by rfl) (e:pickS (slots 0 vs) is=l':=by rfl):Calls P f vs.toArray w (Ret R):=by
 refine calls_of_wp_defers hf hb ?_
 rw [hn]
 exact h _ _ _ rfl (HZ.startZ hZ) ((Fr.enter n vs hle).only is e) (fun a w h=>h)
theorem st_defer (h:Fr nm l a) (hx:ev l x=some (.func (.func f) #[] cp)) (kk:∀ a',Fr ⟨nm.n,⟨.fn (.func f) cp,#[]⟩::nm.ds⟩ l a'→wpList P ops Q rest a' w) :
 wpList P ops Q (⟨none,.defer ⟨.value x,#[],#[]⟩,ty,pos,af,none⟩::rest) a w:=by
 refine wpList_plain rfl fun K hK=>?_
 have e:(execOp a.eval ⟨none,.defer ⟨.value x,#[],#[]⟩,ty,pos,af,none⟩).run P w=.ok (.defer ⟨.fn (.func f) cp,#[]⟩) w:=by
  simp only [execOp,resolve,h.ev hx]
  simp [Deferred.ofValue]
 unfold Oper.wp
 rw [e]
 exact hK _ _ (kk _ ⟨h.size,by show _::a.defers=_;rw [h.defers],h.has⟩)
theorem rD (hret:∀ a w,Leaves P fn a.tmps (Ret R) a.defers .returning w→Q .ret a w) (h:Fr ⟨n,[⟨.fn (.func f) cp,#[]⟩]⟩ l a) (hi:∀ w,(invoke (.fn (.func f) cp) #[]).run P w=.ok (.enter f cp) w)
 (hD:CallsD P f cp .returning w fun e u' w'=>e=.returned (.tuple #[])∧u'=.returning∧Ext w w') (k:∀ a w',Ext w w'→Fr n l a→Out P fn R a w'):Code.ret.wp P Q a w:=by
 refine c_ret (hret _ _ ?_)
 rw [h.defers]
 refine leaves_cons (by simp) (hi w) (hD.mono ?_)
 rintro e u' w' ⟨rfl,rfl,X⟩
 have:=leaves_out (k { a with defers:=[] } w' X ⟨h.size,rfl,h.has⟩)
 exact this
end
end Go.Stp
end
section
namespace Go.Stp
open Go.RowKit
section
variable {P:Program} {l:List (Nat × Value)} {w:World} {Z:FZ} {x:Operand} {t ty e:TypeId} {pos:String} {af:Array Edge} {d:Option Nat} {g:Option (Nat × Bool)} {V:Value} {p:Int}
theorem d_part_l {α:Type} {enc:α→List Value} {sz:Nat} {data:List α} {ol:Operand} {k1:IntKind} (henc:∀ a,(enc a).length=sz) (ht:P.underlying t=some (.slice e)) (hs:∀ w,(sizeOf e).run P w=.ok sz w) (hx:ev l x=some V) (h1:ev l ol=some (.int k1 p)) (hr:RdZ Z V sz enc data)
 (hb:0≤p∧p≤(data.length:Int)∧(data.length:Int)≤(data.length:Int)):Does P l w ⟨d,.slice t x (some ol) none none,ty,pos,af,g⟩ (fun v w'=>RdZ Z v sz enc (cutL data p data.length)∧w'=w):=fun n a h K Q hk=>by
 obtain ⟨V',hrun,hr'⟩:=part_val (P:=P) (d:=d) (ty:=ty) (pos:=pos) (af:=af) (g:=g) (w:=w) henc h ht hs hx hr (lo:=some ol) (hi:=none) ⟨k1,h1⟩ rfl hb
 unfold Oper.wp
 rw [hrun]
 exact hk _ _ ⟨hr',rfl⟩
theorem v_loadArrS {b:Nat} {cs:List Value} {data:List (List UInt8)} {fz:Nat × Nat} (hx:ev l x=some (.pointer (some ⟨b,p.toNat,none⟩))) (ha:∀ w,(isAgg t).run P w=.ok false w) (hb:w.heap[b]?=some (.cells cs.toArray e fz)) (hd:data.map S=cs) (hp:0≤p∧p<(data.length:Int)) :
 Val P l w ⟨d,.load t x,ty,pos,af,g⟩ (S (gel data p)):=by
 refine v_load1 hx ha hb ?_
 rw [←hd,List.getElem?_map,gel_some hp]
 rfl
end
end Go.Stp
end
