/- The step library, twenty-second part: a range over a function. -/
import Derived.Test.YtlpfcclecmalhaaDoorStpY
import Derived.RangeFuncLeaves
import Derived.TacticsIn
set_option linter.unusedSimpArgs false
set_option linter.unusedVariables false
set_option linter.unusedSectionVars false
namespace Go.Stp
open Go.RowKit

/-! ### the marks that loops over functions leave -/
def marks (Ds : List Nat) : List Deferred := Ds.map fun D => { target := .collected D, args := #[] }
structure DZ (w0 : Bs) (Zi Z : FZ) (Ds : List Nat) : Prop where
  nd : Ds.Nodup
  z : ∀ D ∈ Ds, Z D = some (.deferred (some []))
  zi : ∀ D ∈ Ds, Zi D = none
  lo : ∀ D ∈ Ds, w0.heap.size ≤ D
def shut : List Nat → World → World
  | [], w => w
  | D :: Ds, w => shut Ds (w.putObj D (.deferred none))
def FZ.cut (Z : FZ) (D : Nat) : FZ := fun b => if b = D then none else Z b
def FZ.less (Z : FZ) : List Nat → FZ
  | [] => Z
  | D :: Ds => FZ.less (Z.cut D) Ds
section
variable {w0 : Bs} {w w' : World} {Zi Z Z' : FZ} {hl : List Own} {Ds : List Nat} {D : Nat}
theorem DZ.nil : DZ w0 Zi Z [] := ⟨.nil, (fun _ h => nomatch h), (fun _ h => nomatch h), (fun _ h => nomatch h)⟩
theorem DZ.sub (d : DZ w0 Zi Z Ds) (h : Z.sub Z') : DZ w0 Zi Z' Ds := ⟨d.nd, fun D hD => h _ _ (d.z D hD), d.zi, d.lo⟩
theorem DZ.tail (d : DZ w0 Zi Z (D :: Ds)) : DZ w0 Zi (Z.cut D) Ds :=
  ⟨(List.nodup_cons.1 d.nd).2, fun E hE => by
    unfold FZ.cut
    rw [if_neg (fun e : E = D => (List.nodup_cons.1 d.nd).1 (e ▸ hE))]
    exact d.z E (List.mem_cons_of_mem _ hE), fun E hE => d.zi E (List.mem_cons_of_mem _ hE), fun E hE => d.lo E (List.mem_cons_of_mem _ hE)⟩
theorem FZ.cut_c (h : Z D = some (.deferred (some []))) : Z.subC (Z.cut D) := fun b cs e fz hb => by
  unfold FZ.cut
  split
  · rename_i e1; rw [e1, h] at hb; cases hb
  · exact hb
theorem FZ.subC.trans {Z Z' Z'' : FZ} (h : Z.subC Z') (k : Z'.subC Z'') : Z.subC Z'' := fun b cs e fz hb => k b cs e fz (h b cs e fz hb)
theorem DZ.less : ∀ {Ds : List Nat} {Z : FZ}, DZ w0 Zi Z Ds → Z.subC (Z.less Ds)
  | [], _, _ => fun _ _ _ _ h => h
  | D :: Ds, Z, d => by
    show Z.subC ((Z.cut D).less Ds)
    exact (FZ.cut_c (d.z D (by simp))).trans d.tail.less
theorem HZ.shut1 (H : HZ w0 Zi Z hl w) (hz : Z D = some (.deferred (some []))) (hzi : Zi D = none) (hlo : w0.heap.size ≤ D) : HZ w0 Zi (Z.cut D) hl (w.putObj D (.deferred none)) := by
  have hs : ∀ b, b ≠ D → (w.putObj D (.deferred none)).heap[b]? = w.heap[b]? := fun b hb => World.putObj_heap_other hb
  have hne : ∀ o ∈ hl, ∀ b, o.at = some b → b ≠ D := fun o ho b hb e => by
    have := H.off o ho b hb
    rw [e, hz] at this
    cases this
  refine ⟨⟨⟨H.hp.below.os, H.hp.below.tape, H.hp.below.output, by rw [World.putObj_size]; exact H.hp.below.size, fun k hk hn => (hs k (fun e => ?_)).trans (H.hp.below.block k hk hn)⟩, fun i o hi => Own.holds_same (H.hp.own i o hi) fun b hb => hs b (hne o (List.mem_of_getElem? hi) b hb), H.hp.lo, H.hp.apart⟩, fun b o hb => ?_, fun o ho b hb => ?_, fun b o hb => ?_, fun b o hb => ?_⟩
  · have h1 : k < w0.w.heap.size := hk
    have h2 : w0.w.heap.size ≤ D := hlo
    omega
  · unfold FZ.cut at hb
    split at hb
    · cases hb
    · exact (hs b (by assumption)).trans (H.zin b o hb)
  · unfold FZ.cut
    split
    · rfl
    · exact H.off o ho b hb
  · unfold FZ.cut
    split
    · rename_i e; rw [e, hzi] at hb; cases hb
    · exact H.sub b o hb
  · unfold FZ.cut at hb
    split at hb
    · cases hb
    · exact H.new b o hb
theorem HZ.shut : ∀ {Ds : List Nat} {Z : FZ} {w : World}, HZ w0 Zi Z hl w → DZ w0 Zi Z Ds → HZ w0 Zi (Z.less Ds) hl (Stp.shut Ds w)
  | [], _, _, H, _ => H
  | D :: Ds, Z, w, H, d => by
    show HZ w0 Zi ((Z.cut D).less Ds) hl (Stp.shut Ds (w.putObj D (.deferred none)))
    exact HZ.shut (H.shut1 (d.z D (by simp)) (d.zi D (by simp)) (d.lo D (by simp))) d.tail
end
section
variable {P : Program} {fn : Func} {tmps : Array Value} {R : Ending → World → Prop}
theorem leavesM_marks {n : Nat} : ∀ {Ds : List Nat} {w : World}, Ds.Nodup → (∀ D ∈ Ds, w.heap[D]? = some (.deferred (some []))) → (∃ v, (results fn tmps).run P (shut Ds w) = .ok v (shut Ds w) ∧ R (.returned v) (shut Ds w)) → LeavesInM Fence.wide n P fn tmps R (marks Ds) .returning w
  | [], _, _, _, h => h
  | D :: Ds, w, hn, hz, h => ⟨by simp, .inl ⟨D, _, rfl, run_takeDeferred (hz D (by simp)), leavesM_marks (List.nodup_cons.1 hn).2 (fun E hE => by
      rw [World.putObj_heap_other (fun e : E = D => (List.nodup_cons.1 hn).1 (e ▸ hE))]
      exact hz E (List.mem_cons_of_mem _ hE)) h⟩⟩
/-- What stands at the end of a function that held loops over functions. -/
def OutM (P : Program) (fn : Func) (R : Value → World → Prop) (a : Act) (w : World) : Prop :=
  ∃ Ds : List Nat, a.defers = marks Ds ∧ Ds.Nodup ∧ (∀ D ∈ Ds, w.heap[D]? = some (.deferred (some []))) ∧ ∃ v, (results fn a.tmps).run P (shut Ds w) = .ok v (shut Ds w) ∧ R v (shut Ds w)
end
section
variable {P : Program} {fn : Func} {n : Nat} {l : List (Nat × Value)} {a : Act} {w : World} {R : Value → World → Prop} {w0 : Bs} {Zi Z : FZ} {hl : List Own} {Ds : List Nat}
theorem enterM {f : FuncId} {c : Code} {vs : List Value} (hf : P.funcs[f]? = some fn) (hb : fn.body = some c) (hn : fn.ntmps = n) (hle : Nat.ble vs.length n = true)
    (h : ∀ Q a, Fr n (slots 0 vs) a → (∀ a w, OutM P fn R a w → Q .ret a w) → (∀ a w, OutM P fn R a w → Q .normal a w) → c.wp P Q a w) : Calls P f vs.toArray w (Ret R) := by
  refine callsIn_wide.1 (callsIn_of_wp_marks (n := 0) hf hb trivial (wpIn_wide.2 ?_))
  rw [hn]
  have key : ∀ (a : Act) (w : World), OutM P fn R a w → LeavesInM Fence.wide 0 P fn a.tmps (Ret R) a.defers .returning w := fun a w ⟨Ds, h1, h2, h3, h4⟩ => by
    rw [h1]
    exact leavesM_marks h2 h3 h4
  exact h _ _ (Fr.enter n vs hle) key key
theorem outM (h : Fr ⟨n, marks Ds⟩ l a) (H : HZ w0 Zi Z hl w) (d : DZ w0 Zi Z Ds) (k : ∀ a w, Z.subC (Z.less Ds) → HZ w0 Zi (Z.less Ds) hl w → Fr n l a → Out P fn R a w) : OutM P fn R a w := by
  obtain ⟨_, v, hv, hR⟩ := k { a with defers := [] } (shut Ds w) d.less (H.shut d) ⟨h.size, rfl, h.has⟩
  exact ⟨Ds, h.defers, d.nd, fun D hD => H.zin _ _ (d.z D hD), v, hv, hR⟩
end
section
variable {P : Program} {n : Nat} {w : World}
theorem enGM {f : FuncId} {fn : Func} {c : Code} {vs : List Value} {R : Value → World → Prop} (hf : P.funcs[f]? = some fn) (is : List Nat) (l' : List (Nat × Value))
    (h : ∀ Q a, Fr n l' a → (∀ a w, OutM P fn R a w → Q .ret a w) → (∀ a w, OutM P fn R a w → Q .normal a w) → c.wp P Q a w) (hb : fn.body = some c := by rfl) (hn : fn.ntmps = n := by rfl) (hle : Nat.ble vs.length n = true := by rfl) (e : pickS (slots 0 vs) is = l' := by rfl) : Calls P f vs.toArray w (Ret R) :=
  enterM hf hb hn hle fun Q a hfr hr hn => h Q a (hfr.only is e) hr hn
theorem enSM {Z : FZ} {f : FuncId} {fn : Func} {c : Code} {vs : List Value} {R : Value → World → Prop} (hZ : Z.inn w) (hf : P.funcs[f]? = some fn) (is : List Nat) (l' : List (Nat × Value))
    (h : ∀ Q a Zi, Zi = Z → HZ w Zi Z [] w → Fr n l' a → (∀ a w, OutM P fn R a w → Q .ret a w) → c.wp P Q a w) (hb : fn.body = some c := by rfl) (hn : fn.ntmps = n := by rfl) (hle : Nat.ble vs.length n = true := by rfl) (e : pickS (slots 0 vs) is = l' := by rfl) : Calls P f vs.toArray w (Ret R) :=
  enterM hf hb hn hle fun Q a hfr hr _ => h Q a _ rfl (HZ.startZ hZ) (hfr.only is e) hr
end

/-! ### the loop's record, and what is frozen beside -/
section
variable {w0 : Bs} {w w' : World} {Zi Z Zr Z2 : FZ} {hl hl2 : List Own} {R i : Nat} {o o' : Obj}
theorem HZ.putAt (H : HZ w0 Zi Z hl w) (i : Nat) (hi : hl[i]? = some (.blk R o)) (o' : Obj) {hl' : List Own} (hh : hl.set i (.blk R o') = hl') : HZ w0 Zi Z hl' (w.putObj R o') := by
  subst hh
  have hlt : R < w.heap.size := (Array.getElem?_eq_some_iff.1 (H.hp.get i hi)).1
  have hs : ∀ b, b < w.heap.size → (Own.blk R o).at ≠ some b → (w.putObj R o').heap[b]? = w.heap[b]? := fun b _ hb => World.putObj_heap_other fun e => hb (by rw [e]; rfl)
  exact H.turn i hi (H.hp.turn i hi (.blk R o') (World.putObj_heap_same hlt) rfl rfl rfl (by rw [World.putObj_size]; exact Nat.le_refl _) hs (fun b hb => .inl hb)) hs (fun b hb => .inl hb)
theorem HZ.putLast (H : HZ w0 Zi Z (hl ++ [.blk R o]) w) (o' : Obj) : HZ w0 Zi Z (hl ++ [.blk R o']) (w.putObj R o') :=
  H.putAt (o := o) hl.length (by simp) o' (by simp)
theorem HZ.last (H : HZ w0 Zi Z (hl ++ [.blk R o]) w) : w.heap[R]? = some o := H.hp.get (o := o) hl.length (by simp)
theorem HZ.own (H : HZ w0 Zi Z hl w) : HZ w0 Z Z hl w := ⟨H.hp, H.zin, H.off, FZ.sub.refl _, fun _ _ h => .inl h⟩
theorem HZ.base (H : HZ w0 Zi Zr hl w) (K : HZ w0 Zr Z2 hl2 w') : HZ w0 Zi Z2 hl2 w' :=
  ⟨K.hp, K.zin, K.off, H.sub.trans K.sub, fun b o hb => (K.new b o hb).elim (H.new b o) .inr⟩
/-- More is frozen: what is new. -/
theorem HZ.more {E E' : FZ} (H : HZ w0 Zi Zr hl w) (hE : E.sub Zr) (X : Ext w w') (hn : ∀ b o, E' b = some o → E b = some o ∨ (w.heap.size ≤ b ∧ w'.heap[b]? = some o)) : ∃ Z', Zr.sub Z' ∧ E'.sub Z' ∧ HZ w0 Zi Z' hl w' := by
  have key : ∀ b o o', E' b = some o → Zr b = some o' → o = o' := fun b o o' h1 h2 => by
    rcases hn b o h1 with h | ⟨h, _⟩
    · have := hE b o h
      rw [h2] at this
      exact (Option.some.inj this).symm
    · rw [H.zlt h] at h2
      cases h2
  have hs : Zr.sub (fun b => match E' b with | some o => some o | none => Zr b) := fun b o hb => by
    show (match E' b with | some o => some o | none => Zr b) = some o
    cases he : E' b with
    | none => exact hb
    | some o' => rw [key b o' o he hb]
  refine ⟨fun b => match E' b with | some o => some o | none => Zr b, hs, fun b o hb => by show (match E' b with | some o => some o | none => Zr b) = some o; rw [hb], H.hp.ext X, fun b o hb => ?_, fun x hx b hb => ?_, H.sub.trans hs, fun b o hb => ?_⟩
  · replace hb : (match E' b with | some o => some o | none => Zr b) = some o := hb
    cases he : E' b with
    | none => rw [he] at hb; exact H.zin.ext X b o hb
    | some o' =>
      rw [he] at hb
      cases hb
      rcases hn b o he with h | ⟨_, h⟩
      · exact H.zin.ext X b o (hE b o h)
      · exact h
  · show (match E' b with | some o => some o | none => Zr b) = none
    cases he : E' b with
    | none => exact H.off x hx b hb
    | some o' =>
      rcases hn b o' he with h | ⟨h, _⟩
      · have h1 := hE b o' h
        rw [H.off x hx b hb] at h1
        cases h1
      · have := H.lt x hx b hb
        omega
  · replace hb : (match E' b with | some o => some o | none => Zr b) = some o := hb
    cases he : E' b with
    | none => rw [he] at hb; exact H.new b o hb
    | some o' =>
      rw [he] at hb
      cases hb
      rcases hn b o he with h | ⟨h, _⟩
      · exact H.new b o (hE b o h)
      · exact .inr (.inl (Nat.le_trans H.sz h))
end

/-! ### a function that is ranged over -/
/-- It hands its yield xs, one behind the other, Z lying as it lies. -/
def Iter {α : Type} (P : Program) (gf : Nat) (cap : Array Value) (enc : α → Value) (xs : List α) (Z : FZ) : Prop :=
  ∀ (l : Nat) (J : FZ → List α → World → Prop),
    (∀ E s A, J E s A → E.inn A) →
    (∀ E E' s A B, J E s A → Ext A B → (∀ b o, E' b = some o → E b = some o ∨ (A.heap.size ≤ b ∧ B.heap[b]? = some o)) → J E' s B) →
    (∀ E pre x A, J E pre A → pre ++ [x] <+: xs → YieldAt Fence.wide 0 P l #[enc x] A fun e B => e = .returned (.bool true) ∧ J E (pre ++ [x]) B) →
    ∀ E W, Z.sub E → J E [] W → CallsIn Fence.wide 0 P gf (#[.func (.yield l) #[] #[]] ++ cap) W fun e B => (∃ v, e = .returned v) ∧ ∃ E', J E' xs B
theorem Iter.sub {α : Type} {P : Program} {gf : Nat} {cap : Array Value} {enc : α → Value} {xs : List α} {Z Z' : FZ} (h : Iter P gf cap enc xs Z) (hz : Z.sub Z') : Iter P gf cap enc xs Z' :=
  fun l J a b c E W hE hJ => h l J a b c E W (hz.trans hE) hJ
section
variable {α : Type} {P : Program} {Q : Exit → Act → World → Prop} {N p : Nat} {l : List (Nat × Value)} {a : Act} {w : World} {w0 : Bs} {Zi Z : FZ} {hl : List Own} {Ds : List Nat} {g : Operand} {assign body : Code} {gf : Nat} {cap : Array Value} {enc : α → Value} {xs : List α}
/-- A range over a function whose body leaves no other way than at its end. -/
theorem c_rangeF (J : Nat → List α → FZ → List Own → Prop) (h : Fr ⟨N, marks Ds⟩ l a) (H : HZ w0 Zi Z hl w) (d : DZ w0 Zi Z Ds) (hit : Iter P gf cap enc xs Z)
    (eg : ∀ args w, (callFunc gf args).run P w = .ok (.enter gf args) w)
    (h0 : ∀ D Z', Z.sub Z' → DZ w0 Zi Z' (D :: Ds) → J D [] Z' hl)
    (round : ∀ (D R : Nat) (o : Obj) (pre : List α) (x : α) (Z1 Zr : FZ) (hl' : List Own) (a' : Act) (A : World), pre ++ [x] <+: xs → J D pre Z1 hl' → Z1.sub Zr → HZ w0 Zr Zr (hl' ++ [.blk R o]) A → Fr N ((p, enc x) :: l) a' →
      assign.wpIn (Fence.wide.inRound R) 0 P (onlyN fun a1 A1 => A1.heap[R]? = some o ∧ ∀ o', body.wpIn (Fence.wide.inRound R) 0 P (onlyN fun _ B => ∃ Z2 hl2, J D (pre ++ [x]) Z2 hl2 ∧ HZ w0 Zr Z2 (hl2 ++ [.blk R o']) B) a1 (A1.putObj R o')) a' A)
    (done : ∀ (D : Nat) (Z1 Z' : FZ) (hl' : List Own) (R : Nat) (o : Obj) (a' : Act) (A : World), J D xs Z1 hl' → Z1.sub Z' → HZ w0 Zi Z' (hl' ++ [.blk R o]) A → Fr ⟨N, marks (D :: Ds)⟩ l a' → Q .normal a' A)
    (hg : ev l g = some (.func (.func gf) #[] cap) := by rfl) (hp : Nat.blt p N = true := by rfl) :
    (Code.rangeFunc g #[p] assign body).wp P Q a w := by
  refine wpIn_wide.1 (wpIn_rangeFunc (F := Fence.wide) (n := 0) ?_)
  intro fn hfn
  rw [show Fence.wide.round = none from rfl]
  obtain ⟨rec, hrec⟩ : ∃ rec : LoopState → Option Code → Loop, rec = fun st pe => { state := st, pending := pe, fn, tmps := a.tmps, params := #[p], assign, body, defers := w.heap.size } := ⟨_, rfl⟩
  have HD := H.freeze (Ext.alloc w (.deferred (some []))) (heap_alloc_new w _) (Nat.le_refl _)
  have hZn : Z w.heap.size = none := H.zlt (Nat.le_refl _)
  have hsub : Z.sub (Z.add w.heap.size (.deferred (some []))) := FZ.sub_add hZn
  have dz : DZ w0 Zi (Z.add w.heap.size (.deferred (some []))) (w.heap.size :: Ds) :=
    ⟨List.nodup_cons.2 ⟨(fun hm => by have := d.z _ hm; rw [hZn] at this; cases this), d.nd⟩, fun D hD => by
      rcases List.mem_cons.1 hD with rfl | hD
      · simp [FZ.add]
      · exact hsub _ _ (d.z D hD), fun D hD => by
      rcases List.mem_cons.1 hD with rfl | hD
      · cases hzi : Zi w.heap.size with
        | none => rfl
        | some o => have := H.sub _ _ hzi; rw [hZn] at this; cases this
      · exact d.zi D hD, fun D hD => by
      rcases List.mem_cons.1 hD with rfl | hD
      · exact H.sz
      · exact d.lo D hD⟩
  have HR := HD.push (Ext.alloc (w.alloc (.deferred (some []))) (.loop (rec .ready none))) (.blk (w.heap.size + 1) (.loop (rec .ready none))) (by
    have := heap_alloc_new (w.alloc (.deferred (some []))) (.loop (rec .ready none))
    rw [World.size_alloc] at this
    exact this) (fun b hb => by
      simp only [Own.at, Option.some.injEq] at hb
      rw [World.size_alloc]
      omega)
  obtain ⟨W1, hW1⟩ : ∃ W1, (w.alloc (.deferred (some []))).alloc (.loop (rec .ready none)) = W1 := ⟨_, rfl⟩
  rw [hW1] at HR
  refine ⟨w.heap.size + 1, [{ target := .collected w.heap.size, args := #[] }], W1, { target := .fn (.func gf) cap, args := #[.func (.yield (w.heap.size + 1)) #[] #[]] }, W1, gf,
    #[.func (.yield (w.heap.size + 1)) #[] #[]] ++ cap, W1, ?_, ?_, ?_, ?_, (fun hd => nomatch hd), ?_⟩
  · rw [← hW1, hrec]
    exact run_enterLoop_outer _ _ _ _ _
  · simp only [resolve, h.ev hg]
    simp [go_sem]
  · intro f' hf'
    trivial
  · simp [invoke, go_sem, eg]
  · have hcall := hit (w.heap.size + 1) (fun E pre A => ∃ Z1 Zr hl', J w.heap.size pre Z1 hl' ∧ Z1.sub Zr ∧ E.sub Zr ∧ HZ w0 Zi Zr (hl' ++ [.blk (w.heap.size + 1) (.loop (rec .ready none))]) A)
      (fun E s A ⟨_, _, _, _, _, hE, HA⟩ b o hb => HA.zin b o (hE b o hb))
      (fun E E' s A B ⟨Z1, Zr, hl', hJ, h1, hE, HA⟩ X hn => by
        obtain ⟨Z', k1, k2, HB⟩ := HA.more hE X hn
        exact ⟨Z1, Z', hl', hJ, h1.trans k1, k2, HB⟩)
      (fun E pre x A ⟨Z1, Zr, hl', hJ, h1, hE, HA⟩ hpx => by
        have hl := HA.last
        have hy := run_yield (P := P) (args := #[enc x]) hl (by rw [hrec]; rfl)
        rw [hrec] at hy
        refine ⟨fn, _, assign, body, hy, roundIn_of_wpIn hfn ?_⟩
        have hp' : p < N := by simpa [Nat.blt_eq] using hp
        have hfr : Fr N ((p, enc x) :: l) { tmps := (#[p].zip #[enc x]).foldl (fun t q => t.setIfInBounds q.1 q.2) a.tmps, defers := [] } := by
          have h1 : Fr N l { tmps := a.tmps, defers := [] } := ⟨h.size, rfl, h.has⟩
          have h2 := h1.put hp (enc x)
          simpa [Act.put] using h2
        refine wpIn_mono (round w.heap.size (w.heap.size + 1) _ pre x Z1 Zr hl' _ A hpx hJ h1 HA.own hfr) ?_
        intro e a1 A1 hq
        cases e with
        | normal =>
          obtain ⟨hR, hb⟩ := hq
          refine ⟨_, run_beginRound hR (by rw [hrec]), wpIn_mono (hb _) ?_⟩
          intro e a2 B hq
          cases e with
          | normal =>
            obtain ⟨Z2, hl2, hJ2, H2⟩ := hq
            have hl2' := H2.last
            have := run_endRound (P := P) none hl2'
            refine ⟨_, _, this, rfl, Z2, Z2, hl2, hJ2, FZ.sub.refl _, hE.trans H2.sub, ?_⟩
            have H3 := (HA.base H2).putLast (.loop (rec .ready none))
            rw [hrec] at H3 ⊢
            exact H3
          | _ => exact hq.elim
        | _ => exact hq.elim)
      (Z.add w.heap.size (.deferred (some []))) W1 hsub ⟨_, _, hl, h0 _ _ hsub dz, FZ.sub.refl _, FZ.sub.refl _, HR⟩
    refine hcall.mono ?_
    rintro e B ⟨⟨v, rfl⟩, E', Z1, Zr, hl', hJ, h1, hE, HB⟩
    have := run_endLoop (P := P) HB.last (by rw [hrec]; simp)
    rw [hrec] at this
    exact ⟨none, _, this, done _ Z1 Zr hl' _ _ _ _ hJ h1 (HB.putLast _) ⟨h.size, by show _ :: a.defers = _; rw [h.defers]; rfl, h.has⟩⟩
end
section
variable {P : Program} {K : Act → World → Prop} {a : Act} {w : World} {F : Fence} {n : Nat}
theorem rb_block {id : Nat} {x : Code} (h : x.wpIn F n P (onlyN K) a w) : (Code.block id x).wpIn F n P (onlyN K) a w :=
  wpIn_block (wpIn_mono h fun e a w hq => by
    cases e with
    | normal => exact hq
    | _ => exact hq.elim)
theorem rb_region {R nn : Nat} {id : Nat} {ol : List Oper} (h : wpList P ol.toArray (onlyN K) ol a w) (hp : ol.toArray.all plainOp = true := by kernel_rfl) : (Code.region id ol.toArray false).wpIn (Fence.wide.inRound R) nn P (onlyN K) a w := regionS_round R hp h
theorem rb_flowT {R nn : Nat} {id : Nat} {ol : List Oper} {n : Nm} {l : List (Nat × Value)} (m : Nat) (h : Fr n l a) (H : wpFlow P ol.toArray w n (fun L A => ∀ a' w', Ext w w' → FrR n L a' w' → Fresh w L A a' w' → wpList P ol.toArray (onlyN K) (ol.drop m) a' w') (eqs l) [] (ol.take m))
    (hm : P.follows .mixedOrders = true := by kernel_rfl) (hB : flowTB ol.toArray m = true := by kernel_rfl) (hp : ol.toArray.all plainOp = true := by kernel_rfl) : (Code.region id ol.toArray true).wpIn (Fence.wide.inRound R) nn P (onlyN K) a w :=
  region_round R hm hp (any_flowT m h hB H)
theorem rb_nil {ops : Array Oper} (h : K a w) : wpList P ops (onlyN K) [] a w := h
end
/-! ### where an iterator calls its yield -/
section
variable {P : Program} {ops : Array Oper} {Q : Exit → Act → World → Prop} {rest : List Oper} {o : Oper} {n : Nm} {d m : Nat} {l : List (Nat × Value)} {a : Act} {w : World} {V : Value}
theorem y1 (h : Fr n l a) (hd : dstB n.n o = some d) (hv : Val P l w o V) (kk : ∀ a', Fr n ((d, V) :: l) a' → wpListIn Fence.wide m P ops Q rest a' w) : wpListIn Fence.wide m P ops Q (o :: rest) a w := by
  obtain ⟨h1, h2, h3⟩ := dstB_ok hd
  refine wpListIn_plain h1 fun K hK => ?_
  unfold Oper.wpIn
  rw [show Fence.wide.round = none from rfl, Oper.semAt_none, hv n a h]
  refine ⟨fun _ _ => trivial, hK _ _ ?_⟩
  rw [h2]
  exact kk _ (h.put h3 V)
theorem yNil (h : Q .normal a w) : wpListIn Fence.wide m P ops Q [] a w := h
theorem yCall {x : Operand} {xs : Array Operand} {ats : Array TypeId} {ty : TypeId} {pos : String} {af : Array Edge} {lo : Nat} {v : Value} {J : World → Prop} (h : Fr n l a) (hx : ev l x = some (.func (.yield lo) #[] #[])) (hy : evs l xs.toList = some [v])
    (hY : YieldAt Fence.wide 0 P lo #[v] w fun e B => e = .returned (.bool true) ∧ J B) (kk : ∀ a' w', J w' → Fr n ((d, .bool true) :: l) a' → wpListIn Fence.wide m P ops Q rest a' w') (hdn : Nat.blt d n.n = true := by rfl) :
    wpListIn Fence.wide m P ops Q (⟨some d, .call { callee := .value x, args := xs, argTypes := ats }, ty, pos, af, none⟩ :: rest) a w := by
  obtain ⟨fn, tmps, assign, body, hy1, hR⟩ := hY
  refine wpListIn_plain rfl fun K hK => ?_
  have e1 : execOp a.eval ⟨some d, .call { callee := .value x, args := xs, argTypes := ats }, ty, pos, af, none⟩ = (do let d ← Deferred.ofValue (a.eval x) (xs.map a.eval); invoke d.target d.args) := rfl
  have e3 : ((do let d ← Deferred.ofValue (a.eval x) (xs.map a.eval); invoke d.target d.args) : Sem Next).run P w = .ok (.round lo fn tmps assign body) w := by
    rw [h.ev hx, h.evsA hy]
    simp only [Deferred.ofValue, Sem.run_bind, Sem.run_pure, Result.andThen_ok, invoke]
    simpa using hy1
  unfold Oper.wpIn
  rw [show Fence.wide.round = none from rfl, Oper.semAt_none, e1, e3]
  refine ⟨fun _ _ => trivial, (fun hd => nomatch hd), ?_⟩
  have hR' : RoundIn Fence.wide (m - 1) P lo fn tmps assign body w fun e B => e = .returned (.bool true) ∧ J B := ⟨hR.1, fun c cs _ => hR.2 c cs (room_wide _)⟩
  refine hR'.mono ?_
  rintro e w' ⟨rfl, hJ⟩
  exact hK _ _ (kk _ w' hJ (h.put hdn _))
theorem rgY {id : Nat} {ol : List Oper} {y : Code} (h : ∀ K : Act → World → Prop, (∀ a w, y.wp P Q a w → K a w) → wpListIn Fence.wide 0 P ol.toArray (Exit.then K Q) ol a w) : (Code.seq (.region id ol.toArray false) y).wp P Q a w :=
  wp_seq_k fun K hK => (wpIn_wide (n := 0)).1 (wpIn_region_lit (h K hK))
end
theorem ex7 {α β γ δ ε ζ η : Sort _} {p : α → β → γ → δ → ε → ζ → η → Prop} {a : α} {b : β} {c : γ} {d : δ} {e : ε} {f : ζ} {g : η} (h : p a b c d e f g) : ∃ x y z u v t s, p x y z u v t s := ⟨a, b, c, d, e, f, g, h⟩
theorem ex8 {α β γ δ ε ζ η θ : Sort _} {p : α → β → γ → δ → ε → ζ → η → θ → Prop} {a : α} {b : β} {c : γ} {d : δ} {e : ε} {f : ζ} {g : η} {i : θ} (h : p a b c d e f g i) : ∃ x y z u v t s r, p x y z u v t s r := ⟨a, b, c, d, e, f, g, i, h⟩
theorem exU4 {α β γ δ : Sort _} {p : α → Unit → β → γ → δ → Prop} {a : α} {b : β} {c : γ} {d : δ} (h : p a () b c d) : ∃ x y z u v, p x y z u v := ⟨a, (), b, c, d, h⟩
theorem exU5 {α β γ δ ε : Sort _} {p : α → Unit → β → γ → δ → ε → Prop} {a : α} {b : β} {c : γ} {d : δ} {e : ε} (h : p a () b c d e) : ∃ x y z u v t, p x y z u v t := ⟨a, (), b, c, d, e, h⟩

/-! ### how such a loop is told -/
section
variable {σ α ρ : Type}
def foldO (B : σ → α → Option σ) : σ → List α → Option σ
  | s, [] => some s
  | s, x :: xs => obind (B s x) fun s' => foldO B s' xs
theorem foldO_app {B : σ → α → Option σ} : ∀ {s : σ} {xs ys : List α}, foldO B s (xs ++ ys) = obind (foldO B s xs) fun s' => foldO B s' ys
  | s, [], ys => rfl
  | s, x :: xs, ys => by
    simp only [List.cons_append, foldO]
    cases B s x with
    | none => rfl
    | some s' => exact foldO_app
theorem fold_step {B : σ → α → Option σ} {s0 s sF : σ} {x : α} {pre xs : List α} (hF : foldO B s0 xs = some sF) (h : foldO B s0 pre = some s) (hp : pre ++ [x] <+: xs) : ∃ s1, B s x = some s1 ∧ foldO B s0 (pre ++ [x]) = some s1 := by
  obtain ⟨t, rfl⟩ := hp
  rw [List.append_assoc, foldO_app, h] at hF
  obtain ⟨s1, h1, _⟩ := bo (show obind (B s x) (fun s' => foldO B s' ([] ++ t)) = some sF from hF)
  refine ⟨s1, h1, ?_⟩
  rw [foldO_app, h]
  show obind (B s x) (fun s' => foldO B s' []) = some s1
  rw [h1]
  rfl
theorem fdS {B F : σ → α → Option ρ} {s : σ} {x : α} {r : ρ} (e : B = F) (h : B s x = some r) : F s x = some r := by rw [← e]; exact h
end
end Go.Stp
