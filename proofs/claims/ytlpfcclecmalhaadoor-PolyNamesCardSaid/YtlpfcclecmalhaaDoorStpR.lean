/- The step library, fourteenth part: what a call is lent: blocks of its caller's that it turns. -/
import Derived.Test.YtlpfcclecmalhaaDoorStpQ
set_option linter.unusedSimpArgs false
set_option linter.unusedVariables false
set_option linter.unusedSectionVars false
namespace Go.Stp
open Go.RowKit
section
variable {w0 : Bs} {w w' : World} {Zi Z : FZ} {hl : List Own}
theorem haveB {C D : Prop} (h : C) (k : C → D) : D := k h
/-- A call begins that is lent these. -/
theorem HZ.startL {B : Bs} (hZ : Z.inn B.w) (ho : ∀ (i : Nat) (o : Own), hl[i]? = some o → o.holds B.w) (hlo : ∀ (i : Nat) (o : Own), hl[i]? = some o → ∀ b, o.at = some b → b ∈ B.L)
    (hap : ∀ (i j : Nat) (o o' : Own), hl[i]? = some o → hl[j]? = some o' → i ≠ j → ∀ b, o.at = some b → o'.at ≠ some b) (hoff : ∀ o ∈ hl, ∀ b, o.at = some b → Z b = none) : HZ B Z Z hl B.w :=
  ⟨⟨ExtB.refl _, ho, fun i o e b hb => .inr (hlo i o e b hb), hap⟩, hZ, hoff, FZ.sub.refl _, fun _ _ h => .inl h⟩
theorem HZ.startL1 {o : Own} (hZ : Z.inn w) (ho : o.holds w) (hoff : ∀ b, o.at = some b → Z b = none) : HZ ⟨w, o.at.toList⟩ Z Z [o] w := by
  have key : ∀ (i : Nat) (x : Own), [o][i]? = some x → i = 0 ∧ x = o := by
    intro i x e
    match i, e with
    | 0, e => exact ⟨rfl, (Option.some.inj e).symm⟩
    | i + 1, e => simp at e
  refine HZ.startL (B := ⟨w, o.at.toList⟩) hZ (fun i x e => ?_) (fun i x e b hb => ?_) (fun i j x y hx hy hij => ?_) (fun x hx b hb => ?_)
  · obtain ⟨_, rfl⟩ := key i x e
    exact ho
  · obtain ⟨_, rfl⟩ := key i x e
    rw [hb]
    simp
  · have := (key i x hx).1
    have := (key j y hy).1
    omega
  · obtain rfl : x = o := by simpa using hx
    exact hoff b hb
theorem HZ.startLB {b : Nat} {o : Obj} (hZ : Z.inn w) (ho : w.heap[b]? = some o) (hoff : Z b = none) : HZ ⟨w, [b]⟩ Z Z [.blk b o] w :=
  HZ.startL1 (o := .blk b o) hZ ho (fun c hc => by simp only [Own.at, Option.some.injEq] at hc; rw [← hc]; exact hoff)
theorem HZ.startLR {e : TypeId} {sz n : Nat} {v : Value} {xs : List Value} (hZ : Z.inn w) (ho : w.ownsRow 0 e sz v n xs) (hoff : ∀ b, v.ownBlock = some b → Z b = none) : HZ ⟨w, v.ownBlock.toList⟩ Z Z [.row e sz v n xs] w :=
  HZ.startL1 (o := .row e sz v n xs) hZ ho hoff
/-- Behind a call that was lent number i: what it has laid is frozen. -/
theorem HZ.lent (H : HZ w0 Zi Z hl w) (i : Nat) {o o' : Own} (hi : hl[i]? = some o) (ho : o'.holds w') (hat : o'.at = o.at) (X : ExtB ⟨w, o.at.toList⟩ w') :
    ∃ Z', Z.sub Z' ∧ (ZB Z w.heap.size w').sub Z' ∧ HZ w0 Zi Z' (hl.set i o') w' := by
  have hs : ∀ b, b < w.heap.size → o.at ≠ some b → w'.heap[b]? = w.heap[b]? := fun b hb hne => X.block b hb fun hm => hne (by
    cases ha : o.at with
    | none => rw [ha] at hm; simp at hm
    | some c => rw [ha] at hm; simp at hm; rw [hm])
  have hat' : ∀ b, o'.at = some b → o.at = some b ∨ w.heap.size ≤ b := fun b hb => .inl (by rw [← hat]; exact hb)
  have H' := H.turn i hi (H.hp.turn i hi o' ho X.os X.tape X.output X.size hs hat') hs hat'
  refine ⟨_, FZ.sub.trans (fun b u hb => ?_) (FZ.sub.refl (ZB Z w.heap.size w')), FZ.sub.refl _, ⟨H'.hp, ZB.inn H'.zin, fun x hx b hb => ?_, H'.sub.trans fun b u hb => ?_, fun b u hb => ?_⟩⟩
  · unfold ZB
    split
    · exact H'.zin b u hb
    · exact hb
  · unfold ZB
    rw [if_neg]
    · exact H'.off x hx b hb
    · intro hle
      rcases List.mem_or_eq_of_mem_set hx with hx | rfl
      · have := H.lt x hx b hb
        omega
      · rw [hat] at hb
        have := H.lt o (List.mem_of_getElem? hi) b hb
        omega
  · unfold ZB
    split
    · exact H'.zin b u hb
    · exact hb
  · unfold ZB at hb
    split at hb
    · right; left
      have := H.sz
      omega
    · exact H'.new b u hb
theorem HZ.lentB (H : HZ w0 Zi Z hl w) (i : Nat) {b : Nat} {o o' : Obj} (hi : hl[i]? = some (.blk b o)) (ho : w'.heap[b]? = some o') (X : ExtB ⟨w, [b]⟩ w') {hl' : List Own} (hh : hl.set i (.blk b o') = hl') :
    ∃ Z', Z.sub Z' ∧ (ZB Z w.heap.size w').sub Z' ∧ HZ w0 Zi Z' hl' w' := by
  subst hh
  exact H.lent i hi (o' := .blk b o') ho rfl X
/-- A row of which the elements were turned where they lie. -/
theorem HZ.lentR (H : HZ w0 Zi Z hl w) (i : Nat) {e : TypeId} {sz n : Nat} {v : Value} {xs xs' : List Value} {n' : Nat} (hi : hl[i]? = some (.row e sz v n xs)) (ho : w'.ownsRow 0 e sz v n' xs') (X : ExtB ⟨w, v.ownBlock.toList⟩ w') {hl' : List Own} (hh : hl.set i (.row e sz v n' xs') = hl') :
    ∃ Z', Z.sub Z' ∧ (ZB Z w.heap.size w').sub Z' ∧ HZ w0 Zi Z' hl' w' := by
  subst hh
  exact H.lent i hi (o' := .row e sz v n' xs') ho rfl X
/-- A row that a call has made its own: frozen as that left it. -/
theorem HZ.given (H : HZ w0 Zi Z hl w) (i : Nat) {e : TypeId} {sz n : Nat} {v : Value} {xs : List Value} (hi : hl[i]? = some (.row e sz v n xs)) (X : ExtB ⟨w, v.ownBlock.toList⟩ w') {hl' : List Own} (hh : hl.set i (.row e sz (.slice none 0 0) 0 []) = hl') :
    ∃ Z', Z.sub Z' ∧ (ZL Z ⟨w, v.ownBlock.toList⟩ w').sub Z' ∧ HZ w0 Zi Z' hl' w' := by
  subst hh
  have hs : ∀ b, b < w.heap.size → (Own.row e sz v n xs).at ≠ some b → w'.heap[b]? = w.heap[b]? := fun b hb hne => X.block b hb fun hm => hne (by
    show v.ownBlock = some b
    cases ha : v.ownBlock with
    | none => rw [ha] at hm; simp at hm
    | some c => rw [ha] at hm; simp at hm; rw [hm])
  have hat' : ∀ b, (Own.row e sz (.slice none 0 0) 0 []).at = some b → (Own.row e sz v n xs).at = some b ∨ w.heap.size ≤ b := fun b hb => by simp [Own.at, Value.ownBlock] at hb
  have H' := H.turn i hi (H.hp.turn i hi (.row e sz (.slice none 0 0) 0 []) (World.ownsRow_nil w' 0 e sz) X.os X.tape X.output X.size hs hat') hs hat'
  have hown : ∀ b, b ∈ v.ownBlock.toList → v.ownBlock = some b := fun b hb => by
    cases ha : v.ownBlock with
    | none => rw [ha] at hb; simp at hb
    | some c => rw [ha] at hb; simp at hb; rw [hb]
  have hsub : Z.sub (ZL Z ⟨w, v.ownBlock.toList⟩ w') := fun b u hb => by
    unfold ZL
    split
    · exact H'.zin b u hb
    · exact hb
  refine ⟨ZL Z ⟨w, v.ownBlock.toList⟩ w', hsub, FZ.sub.refl _, ⟨H'.hp, fun b u hb => ?_, fun x hx b hb => ?_, H'.sub.trans hsub, fun b u hb => ?_⟩⟩
  · unfold ZL at hb
    split at hb
    · exact hb
    · exact H'.zin b u hb
  · unfold ZL
    rw [if_neg]
    · exact H'.off x hx b hb
    · obtain ⟨j, hj⟩ := List.getElem?_of_mem hx
      by_cases hji : j = i
      · subst hji
        rw [List.getElem?_set_self (List.getElem?_eq_some_iff.1 hi).1] at hj
        obtain rfl := Option.some.inj hj
        simp [Own.at, Value.ownBlock] at hb
      · rw [List.getElem?_set_ne (fun e => hji e.symm)] at hj
        rintro (h | h)
        · have := H.lt x (List.mem_of_getElem? hj) b hb
          have h : w.heap.size ≤ b := h
          omega
        · exact H.hp.apart j i x _ hj hi hji b hb (hown b h)
  · unfold ZL at hb
    split at hb
    · rename_i hc
      right
      rcases hc with h | h
      · left
        have h : w.heap.size ≤ b := h
        have := H.sz
        omega
      · exact H.hp.lo i _ hi b (hown b h)
    · exact H'.new b u hb
end
section
variable {P : Program} {n : Nat}
/-- A call begins, memory being as it is. -/
theorem enG {f : FuncId} {fn : Func} {c : Code} {vs : List Value} {R : Value → World → Prop} {w : World} (hf : P.funcs[f]? = some fn) (is : List Nat) (l' : List (Nat × Value))
    (h : ∀ Q a, Fr n l' a → (∀ a w, Out P fn R a w → Q .ret a w) → (∀ a w, Out P fn R a w → Q .normal a w) → c.wp P Q a w) (hb : fn.body = some c := by rfl) (hn : fn.ntmps = n := by rfl) (hle : Nat.ble vs.length n = true := by rfl) (e : pickS (slots 0 vs) is = l' := by rfl) : Calls P f vs.toArray w (Ret R) :=
  enter hf hb hn hle fun Q a hfr hr hn => h Q a (hfr.only is e) hr hn
end

/-! ### own rows whose elements hold slices -/
section
variable {α : Type} {E : Enc α} {Z : FZ}
theorem EL.set {x : α} {c : Cl E.sz} (hx : E.rel Z x c.1) : ∀ {css : List (Cl E.sz)} {xs : List α} (p : Nat), EL E Z css xs → EL E Z (css.set p c) (xs.set p x)
  | [], [], p, _ => by simp [EL]
  | _ :: _, _ :: _, 0, h => ⟨hx, h.2⟩
  | _ :: _, _ :: _, p + 1, h => ⟨h.1, EL.set hx p h.2⟩
  | [], _ :: _, _, h => h.elim
  | _ :: _, [], _, h => h.elim
/-- An element, whether there or not. -/
theorem EL.gel [Inhabited α] {css : List (Cl E.sz)} {xs : List α} (h : EL E Z css xs) (hd : ∃ cs, E.rel Z default cs) (p : Int) : ∃ c : Cl E.sz, (0 ≤ p ∧ p < (xs.length : Int) → css[p.toNat]? = some c) ∧ E.rel Z (Stp.gel xs p) c.1 := by
  by_cases hp : p.toNat < xs.length
  · obtain ⟨c, h1, h2⟩ := EL.get h (getD_some xs p.toNat default hp)
    exact ⟨c, fun _ => h1, h2⟩
  · obtain ⟨cs, hcs⟩ := hd
    refine ⟨⟨cs, E.len hcs⟩, fun hh => by omega, ?_⟩
    have : Stp.gel xs p = default := by
      unfold Stp.gel
      rw [List.getD_eq_getElem?_getD, List.getElem?_eq_none (by omega)]
      rfl
    rw [this]
    exact hcs
theorem RdN.gel [Inhabited α] {v : Value} {xs : List α} (h : RdN Z v E xs) (hd : ∃ cs, E.rel Z default cs) (p : Int) : ∃ (css : List (Cl E.sz)) (c : Cl E.sz), RdZ Z v E.sz Subtype.val css ∧ (0 ≤ p ∧ p < (xs.length : Int) → css[p.toNat]? = some c) ∧ E.rel Z (Stp.gel xs p) c.1 := by
  obtain ⟨css, h1, h2⟩ := h
  obtain ⟨c, h3, h4⟩ := h2.gel hd p
  exact ⟨css, c, h1, h3, h4⟩
end
theorem putAt_left {d r vs : List Value} {j : Nat} (h : j + vs.length ≤ d.length) : putAt (d ++ r) j vs = putAt d j vs ++ r := by
  unfold putAt
  rw [List.take_append_of_le_length (by omega), List.drop_append_of_le_length h]
  simp
theorem putAt_right {d r vs : List Value} {j : Nat} : putAt (d ++ r) (d.length + j) vs = d ++ putAt r j vs := by
  unfold putAt
  have e1 : d.length + j + vs.length = d.length + (j + vs.length) := by omega
  rw [e1, List.take_length_add_append, List.drop_length_add_append]
  simp
theorem putAt_take {cs vs : List Value} {j m : Nat} (h : j + vs.length ≤ m) (hm : m ≤ cs.length) : (putAt cs j vs).take m = putAt (cs.take m) j vs := by
  have e : cs = cs.take m ++ cs.drop m := (List.take_append_drop m cs).symm
  have hl : (cs.take m).length = m := by simp; omega
  conv => lhs; rw [e]
  rw [putAt_left (by omega)]
  have hl2 : (putAt (cs.take m) j vs).length = m := by
    unfold putAt
    simp
    omega
  rw [List.take_append_of_le_length (by omega), List.take_of_length_le (by omega)]
theorem putAt_len {cs vs : List Value} {j : Nat} (h : j + vs.length ≤ cs.length) : (putAt cs j vs).length = cs.length := by
  unfold putAt
  simp
  omega
theorem putAt_flat {sz j : Nat} {vs : List Value} : ∀ {css : List (Cl sz)} {p : Nat} {c c' : Cl sz}, css[p]? = some c → j + vs.length ≤ sz → c'.1 = putAt c.1 j vs → putAt (css.flatMap Subtype.val) (p * sz + j) vs = (css.set p c').flatMap Subtype.val
  | d :: r, 0, c, c', hp, hj, hc => by
    simp only [List.getElem?_cons_zero, Option.some.injEq] at hp
    subst hp
    simp only [List.flatMap_cons, List.set_cons_zero, Nat.zero_mul, Nat.zero_add]
    rw [putAt_left (by rw [d.2]; exact hj), hc]
  | d :: r, p + 1, c, c', hp, hj, hc => by
    simp only [List.getElem?_cons_succ] at hp
    simp only [List.flatMap_cons, List.set_cons_succ]
    have e : (p + 1) * sz + j = d.1.length + (p * sz + j) := by rw [d.2, Nat.add_mul]; omega
    rw [e, putAt_right, putAt_flat hp hj hc]
  | [], p, c, c', hp, _, _ => by simp at hp
theorem flat_val_len {sz : Nat} (css : List (Cl sz)) : (css.flatMap Subtype.val).length = css.length * sz := flatMap_len _ sz (fun c => c.2) css

section
variable {P : Program} {ops : Array Oper} {Q : Exit → Act → World → Prop} {rest : List Oper} {n : Nm} {dn : Nat} {l : List (Nat × Value)} {a : Act} {w : World} {w0 : Bs} {hl : List Own} {Zi Z : FZ}
  {d : Option Nat} {x y : Operand} {t t' t2 ty : TypeId} {pos : String} {af : Array Edge} {g : Option (Nat × Bool)} {V V' : Value} {e e2 : TypeId} {k k' : IntKind} {p q : Int}
theorem HZ.rowPtr {i m sz : Nat} {sv : Value} {xs : List Value} (H : HZ w0 Zi Z hl w) (hi : hl[i]? = some (.row e sz sv m xs)) (hne : 0 < m) : ∃ b cap, sv = .slice (some ⟨b, 0, none⟩) m cap := by
  rcases (H.hp.getRow i hi).2 with ⟨_, hn⟩ | ⟨b, cap, cur, hv, _⟩
  · omega
  · exact ⟨b, cap, hv⟩
theorem v_idxRow {b m cap sz : Nat} {sv : Value} (hsv : sv = .slice (some ⟨b, 0, none⟩) m cap) (ht : P.underlying t = some (.slice e)) (hs : ∀ w, (sizeOf e).run P w = .ok sz w) (hx : ev l x = some sv) (hy : ev l y = some (.int k p)) (hp : 0 ≤ p ∧ p < (m : Int)) :
    Val P l w ⟨d, .indexAddr t x y, ty, pos, af, g⟩ (.pointer (some ⟨b, p.toNat * sz, none⟩)) := by
  subst hsv
  have := v_idxAddr (P := P) (l := l) (w := w) (dd := d) (ty := ty) (pos := pos) (af := af) (g := g) ht hs hx hy hp
  rw [Nat.zero_add] at this
  exact this
/-- A store into an element of an own row. -/
theorem z_storeN {sz j m b cap : Nat} {css : List (Cl sz)} {c c' : Cl sz} {sv : Value} (h : Fr n l a) (H : HZ w0 Zi Z hl w) (i : Nat) (hi : hl[i]? = some (.row e sz sv css.length (css.flatMap Subtype.val))) (hsv : sv = .slice (some ⟨b, 0, none⟩) css.length cap)
    (p : Nat) (hc : css[p]? = some c) (hx : ev l x = some (.pointer (some ⟨b, p * sz + j, none⟩))) (hy : ev l y = some V) (hs : ∀ w, (sizeOf t).run P w = .ok m w) (vs : List Value) (hvs : V.cells.toList = vs) (hk : vs.length = m) (h1 : allOne vs = true) (hj : j + m ≤ sz)
    (hc' : c'.1 = putAt c.1 j vs) {hl' : List Own} (hh : hl.set i (.row e sz sv (css.set p c').length ((css.set p c').flatMap Subtype.val)) = hl') (kk : ∀ w', HZ w0 Zi Z hl' w' → wpList P ops Q rest a w') :
    wpList P ops Q (⟨none, .store t x y, ty, pos, af, none⟩ :: rest) a w := by
  subst hh
  refine wpList_plain rfl fun K hK => ?_
  have hrow := H.hp.getRow i hi
  have hplt : p < css.length := (List.getElem?_eq_some_iff.1 hc).1
  rcases hrow.2 with ⟨_, hn⟩ | ⟨gb, cap', cur, hv, _, hg, hnc, hmx, hsz, ht⟩
  · omega
  · rw [hsv] at hv
    simp only [Value.slice.injEq, Option.some.injEq, Addr.mk.injEq] at hv
    obtain ⟨⟨rfl, _⟩, _, rfl⟩ := hv
    have hle : css.length * sz ≤ cur.toList.length := by
      simp only [Array.length_toList, hsz]
      exact Nat.mul_le_mul_right _ hnc
    have hoff : p * sz + j + vs.length ≤ css.length * sz := by
      have : (p + 1) * sz ≤ css.length * sz := Nat.mul_le_mul_right _ hplt
      rw [Nat.add_mul] at this
      omega
    have hg' : w.heap[b]? = some (.cells cur.toList.toArray e (0, 0)) := by simpa using hg
    obtain ⟨w', hr, hw, r1, r2, r3, r4, r5⟩ := storeCells_world (P := P) b (p * sz + j) e vs 0 cur.toList w hg' (by omega) (allOne_mem h1)
    have hszv : V.cells.size = m := by rw [← hk, ← hvs]; simp
    have e1 : execOp a.eval ⟨none, .store t x y, ty, pos, af, none⟩ = Instr.storeAt t (a.eval x) (a.eval y) >>= fun _ => pure .skip := rfl
    have e2 : (execOp a.eval ⟨none, .store t x y, ty, pos, af, none⟩).run P w = .ok .skip w' := by
      rw [e1, h.ev hx, h.ev hy]
      simp [Instr.storeAt, Instr.sureAddr, storeVar, hs, hszv, hvs, hr]
    unfold Oper.wp
    rw [e2]
    rw [Nat.add_zero] at hw
    have hown : w'.ownsRow 0 e sz sv (css.set p c').length ((css.set p c').flatMap Subtype.val) := by
      refine ⟨flat_val_len _, .inr ⟨b, cap, (putAt cur.toList (p * sz + j) vs).toArray, by rw [hsv, List.length_set], Nat.zero_le _, hw, by simpa using hnc, hmx, ?_, ?_⟩⟩
      · simp only [List.size_toArray]
        rw [putAt_len (by omega), Array.length_toList, hsz]
      · rw [List.length_set]
        show (putAt cur.toList (p * sz + j) vs).take (css.length * sz) = _
        rw [putAt_take hoff hle, ht, putAt_flat hc (by omega) hc']
    have hat : ∀ c, (Own.row e sz sv (css.set p c').length ((css.set p c').flatMap Subtype.val)).at = some c → (Own.row e sz sv css.length (css.flatMap Subtype.val)).at = some c ∨ w.heap.size ≤ c := fun c hc => .inl hc
    have hsame : ∀ c, c < w.heap.size → (Own.row e sz sv css.length (css.flatMap Subtype.val)).at ≠ some c → w'.heap[c]? = w.heap[c]? := fun c _ hne => r5 c fun e => hne (by rw [e]; show sv.ownBlock = some b; rw [hsv]; rfl)
    exact hK _ _ (kk w' (H.turn i hi (H.hp.turn i hi _ hown r1 r2 r3 (by omega) hsame hat) hsame hat))
/-- '[]T{x, ..}': an own row. -/
theorem z_sliceR {sz len : Nat} (h : Fr n l a) (H : HZ w0 Zi Z hl w) (ht : P.underlying t = some (.slice e)) (hs : ∀ w, (sizeOf e).run P w = .ok sz w) {z : Value} (hz : ∀ w, (zeroValue e).run P w = .ok z w) {ps : Array (Nat × Operand)} (hsz : (Nat.ble 1 (len * sz) && Nat.ble (len * sz) 1000) = true) (hl1 : Nat.ble len 1000 = true)
    {zl : List Value} (hzl : (Array.range (len * sz)).map (fun i => z.cells[i % z.cells.size]!) = zl.toArray) {pl : List (Nat × Nat)} (hp : ∀ i p, pl.toArray[i]? = some p → p = (i * sz, sz))
    (us : List Value) (cells : List Value) (hev : evs l (ps.toList.map (·.2)) = some us) (hf : fillL pl zl ((ps.toList.map (·.1)).zip us) = some cells) (hd : Nat.blt dn n.n = true) (hcl : cells.length = len * sz)
    (kk : ∀ a' v w', Ext w w' → HZ w0 Zi Z (hl ++ [.row e sz v len cells]) w' → Fr n ((dn, v) :: l) a' → wpList P ops Q rest a' w') :
    wpList P ops Q (⟨some dn, .buildSlice t len ps, ty, pos, af, none⟩ :: rest) a w := by
  refine st2 h rfl rfl hd (d_slice (w := w) ht hs hz hsz hzl hp us cells hev hf) ?_
  rintro v w' ⟨rfl, rfl⟩ a' h'
  simp only [Nat.ble_eq] at hl1
  refine kk a' _ _ (Ext.alloc _ _) (H.push (Ext.alloc w _) (.row e sz _ len cells) ⟨hcl, .inr ⟨w.heap.size, len, cells.toArray, rfl, Nat.zero_le _, heap_alloc_new w _, Nat.le_refl _, by simp only [maxLen]; omega, by simpa using hcl, ?_⟩⟩ (fun b hb => by simp only [Own.at, Value.ownBlock, Option.some.injEq] at hb; omega)) h'
  rw [← hcl]
  exact List.take_length
/-- append, run: of what reads as data to an own row. -/
theorem app_run {α : Type} {enc : α → List Value} {sz bytes : Nat} {out data : List α} {sv yv : Value} (hrow : w.ownsRow 0 e sz sv out.length (out.flatMap enc)) (ht : P.underlying t = some (.slice e)) (ht2 : P.underlying t2 = some (.slice e2))
    (hinfo : (P.info? e).map (fun i => (i.zero.map (·.cells.size), i.size, i.bytes)) = some (some sz, sz, bytes)) (hsz : Nat.ble 1 sz = true) (hin : Z.inn w) (hr : RdZ Z yv sz enc data)
    (henc : ∀ a, (enc a).length = sz) (h1 : ∀ a ∈ data, allOne (enc a) = true) (hmax : out.length + data.length ≤ 9223372036854775807 ∧ (out.length + data.length) * bytes ≤ 140737488355328) :
    ∃ v' w', (Builtin.append_ #[t, t2] ty #[sv, yv]).run P w = .ok v' w' ∧ w'.ownsRow 0 e sz v' (out ++ data).length ((out ++ data).flatMap enc) ∧ w'.os = w.os ∧ w'.tape = w.tape ∧ w'.output = w.output ∧ w.heap.size ≤ w'.heap.size ∧
      (∀ b, b < w.heap.size → sv.ownBlock ≠ some b → w'.heap[b]? = w.heap[b]?) ∧ (∀ c, v'.ownBlock = some c → sv.ownBlock = some c ∨ w.heap.size ≤ c) := by
  have e4 : (Builtin.append_ #[t, t2] ty #[sv, yv]).run P w = (Builtin.append_ #[t, t] ty #[sv, yv]).run P w := by
    obtain ⟨inf0, hi0, _⟩ := Option.map_eq_some_iff.1 hinfo
    obtain ⟨bs, sl, sc, hsv⟩ : ∃ b l c, sv = .slice b l c := by
      rcases hrow.2 with ⟨h, _⟩ | ⟨g, cap, cur, h, _⟩ <;> exact ⟨_, _, _, h⟩
    rw [hsv]
    simp [Builtin.append_, run_underlying ht, run_underlying ht2, sizeOf, typeInfo, hi0]
  rw [e4]
  rcases hr with ⟨rfl, rfl⟩ | ⟨gb, o, cap, cs', e', fz', hv, hcap, hb, hc⟩
  · refine ⟨sv, w, run_append_none (P := P) (ty := ty) ht hinfo hrow, by rw [List.append_nil]; exact hrow, rfl, rfl, rfl, Nat.le_refl _, fun _ _ _ => rfl, fun c hc => .inl hc⟩
  · subst hv
    have hlen := flatMap_len' henc data
    have hall : ∀ u ∈ data.flatMap enc, u.oneCell' = true := fun u hu => by
      obtain ⟨a, hm, ha⟩ := List.mem_flatMap.1 hu
      exact allOne_mem (h1 a hm) u ha
    have hb' : w.heap[gb]? = some (.cells cs'.toArray e' fz') := hin _ _ hb
    obtain ⟨inf, hi1, hi2⟩ := Option.map_eq_some_iff.1 hinfo
    simp only [Prod.mk.injEq] at hi2
    obtain ⟨hz, hs2, hby⟩ := hi2
    obtain ⟨z, hz1, hz2⟩ := Option.map_eq_some_iff.1 hz
    have hszz : 1 ≤ sz := by simpa [Nat.ble_eq] using hsz
    obtain ⟨v', w', hrun, hown, hgrow, _, hloc⟩ := run_append_own_at (P := P) w 0 t ty e inf z sz bytes ht hi1 hz1 hs2 hby hz2 hszz sv out.length (out.flatMap enc) hrow ⟨gb, o, none⟩ data.length cap (data.flatMap enc) hlen
      (fun j u hu => by rw [Addr.add_lit, Cel_cell hb']; exact hc j u hu) hall (by simpa [maxLen] using hmax.1) hmax.2 (Nat.zero_le _)
    refine ⟨v', w', hrun, by rw [List.length_append, List.flatMap_append]; exact hown, hgrow.os, hgrow.tape, hgrow.output, hgrow.size, fun b' hb' hne => hgrow.block b' hb' (fun e => hne e.symm), fun c hc' => ?_⟩
    rcases hloc with e | e
    · exact .inl (by rw [← e]; exact hc')
    · rw [e] at hc'
      exact .inr (by simp only [Option.some.injEq] at hc'; omega)
/-- append to an own row, the other slice's type being a name of its own. -/
theorem z_append2 {α : Type} {enc : α → List Value} {sz bytes : Nat} {out data : List α} {sv yv : Value} (h : Fr n l a) (H : HZ w0 Zi Z hl w) (i : Nat) (hi : hl[i]? = some (.row e sz sv out.length (out.flatMap enc))) (ht : P.underlying t = some (.slice e)) (ht2 : P.underlying t2 = some (.slice e2))
    (hinfo : (P.info? e).map (fun i => (i.zero.map (·.cells.size), i.size, i.bytes)) = some (some sz, sz, bytes)) (hsz : Nat.ble 1 sz = true) (hx : ev l x = some sv) (hy : ev l y = some yv) (hr : RdZ Z yv sz enc data)
    (henc : ∀ a, (enc a).length = sz) (h1 : ∀ a ∈ data, allOne (enc a) = true) (hmax : out.length + data.length ≤ 9223372036854775807 ∧ (out.length + data.length) * bytes ≤ 140737488355328) (hd : Nat.blt dn n.n = true)
    (kk : ∀ a' v' w', HZ w0 Zi Z (hl.set i (.row e sz v' (out ++ data).length ((out ++ data).flatMap enc))) w' → Fr n ((dn, v') :: l) a' → wpList P ops Q rest a' w') :
    wpList P ops Q (⟨some dn, .call { callee := .builtin .append, args := #[x, y], argTypes := #[t, t2] }, ty, pos, af, none⟩ :: rest) a w := by
  refine wpList_plain rfl fun K hK => ?_
  obtain ⟨v', w', hrun, hown, r1, r2, r3, r4, r5, r6⟩ := app_run (ty := ty) (H.hp.getRow i hi) ht ht2 hinfo hsz H.zin hr henc h1 hmax
  have e1 : execOp a.eval ⟨some dn, .call { callee := .builtin .append, args := #[x, y], argTypes := #[t, t2] }, ty, pos, af, none⟩ = Builtin.append_ #[t, t2] ty (#[x, y].map a.eval) >>= fun v => pure (.value v) := rfl
  have e2 : (execOp a.eval ⟨some dn, .call { callee := .builtin .append, args := #[x, y], argTypes := #[t, t2] }, ty, pos, af, none⟩).run P w = .ok (.value v') w' := by
    rw [e1]
    simp [h.ev hx, h.ev hy, hrun]
  unfold Oper.wp
  rw [e2]
  exact hK _ _ (kk _ v' w' (H.turn i hi (H.hp.turn i hi (.row e sz v' (out ++ data).length ((out ++ data).flatMap enc)) hown r1 r2 r3 r4 r5 r6) r5 r6) (h.put hd _))
/-- A block that is not written any more is frozen. -/
theorem HZ.freezeB (H : HZ w0 Zi Z hl w) (i : Nat) {b : Nat} {o : Obj} (hi : hl[i]? = some (.blk b o)) {hl' : List Own} (hh : hl.set i (.row 0 1 (.slice none 0 0) 0 []) = hl') : ∃ Z', Z.sub Z' ∧ HZ w0 Zi Z' hl' w ∧ Z' b = some o := by
  subst hh
  have hb := H.hp.get i hi
  have hZb : Z b = none := H.off _ (List.mem_of_getElem? hi) b rfl
  have hil : i < hl.length := (List.getElem?_eq_some_iff.1 hi).1
  have hat' : ∀ c, (Own.row 0 1 (.slice none 0 0) 0 []).at = some c → (Own.blk b o).at = some c ∨ w.heap.size ≤ c := fun c hc => by simp [Own.at, Value.ownBlock] at hc
  have H' := H.turn i hi (H.hp.turn i hi (.row 0 1 (.slice none 0 0) 0 []) (World.ownsRow_nil w 0 0 1) rfl rfl rfl (Nat.le_refl _) (fun _ _ _ => rfl) hat') (fun _ _ _ => rfl) hat'
  refine ⟨Z.add b o, FZ.sub_add hZb, ⟨H'.hp, fun c u hc => ?_, fun x hx c hc => ?_, H.sub.trans (FZ.sub_add hZb), fun c u hc => ?_⟩, by simp [FZ.add]⟩
  · unfold FZ.add at hc
    split at hc
    · rename_i e'; rw [e', hb]; exact hc
    · exact H.zin c u hc
  · unfold FZ.add
    rw [if_neg]
    · exact H'.off x hx c hc
    · intro e'
      subst e'
      obtain ⟨j, hj⟩ := List.getElem?_of_mem hx
      by_cases hji : j = i
      · subst hji
        rw [List.getElem?_set_self hil] at hj
        obtain rfl := Option.some.inj hj
        simp [Own.at, Value.ownBlock] at hc
      · rw [List.getElem?_set_ne (fun e => hji e.symm)] at hj
        exact H.hp.apart j i x _ hj hi hji c hc rfl
  · unfold FZ.add at hc
    split at hc
    · rename_i e'; right; subst e'; exact H.hp.lo i _ hi c rfl
    · exact H.new c u hc
end

/-! ### an own row of which two elements change places -/
theorem putAt_all {c vs : List Value} (h : c.length = vs.length) : putAt c 0 vs = vs := by
  unfold putAt
  rw [Nat.zero_add, ← h, List.drop_length]
  simp
section
variable {w0 : Bs} {w w' : World} {Zi Z : FZ} {hl : List Own} {e : TypeId} {sz : Nat} {css css' : List (Cl sz)} {sv : Value} {i b cap : Nat} {cs cs' : List Value}
theorem HZ.openN (H : HZ w0 Zi Z hl w) (hi : hl[i]? = some (.row e sz sv css.length (css.flatMap Subtype.val))) (hsv : sv = .slice (some ⟨b, 0, none⟩) css.length cap) (hne : 0 < css.length) :
    ∃ cs : List Value, w.heap[b]? = some (.cells cs.toArray e (0, 0)) ∧ css.length * sz ≤ cs.length ∧ cs.take (css.length * sz) = css.flatMap Subtype.val := by
  rcases (H.hp.getRow i hi).2 with ⟨_, hn⟩ | ⟨gb, cap', cur, hv, _, hg, hnc, hmx, hsz, ht⟩
  · omega
  · rw [hsv] at hv
    simp only [Value.slice.injEq, Option.some.injEq, Addr.mk.injEq] at hv
    obtain ⟨⟨rfl, _⟩, _, rfl⟩ := hv
    refine ⟨cur.toList, by simpa using hg, ?_, ht⟩
    simp only [Array.length_toList, hsz]
    exact Nat.mul_le_mul_right _ hnc
theorem flat_at {c : Cl sz} : ∀ {css : List (Cl sz)} {p : Nat}, css[p]? = some c → ((css.flatMap Subtype.val).drop (p * sz)).take sz = c.1
  | d :: r, 0, h => by
    simp only [List.getElem?_cons_zero, Option.some.injEq] at h
    subst h
    simp only [List.flatMap_cons, Nat.zero_mul, List.drop_zero]
    rw [List.take_append_of_le_length (by rw [d.2]; exact Nat.le_refl _), List.take_of_length_le (by rw [d.2]; exact Nat.le_refl _)]
  | d :: r, p + 1, h => by
    simp only [List.getElem?_cons_succ] at h
    have e : (p + 1) * sz = d.1.length + p * sz := by rw [d.2, Nat.add_mul]; omega
    simp only [List.flatMap_cons, e, List.drop_length_add_append]
    exact flat_at h
  | [], p, h => by simp at h
theorem open_at {c : Cl sz} {p : Nat} (ht : cs.take (css.length * sz) = css.flatMap Subtype.val) (hc : css[p]? = some c) : (cs.drop (p * sz)).take sz = c.1 := by
  have hlt := (List.getElem?_eq_some_iff.1 hc).1
  have hle : (p + 1) * sz ≤ css.length * sz := Nat.mul_le_mul_right _ hlt
  rw [Nat.add_mul, Nat.one_mul] at hle
  rw [← flat_at hc, ← ht, List.drop_take, List.take_take, Nat.min_eq_left (by omega)]
theorem put_take {c : Cl sz} {p : Nat} (hle : css.length * sz ≤ cs.length) (ht : cs.take (css.length * sz) = css.flatMap Subtype.val) (hp : p < css.length) :
    css.length * sz ≤ (putAt cs (p * sz) c.1).length ∧ (putAt cs (p * sz) c.1).length = cs.length ∧ (putAt cs (p * sz) c.1).take (css.length * sz) = (css.set p c).flatMap Subtype.val := by
  have hle' : (p + 1) * sz ≤ css.length * sz := Nat.mul_le_mul_right _ hp
  rw [Nat.add_mul, Nat.one_mul] at hle'
  have hl : (putAt cs (p * sz) c.1).length = cs.length := putAt_len (by rw [c.2]; omega)
  refine ⟨by omega, hl, ?_⟩
  rw [putAt_take (by rw [c.2]; omega) hle, ht]
  have := putAt_flat (c' := c) (j := 0) (vs := c.1) (List.getElem?_eq_getElem hp) (by rw [c.2]; omega) (putAt_all (by rw [c.2]; exact (css[p]).2)).symm
  rw [Nat.add_zero] at this
  exact this
theorem HZ.setRowN (H : HZ w0 Zi Z hl w) (hi : hl[i]? = some (.row e sz sv css.length (css.flatMap Subtype.val))) (hsv : sv = .slice (some ⟨b, 0, none⟩) css.length cap) (hne : 0 < css.length) (hb : w.heap[b]? = some (.cells cs.toArray e (0, 0)))
    (hb' : w'.heap[b]? = some (.cells cs'.toArray e (0, 0))) (hlen : css'.length = css.length) (hc1 : cs'.length = cs.length) (hc2 : cs'.take (css.length * sz) = css'.flatMap Subtype.val) (r1 : w'.os = w.os) (r2 : w'.tape = w.tape) (r3 : w'.output = w.output) (r4 : w'.heap.size = w.heap.size) (r5 : ∀ c, c ≠ b → w'.heap[c]? = w.heap[c]?) :
    HZ w0 Zi Z (hl.set i (.row e sz sv css'.length (css'.flatMap Subtype.val))) w' := by
  have hat : ∀ c, (Own.row e sz sv css'.length (css'.flatMap Subtype.val)).at = some c → (Own.row e sz sv css.length (css.flatMap Subtype.val)).at = some c ∨ w.heap.size ≤ c := fun c hc => .inl hc
  have hsame : ∀ c, c < w.heap.size → (Own.row e sz sv css.length (css.flatMap Subtype.val)).at ≠ some c → w'.heap[c]? = w.heap[c]? := fun c _ hn => r5 c fun e => hn (by rw [e]; show sv.ownBlock = some b; rw [hsv]; rfl)
  have hown : Own.holds (Own.row e sz sv css'.length (css'.flatMap Subtype.val)) w' := by
    refine ⟨flat_val_len _, ?_⟩
    rcases (H.hp.getRow i hi).2 with ⟨_, hn⟩ | ⟨gb, cap', cur, hv, hB, hg, hnc, hmx, hsz, ht⟩
    · omega
    · rw [hsv] at hv
      simp only [Value.slice.injEq, Option.some.injEq, Addr.mk.injEq] at hv
      obtain ⟨⟨rfl, _⟩, _, rfl⟩ := hv
      rw [hb] at hg
      simp only [Option.some.injEq, Obj.cells.injEq] at hg
      obtain ⟨rfl, _⟩ := hg
      exact .inr ⟨b, cap, cs'.toArray, by rw [hsv, hlen], hB, hb', by omega, hmx, by simpa [hc1] using hsz, by rw [hlen]; exact hc2⟩
  exact H.turn i hi (H.hp.turn i hi _ hown r1 r2 r3 (by omega) hsame hat) hsame hat
theorem row_fit {p : Nat} (hp : p < css.length) (hle : css.length * sz ≤ cs.length) : p * sz + sz ≤ cs.length := by
  have h : (p + 1) * sz ≤ css.length * sz := Nat.mul_le_mul_right _ hp
  rw [Nat.add_mul, Nat.one_mul] at h
  omega
/-- Two elements have changed places. -/
theorem HZ.swapN {p q : Nat} {cp cq : Cl sz} (H : HZ w0 Zi Z hl w) (hi : hl[i]? = some (.row e sz sv css.length (css.flatMap Subtype.val))) (hsv : sv = .slice (some ⟨b, 0, none⟩) css.length cap) (hp : p < css.length) (hq : q < css.length) (hb : w.heap[b]? = some (.cells cs.toArray e (0, 0)))
    (hle : css.length * sz ≤ cs.length) (ht : cs.take (css.length * sz) = css.flatMap Subtype.val)
    (hb' : w'.heap[b]? = some (.cells (putAt (putAt cs (p * sz) cq.1) (q * sz) cp.1).toArray e (0, 0))) (r1 : w'.os = w.os) (r2 : w'.tape = w.tape) (r3 : w'.output = w.output) (r4 : w'.heap.size = w.heap.size) (r5 : ∀ c, c ≠ b → w'.heap[c]? = w.heap[c]?) {hl' : List Own}
    (hh : hl.set i (.row e sz sv ((css.set p cq).set q cp).length (((css.set p cq).set q cp).flatMap Subtype.val)) = hl') : HZ w0 Zi Z hl' w' := by
  subst hh
  obtain ⟨a1, a2, a3⟩ := put_take (c := cq) hle ht hp
  have a1' : (css.set p cq).length * sz ≤ (putAt cs (p * sz) cq.1).length := by rw [List.length_set]; exact a1
  have a3' : (putAt cs (p * sz) cq.1).take ((css.set p cq).length * sz) = (css.set p cq).flatMap Subtype.val := by rw [List.length_set]; exact a3
  obtain ⟨b1, b2, b3⟩ := put_take (c := cp) a1' a3' (by rw [List.length_set]; exact hq)
  refine H.setRowN hi hsv (by omega) hb hb' (by simp) (b2.trans a2) ?_ r1 r2 r3 r4 r5
  rw [List.length_set] at b3
  exact b3
end
section
variable {P : Program} {ops : Array Oper} {n : Nm} {l : List (Nat × Value)} {a : Act} {w : World} {x y : Operand} {t ty e : TypeId} {pos : String} {af : Array Edge}
/-- A store of some cells into a block of cells: what it leaves. -/
theorem r_storeK {o : Oper} {b off k : Nat} {cs vs : List Value} (h : Fr n l a) (ho : o = ⟨none, .store t x y, ty, pos, af, none⟩) (hx : ev l x = some (.pointer (some ⟨b, off, none⟩))) (hy : ev l y = some (.agg vs.toArray)) (hk : vs.length = k) (h1 : allOne vs = true)
    (hs : ∀ w, (sizeOf t).run P w = .ok k w) (hb : w.heap[b]? = some (.cells cs.toArray e (0, 0))) (hlt : off + k ≤ cs.length) :
    ∃ w', R1 P ops o a w undef w' ∧ w'.heap[b]? = some (.cells (putAt cs off vs).toArray e (0, 0)) ∧ w'.os = w.os ∧ w'.tape = w.tape ∧ w'.output = w.output ∧ w'.heap.size = w.heap.size ∧ ∀ b', b' ≠ b → w'.heap[b']? = w.heap[b']? := by
  subst ho
  obtain ⟨w', hr, hh, r1, r2, r3, r4, r5⟩ := storeCells_world (P := P) b off e vs 0 cs w hb (by omega) (allOne_mem h1)
  have e1 : execOp a.eval ⟨none, .store t x y, ty, pos, af, none⟩ = Instr.storeAt t (a.eval x) (a.eval y) >>= fun _ => pure .skip := rfl
  refine ⟨w', .inr ⟨wanted_none rfl, .inr ⟨?_, rfl⟩⟩, by rw [hh, Nat.add_zero], r1, r2, r3, r4, r5⟩
  rw [e1, h.ev hx, h.ev hy]
  have hc : (Value.agg vs.toArray).cells = vs.toArray := rfl
  simp [Instr.storeAt, Instr.sureAddr, storeVar, hs, hc, hk, hr]
end

/-! ### functions that are handed on -/
theorem HZ.zini {w0 : Bs} {w : World} {Zi Z : FZ} {hl : List Own} (H : HZ w0 Zi Z hl w) : Zi.inn w := fun b o e => H.zin b o (H.sub b o e)
theorem HZ.offI {w0 : Bs} {w : World} {Zi Z : FZ} {hl : List Own} {o : Own} (H : HZ w0 Zi Z hl w) (i : Nat) (hi : hl[i]? = some o) : ∀ b, o.at = some b → Z b = none := H.off o (List.mem_of_getElem? hi)
theorem HZ.offZi {w0 : Bs} {w : World} {Zi Z : FZ} {hl : List Own} {o : Own} (H : HZ w0 Zi Z hl w) (i : Nat) (hi : hl[i]? = some o) : ∀ b, o.at = some b → Zi b = none := fun b hb => by
  cases hz : Zi b with
  | none => rfl
  | some u => exact absurd (H.sub b u hz) (by rw [H.offI i hi b hb]; simp)
/-- A function value that computes g, out of what is frozen. -/
def FnR {α β : Type} (P : Program) (f : FuncId) (cp : Array Value) (Z : FZ) (arg : α → List Value) (res : β → Value) (g : α → Option β) : Prop :=
  (∀ as w, (callFunc f as).run P w = .ok (.enter f as) w) ∧ ∀ c r w, Z.inn w → g c = some r → Calls P f (arg c ++ cp.toList).toArray w (Ret fun v w' => v = res r ∧ Ext w w')
theorem FnR.sub {α β : Type} {P : Program} {f : FuncId} {cp : Array Value} {Z Z' : FZ} {arg : α → List Value} {res : β → Value} {g : α → Option β} (h : FnR P f cp Z arg res g) (X : Z.sub Z') : FnR P f cp Z' arg res g :=
  ⟨h.1, fun c r w hi e => h.2 c r w (fun b o hb => hi b o (X b o hb)) e⟩
/-- .. of two elements that may hold slices. -/
def FnE {α β : Type} (P : Program) (f : FuncId) (cp : Array Value) (Z : FZ) (E : Enc α) (res : β → Value) (g : α → α → Option β) : Prop :=
  (∀ as w, (callFunc f as).run P w = .ok (.enter f as) w) ∧ ∀ x y cx cy r w, Z.inn w → E.rel Z x cx → E.rel Z y cy → g x y = some r → Calls P f ([Value.agg cx.toArray, Value.agg cy.toArray] ++ cp.toList).toArray w (Ret fun v w' => v = res r ∧ Ext w w')
section
variable {α β : Type} {P : Program} {f : FuncId} {cp : Array Value} {Z : FZ} {E : Enc α} {w : World} {arg : α → List Value} {res : β → Value} {l : List (Nat × Value)} {d : Option Nat} {x : Operand} {xs : Array Operand} {ats : Array TypeId} {ty : TypeId} {pos : String} {af : Array Edge} {gd : Option (Nat × Bool)}
theorem d_fn {g : α → Option β} (h : FnR P f cp Z arg res g) (hi : Z.inn w) (hf : ev l x = some (.func (.func f) #[] cp)) {c : α} {r : β} (he : evs l xs.toList = some (arg c)) (hg : g c = some r) :
    Does P l w ⟨d, .call { callee := .value x, args := xs, argTypes := ats }, ty, pos, af, gd⟩ (fun v w' => v = res r ∧ Ext w w') :=
  d_callV (arg c) hf he h.1 (arg c ++ cp.toList) rfl (h.2 c r w hi hg)
theorem d_fnE {g : α → α → Option β} (h : FnE P f cp Z E res g) (hi : Z.inn w) (hf : ev l x = some (.func (.func f) #[] cp)) {a b : α} {ca cb : List Value} {r : β} (he : evs l xs.toList = some [.agg ca.toArray, .agg cb.toArray]) (ha : E.rel Z a ca) (hb : E.rel Z b cb) (hg : g a b = some r) :
    Does P l w ⟨d, .call { callee := .value x, args := xs, argTypes := ats }, ty, pos, af, gd⟩ (fun v w' => v = res r ∧ Ext w w') :=
  d_callV [Value.agg ca.toArray, Value.agg cb.toArray] hf he h.1 ([Value.agg ca.toArray, Value.agg cb.toArray] ++ cp.toList) rfl (h.2 a b ca cb r w hi ha hb hg)
end
section
variable {P : Program} {n : Nm} {l : List (Nat × Value)} {a : Act} {w : World} {Q : Exit → Act → World → Prop} {R : Value → World → Prop} {fn : Func}
theorem r0 (hret : ∀ a w, Out P fn R a w → Q .ret a w) (h : Fr n l a) (hr : fn.results = #[]) (hR : R (.tuple #[]) w) (hds : n.ds = [] := by rfl) : Code.ret.wp P Q a w := c_ret (hret _ _ (out0 h hr hR hds))
end
section
variable {P : Program} {ops : Array Oper} {Q : Exit → Act → World → Prop} {rest : List Oper} {n : Nm} {dn : Nat} {l : List (Nat × Value)} {a : Act} {w : World} {d : Option Nat} {x y : Operand} {t t' ty : TypeId} {pos : String} {af : Array Edge} {g : Option (Nat × Bool)} {V V' : Value} {e : TypeId} {k k' : IntKind} {p q : Int}
theorem st_idxGC {sz : Nat} {css : List (Cl sz)} {c : Cl sz} {cs : List Value} {j gg : Nat} {b gc : Bool} (h : Fr n l a) (hj : (ops[j]?).bind (·.dst) = some gg) (hgv : Wants l gg b gc) (ht : P.underlying t = some (.slice e)) (hs : ∀ w, (sizeOf e).run P w = .ok sz w) (hx : gc = true → ev l x = some V) (hy : gc = true → ev l y = some (.int k p))
    (hr : Reads w V sz Subtype.val css) (hp : gc = true → 0 ≤ p) (hc : gc = true → css[p.toNat]? = some c) (hcs : c.1 = cs) (hd : Nat.blt dn n.n = true)
    (kk : ∀ a' V', (gc = true → At w V' (fun _ : Unit => cs) () 0) → Fr n ((dn, gw gc V') :: l) a' → wpList P ops Q rest a' w) :
    wpList P ops Q (⟨some dn, .indexAddr t x y, ty, pos, af, some (j, b)⟩ :: rest) a w :=
  st_idxG h hj hgv ht hs hx hy hr (fun a => a.2) c hp hc hd fun a' V' hA h' => kk a' V' (fun e0 => (hA e0).cells hcs) h'
/-- append, in a region that draws. -/
theorem r_app {w0 : Bs} {Zi Z : FZ} {hl : List Own} {α : Type} {enc : α → List Value} {sz bytes : Nat} {out data : List α} {sv yv : Value} {t2 e2 : TypeId} {o : Oper} (h : Fr n l a) (H : HZ w0 Zi Z hl w) (i : Nat) (hi : hl[i]? = some (.row e sz sv out.length (out.flatMap enc)))
    (ho : o = ⟨some dn, .call { callee := .builtin .append, args := #[x, y], argTypes := #[t, t2] }, ty, pos, af, none⟩) (ht : P.underlying t = some (.slice e)) (ht2 : P.underlying t2 = some (.slice e2))
    (hinfo : (P.info? e).map (fun i => (i.zero.map (·.cells.size), i.size, i.bytes)) = some (some sz, sz, bytes)) (hsz : Nat.ble 1 sz = true) (hx : ev l x = some sv) (hy : ev l y = some yv) (hr : RdZ Z yv sz enc data)
    (henc : ∀ a, (enc a).length = sz) (h1 : ∀ a ∈ data, allOne (enc a) = true) (hmax : out.length + data.length ≤ 9223372036854775807 ∧ (out.length + data.length) * bytes ≤ 140737488355328) :
    ∃ v' w', R1 P ops o a w v' w' ∧ HZ w0 Zi Z (hl.set i (.row e sz v' (out ++ data).length ((out ++ data).flatMap enc))) w' := by
  subst ho
  obtain ⟨v', w', hrun, hown, r1, r2, r3, r4, r5, r6⟩ := app_run (ty := ty) (H.hp.getRow i hi) ht ht2 hinfo hsz H.zin hr henc h1 hmax
  have e1 : execOp a.eval ⟨some dn, .call { callee := .builtin .append, args := #[x, y], argTypes := #[t, t2] }, ty, pos, af, none⟩ = Builtin.append_ #[t, t2] ty (#[x, y].map a.eval) >>= fun v => pure (.value v) := rfl
  refine ⟨v', w', .inr ⟨wanted_none rfl, .inl ?_⟩, H.turn i hi (H.hp.turn i hi (.row e sz v' (out ++ data).length ((out ++ data).flatMap enc)) hown r1 r2 r3 r4 r5 r6) r5 r6⟩
  rw [e1]
  simp [h.ev hx, h.ev hy, hrun]
/-- A sign as a text. -/
theorem v_runeS (ha : P.underlying t = some (.int k)) (hb : P.underlying t' = some .string) (hx : ev l x = some (.int k p)) (hp : 0 ≤ p ∧ p < 128) : Val P l w ⟨d, .convert t t' x, ty, pos, af, g⟩ (S [UInt8.ofNat p.toNat]) := fun n a h => by
  have e1 : execOp a.eval ⟨d, .convert t t' x, ty, pos, af, g⟩ = convert t t' (a.eval x) >>= fun v => pure (.value v) := rfl
  rw [e1, h.ev hx]
  have h1 : Utf8.valid p = true := by simp [Utf8.valid]; omega
  have h2 : p.toNat < 128 := by omega
  simp [convert, run_underlying ha, run_underlying hb, Conv.intToString, Utf8.encode, h1, h2]
/-- The address of an element of an array. -/
theorem v_idxArrP {b m : Nat} (ht : P.underlying t = some (.array m e)) (hs : ∀ w, (sizeOf e).run P w = .ok 1 w) (hx : ev l x = some (.pointer (some ⟨b, 0, none⟩))) (hy : ev l y = some (.int k p)) (hp : 0 ≤ p ∧ p < (m : Int)) :
    Val P l w ⟨d, .indexAddr t x y, ty, pos, af, g⟩ (.pointer (some ⟨b, p.toNat, none⟩)) := fun n a h => by
  have e1 : execOp a.eval ⟨d, .indexAddr t x y, ty, pos, af, g⟩ = Instr.indexAt t (a.eval x) (a.eval y) >>= fun v => pure (.value v) := rfl
  rw [e1, h.ev hx, h.ev hy]
  simp [Instr.indexAt, asIntOf, run_underlying ht, hp, hs, Addr.add_lit, Instr.sureAddr]
theorem v_loadArrI {b : Nat} {cs : List Value} {data : List Int} {fz : Nat × Nat} (hx : ev l x = some (.pointer (some ⟨b, p.toNat, none⟩))) (ha : ∀ w, (isAgg t).run P w = .ok false w) (hb : w.heap[b]? = some (.cells cs.toArray e fz)) (hd : data.map (Value.int k) = cs) (hp : 0 ≤ p ∧ p < (data.length : Int)) :
    Val P l w ⟨d, .load t x, ty, pos, af, g⟩ (.int k (gel data p)) := by
  refine v_load1 hx ha hb ?_
  rw [← hd, List.getElem?_map, gel_some hp]
  rfl
end
end Go.Stp
