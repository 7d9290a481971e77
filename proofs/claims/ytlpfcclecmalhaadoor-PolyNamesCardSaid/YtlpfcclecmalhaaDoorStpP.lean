/- The step library, twelfth part: slices whose elements hold slices. -/
import Derived.Test.YtlpfcclecmalhaaDoorStpO
set_option linter.unusedSimpArgs false
set_option linter.unusedVariables false
set_option linter.unusedSectionVars false
namespace Go.Stp
open Go.RowKit
theorem bnd {a b n m M B K : Nat} (l1 : a = n) (l2 : b = m) (h : n + m ≤ M ∧ (n + m) * B ≤ K) : a + b ≤ M ∧ (a + b) * B ≤ K := by
  subst l1 l2
  exact h
/-- How an element lies in cells, what it points at being frozen. -/
structure Enc (α : Type) where
  sz : Nat
  rel : FZ → α → List Value → Prop
  mono : ∀ {Z Z' : FZ} {x : α} {cs : List Value}, Z.subC Z' → rel Z x cs → rel Z' x cs
  len : ∀ {Z : FZ} {x : α} {cs : List Value}, rel Z x cs → cs.length = sz
  one : ∀ {Z : FZ} {x : α} {cs : List Value}, rel Z x cs → allOne cs = true
abbrev Cl (n : Nat) := {l : List Value // l.length = n}
section
variable {α : Type} {E : Enc α} {Z Z' : FZ} {v : Value} {data : List α}
def EL (E : Enc α) (Z : FZ) : List (Cl E.sz) → List α → Prop
  | [], [] => True
  | c :: cs, x :: xs => E.rel Z x c.1 ∧ EL E Z cs xs
  | _, _ => False
theorem EL.len : ∀ {css : List (Cl E.sz)} {xs : List α}, EL E Z css xs → css.length = xs.length
  | [], [], _ => rfl
  | _ :: _, _ :: _, h => by simp [EL.len h.2]
  | [], _ :: _, h => h.elim
  | _ :: _, [], h => h.elim
theorem EL.subC (hz : Z.subC Z') : ∀ {css : List (Cl E.sz)} {xs : List α}, EL E Z css xs → EL E Z' css xs
  | [], [], _ => trivial
  | _ :: _, _ :: _, h => ⟨E.mono hz h.1, EL.subC hz h.2⟩
  | [], _ :: _, h => h.elim
  | _ :: _, [], h => h.elim
theorem EL.sub (hz : Z.sub Z') {css : List (Cl E.sz)} {xs : List α} (h : EL E Z css xs) : EL E Z' css xs := h.subC hz.c
theorem EL.get : ∀ {css : List (Cl E.sz)} {xs : List α} {p : Nat} {x : α}, EL E Z css xs → xs[p]? = some x → ∃ c, css[p]? = some c ∧ E.rel Z x c.1
  | c :: cs, y :: ys, 0, x, h, hx => by
    simp only [List.getElem?_cons_zero, Option.some.injEq] at hx
    subst hx
    exact ⟨c, rfl, h.1⟩
  | c :: cs, y :: ys, p + 1, x, h, hx => by
    simp only [List.getElem?_cons_succ] at hx ⊢
    exact EL.get h.2 hx
  | [], [], p, x, _, hx => by simp at hx
  | [], _ :: _, _, _, h, _ => h.elim
  | _ :: _, [], _, _, h, _ => h.elim
theorem EL.append : ∀ {css css' : List (Cl E.sz)} {xs xs' : List α}, EL E Z css xs → EL E Z css' xs' → EL E Z (css ++ css') (xs ++ xs')
  | [], _, [], _, _, h' => h'
  | _ :: _, _, _ :: _, _, h, h' => ⟨h.1, EL.append h.2 h'⟩
  | [], _, _ :: _, _, h, _ => h.elim
  | _ :: _, _, [], _, h, _ => h.elim
theorem EL.take : ∀ {css : List (Cl E.sz)} {xs : List α} (m : Nat), EL E Z css xs → EL E Z (css.take m) (xs.take m)
  | [], [], _, _ => by simp [EL]
  | _ :: _, _ :: _, 0, _ => trivial
  | _ :: _, _ :: _, m + 1, h => ⟨h.1, EL.take m h.2⟩
  | [], _ :: _, _, h => h.elim
  | _ :: _, [], _, h => h.elim
theorem EL.drop : ∀ {css : List (Cl E.sz)} {xs : List α} (m : Nat), EL E Z css xs → EL E Z (css.drop m) (xs.drop m)
  | [], [], _, _ => by simp [EL]
  | _ :: _, _ :: _, 0, h => h
  | _ :: _, _ :: _, m + 1, h => EL.drop m h.2
  | [], _ :: _, _, h => h.elim
  | _ :: _, [], _, h => h.elim
theorem EL.one : ∀ {css : List (Cl E.sz)} {xs : List α}, EL E Z css xs → ∀ c ∈ css, allOne c.1 = true
  | [], [], _, c, hc => by cases hc
  | d :: ds, _ :: _, h, c, hc => by
    rcases List.mem_cons.1 hc with rfl | hc
    · exact E.one h.1
    · exact EL.one h.2 c hc
  | [], _ :: _, h, _, _ => h.elim
  | _ :: _, [], h, _, _ => h.elim
/-- A slice reads as data, what its elements point at too. -/
def RdN (Z : FZ) (v : Value) (E : Enc α) (data : List α) : Prop := ∃ css : List (Cl E.sz), RdZ Z v E.sz Subtype.val css ∧ EL E Z css data
theorem RdN.subC (h : RdN Z v E data) (hz : Z.subC Z') : RdN Z' v E data := by
  obtain ⟨css, h1, h2⟩ := h
  exact ⟨css, h1.subC hz, h2.subC hz⟩
theorem RdN.sub (h : RdN Z v E data) (hz : Z.sub Z') : RdN Z' v E data := h.subC hz.c
theorem RdN.hz {w : World} (h : RdN Z v E data) (hi : Z.inn w) : RdN (Stp.hz w) v E data := h.sub hi.hz
theorem RdN.nil : RdN Z (.slice none 0 0) E [] := ⟨[], RdZ.nil, trivial⟩
theorem RdZ.one {β : Type} {sz : Nat} {enc : β → List Value} {l : List β} (h : RdZ Z v sz enc l) : v.oneCell' = true := by
  rcases h with ⟨rfl, _⟩ | ⟨_, _, _, _, _, _, rfl, _⟩ <;> rfl
theorem RdN.one (h : RdN Z v E data) : v.oneCell' = true := by
  obtain ⟨css, h1, _⟩ := h
  exact h1.one
theorem RdZ.cells {β : Type} {sz : Nat} {enc : β → List Value} {l : List β} (h : RdZ Z v sz enc l) : v.cells = #[v] := by
  rcases h with ⟨rfl, _⟩ | ⟨_, _, _, _, _, _, rfl, _⟩ <;> rfl
theorem RdN.cells (h : RdN Z v E data) : v.cells = #[v] := by
  obtain ⟨css, h1, _⟩ := h
  exact h1.cells
theorem RdZ.form {β : Type} {sz : Nat} {enc : β → List Value} {l : List β} (h : RdZ Z v sz enc l) : ∃ ao n c, v = .slice ao n c := by
  rcases h with ⟨rfl, _⟩ | ⟨_, _, _, _, _, _, rfl, _⟩ <;> exact ⟨_, _, _, rfl⟩
theorem RdN.form (h : RdN Z v E data) : ∃ ao n c, v = .slice ao n c := by
  obtain ⟨css, h1, _⟩ := h
  exact h1.form
theorem RdN.get {p : Int} {x : α} (h : RdN Z v E data) (hx : data[p.toNat]? = some x) : ∃ (css : List (Cl E.sz)) (c : Cl E.sz), RdZ Z v E.sz Subtype.val css ∧ css[p.toNat]? = some c ∧ E.rel Z x c.1 := by
  obtain ⟨css, h1, h2⟩ := h
  obtain ⟨c, hc, hr⟩ := h2.get hx
  exact ⟨css, c, h1, hc, hr⟩
theorem RdN.ofRow {w : World} {B : Nat} {e : TypeId} {css : List (Cl E.sz)} (h : w.ownsRow B e E.sz v css.length (css.flatMap Subtype.val)) (hE : EL E Z css data) (hz : Z.sub Z') (hB : (ZB Z0 B w).sub Z') : RdN Z' v E data := ⟨css, (RdZ.row h rfl).sub hB, hE.sub hz⟩
end
theorem At.cells {α : Type} {w : World} {V : Value} {enc : α → List Value} {da : α} {j : Nat} {cs : List Value} (h : At w V enc da j) (e : enc da = cs) : At w V (fun _ : Unit => cs) () j := by
  obtain ⟨g, o, c, t, fz, h1, h2, h3⟩ := h
  exact ⟨g, o, c, t, fz, h1, h2, fun i u hu => h3 i u (by rw [e]; exact hu)⟩

section
variable {P : Program} {ops : Array Oper} {Q : Exit → Act → World → Prop} {rest : List Oper} {n : Nm} {dn : Nat} {l : List (Nat × Value)} {a : Act} {w w1 : World} {w0 : Bs} {hl : List Own} {Zi Z : FZ}
  {d : Option Nat} {x y : Operand} {t t' ty : TypeId} {pos : String} {af : Array Edge} {g : Option (Nat × Bool)} {V V' : Value} {e : TypeId} {k k' : IntKind} {p q : Int}
theorem v_lenN {α : Type} {E : Enc α} {data : List α} (ht : P.underlying t = some (.slice e)) (hx : ev l x = some V) (hr : RdN Z V E data) (hz : Z.inn w) :
    Val P l w ⟨d, .call { callee := .builtin .len, args := #[x], argTypes := #[t] }, ty, pos, af, g⟩ (.int .i64 data.length) := by
  obtain ⟨css, h1, h2⟩ := hr
  rw [← h2.len]
  exact v_len ht hx (h1.at hz)
theorem st_idxC {sz : Nat} {css : List (Cl sz)} {c : Cl sz} {cs : List Value} (h : Fr n l a) (ht : P.underlying t = some (.slice e)) (hs : ∀ w, (sizeOf e).run P w = .ok sz w) (hx : ev l x = some V) (hy : ev l y = some (.int k p))
    (hr : Reads w V sz Subtype.val css) (hp : 0 ≤ p) (hc : css[p.toNat]? = some c) (hcs : c.1 = cs) (hd : Nat.blt dn n.n = true)
    (kk : ∀ a' V', At w V' (fun _ : Unit => cs) () 0 → Fr n ((dn, V') :: l) a' → wpList P ops Q rest a' w) :
    wpList P ops Q (⟨some dn, .indexAddr t x y, ty, pos, af, none⟩ :: rest) a w :=
  st_idx h ht hs hx hy hr (fun a => a.2) c hp hc hd fun a' V' hA h' => kk a' V' (hA.cells hcs) h'
theorem d_idxC {sz : Nat} {css : List (Cl sz)} {c : Cl sz} {cs : List Value} {gd : Option (Nat × Bool)} (ht : P.underlying t = some (.slice e)) (hs : ∀ w, (sizeOf e).run P w = .ok sz w) (hx : ev l x = some V) (hy : ev l y = some (.int k p))
    (hr : Reads w V sz Subtype.val css) (hp : 0 ≤ p) (hc : css[p.toNat]? = some c) (hcs : c.1 = cs) :
    DoesF P l w ⟨some dn, .indexAddr t x y, ty, pos, af, gd⟩ false (.rel (fun w v => At w v (fun _ : Unit => cs) () 0)) := by
  obtain ⟨V', h1, h2⟩ := idx_val (P := P) (l := l) (dn := dn) (ty := ty) (pos := pos) (af := af) (gd := gd) true ht hs (fun _ => hx) (fun _ => hy) hr (fun a => a.2) c (fun _ => hp) (fun _ => hc)
  exact (h1 rfl w).doesR ((h2 rfl).cells hcs)
theorem rn_stab {α : Type} {E : Enc α} {data : List α} {Z : FZ} {B : Nat} : Stab (fun w v => RdN (ZB Z B w) v E data) := fun w w' v X h => h.sub (ZB.grow X)
/-- '[]T{x, ..}' in a region that draws. -/
theorem d_sliceRN {α : Type} {E : Enc α} {gd : Option (Nat × Bool)} {len : Nat} {data : List α} (css : List (Cl E.sz)) (hZ : Z.inn w1) (X : Ext w1 w) (ht : P.underlying t = some (.slice e)) (hs : ∀ w, (sizeOf e).run P w = .ok E.sz w) {z : Value} (hz : ∀ w, (zeroValue e).run P w = .ok z w) {ps : Array (Nat × Operand)} (hsz : (Nat.ble 1 (len * E.sz) && Nat.ble (len * E.sz) 1000) = true)
    {zl : List Value} (hzl : (Array.range (len * E.sz)).map (fun i => z.cells[i % z.cells.size]!) = zl.toArray) {pl : List (Nat × Nat)} (hp : ∀ i p, pl.toArray[i]? = some p → p = (i * E.sz, E.sz))
    (us : List Value) (cells : List Value) (hev : evs l (ps.toList.map (·.2)) = some us) (hf : fillL pl zl ((ps.toList.map (·.1)).zip us) = some cells) (hlen : css.length = len) (hdt : css.flatMap Subtype.val = cells) (hE : EL E (ZB Z w1.heap.size w) css data) :
    DoesF P l w ⟨some dn, .buildSlice t len ps, ty, pos, af, gd⟩ false (.rel (fun w v => RdN (ZB Z w1.heap.size w) v E data)) := by
  refine (d_slice (w := w) ht hs hz hsz hzl hp us cells hev hf).doesR ?_
  rintro v w' ⟨rfl, rfl⟩
  refine ⟨⟨css, .inr ⟨w.heap.size, 0, len, cells, e, (0, 0), by rw [hlen], by omega, ?_, fun j u hu => by rw [Nat.zero_add, ← hdt]; exact hu⟩, hE.sub (ZB.grow (Ext.alloc _ _))⟩, Ext.alloc _ _⟩
  unfold ZB
  rw [if_pos X.size]
  exact heap_alloc_new w _
/-- Parts. -/
theorem partN {α : Type} {E : Enc α} {data : List α} {V : Value} {lo hi : Option Operand} (h : Fr n l a) (ht : P.underlying t = some (.slice e)) (hs : ∀ w, (sizeOf e).run P w = .ok E.sz w) (hx : ev l x = some V) (hr : RdN Z V E data)
    (hlo : match lo with | none => p = 0 | some o => ∃ k, ev l o = some (.int k p)) (hhi : match hi with | none => q = data.length | some o => ∃ k, ev l o = some (.int k q)) (hb : 0 ≤ p ∧ p ≤ q ∧ q ≤ (data.length : Int)) :
    ∃ V', (execOp a.eval ⟨d, .slice t x lo hi none, ty, pos, af, g⟩).run P w = .ok (.value V') w ∧ RdN Z V' E (cutL data p q) := by
  obtain ⟨css, h1, h2⟩ := hr
  have hl := h2.len
  obtain ⟨V', hrun, hr'⟩ := part_val (P := P) (d := d) (ty := ty) (pos := pos) (af := af) (g := g) (w := w) (fun c : Cl E.sz => c.2) h ht hs hx h1 (lo := lo) (hi := hi) hlo (by rw [hl]; exact hhi) (by rw [hl]; exact hb)
  exact ⟨V', hrun, _, hr', (h2.take q.toNat).drop p.toNat⟩
theorem z_partN_lh {α : Type} {E : Enc α} {data : List α} {ol oh : Operand} {k1 k2 : IntKind} (h : Fr n l a) (ht : P.underlying t = some (.slice e)) (hs : ∀ w, (sizeOf e).run P w = .ok E.sz w) (hx : ev l x = some V) (h1 : ev l ol = some (.int k1 p)) (h2 : ev l oh = some (.int k2 q)) (hr : RdN Z V E data)
    (hb : 0 ≤ p ∧ p ≤ q ∧ q ≤ (data.length : Int)) (hd : Nat.blt dn n.n = true) (kk : ∀ a' V', RdN Z V' E (cutL data p q) → Fr n ((dn, V') :: l) a' → wpList P ops Q rest a' w) :
    wpList P ops Q (⟨some dn, .slice t x (some ol) (some oh) none, ty, pos, af, none⟩ :: rest) a w := by
  obtain ⟨V', hrun, hr'⟩ := partN (P := P) (d := some dn) (ty := ty) (pos := pos) (af := af) (g := none) (w := w) h ht hs hx hr (lo := some ol) (hi := some oh) ⟨k1, h1⟩ ⟨k2, h2⟩ hb
  refine wpList_plain rfl fun K hK => ?_
  unfold Oper.wp
  rw [hrun]
  exact hK _ _ (kk _ V' hr' (h.put hd V'))
theorem z_partN_l {α : Type} {E : Enc α} {data : List α} {ol : Operand} {k1 : IntKind} (h : Fr n l a) (ht : P.underlying t = some (.slice e)) (hs : ∀ w, (sizeOf e).run P w = .ok E.sz w) (hx : ev l x = some V) (h1 : ev l ol = some (.int k1 p)) (hr : RdN Z V E data)
    (hb : 0 ≤ p ∧ p ≤ (data.length : Int) ∧ (data.length : Int) ≤ (data.length : Int)) (hd : Nat.blt dn n.n = true) (kk : ∀ a' V', RdN Z V' E (cutL data p data.length) → Fr n ((dn, V') :: l) a' → wpList P ops Q rest a' w) :
    wpList P ops Q (⟨some dn, .slice t x (some ol) none none, ty, pos, af, none⟩ :: rest) a w := by
  obtain ⟨V', hrun, hr'⟩ := partN (P := P) (d := some dn) (ty := ty) (pos := pos) (af := af) (g := none) (w := w) h ht hs hx hr (lo := some ol) (hi := none) ⟨k1, h1⟩ rfl hb
  refine wpList_plain rfl fun K hK => ?_
  unfold Oper.wp
  rw [hrun]
  exact hK _ _ (kk _ V' hr' (h.put hd V'))
theorem z_partN_h {α : Type} {E : Enc α} {data : List α} {oh : Operand} {k2 : IntKind} (h : Fr n l a) (ht : P.underlying t = some (.slice e)) (hs : ∀ w, (sizeOf e).run P w = .ok E.sz w) (hx : ev l x = some V) (h2 : ev l oh = some (.int k2 q)) (hr : RdN Z V E data)
    (hb : (0 : Int) ≤ 0 ∧ 0 ≤ q ∧ q ≤ (data.length : Int)) (hd : Nat.blt dn n.n = true) (kk : ∀ a' V', RdN Z V' E (cutL data 0 q) → Fr n ((dn, V') :: l) a' → wpList P ops Q rest a' w) :
    wpList P ops Q (⟨some dn, .slice t x none (some oh) none, ty, pos, af, none⟩ :: rest) a w := by
  obtain ⟨V', hrun, hr'⟩ := partN (P := P) (d := some dn) (ty := ty) (pos := pos) (af := af) (g := none) (w := w) h ht hs hx hr (lo := none) (hi := some oh) rfl ⟨k2, h2⟩ hb
  refine wpList_plain rfl fun K hK => ?_
  unfold Oper.wp
  rw [hrun]
  exact hK _ _ (kk _ V' hr' (h.put hd V'))
theorem HZ.rowN {α : Type} {E : Enc α} {data : List α} {css : List (Cl E.sz)} {i : Nat} {sv : Value} (H : HZ w0 Zi Z hl w) (hi : hl[i]? = some (.row e E.sz sv css.length (css.flatMap Subtype.val))) (hE : EL E Z css data) : RdN (hz w) sv E data := ⟨css, H.rowZ hi, hE.sub H.zin.hz⟩
theorem HZ.backRowNL {α : Type} {E : Enc α} {data : List α} {css : List (Cl E.sz)} {i : Nat} {sv : Value} (H : HZ w0 Zi Z hl w) (hi : hl[i]? = some (.row e E.sz sv css.length (css.flatMap Subtype.val))) (hE : EL E Z css data) : RdN (ZL Zi w0 w) sv E data := ⟨css, (H.backRowL hi).sub ZL.empty, hE.sub H.backL⟩
theorem HZ.backRowN {α : Type} {E : Enc α} {data : List α} {css : List (Cl E.sz)} {i : Nat} {sv : Value} {w0 : World} (H : HZ w0 Zi Z hl w) (hi : hl[i]? = some (.row e E.sz sv css.length (css.flatMap Subtype.val))) (hE : EL E Z css data) : RdN (ZB Zi w0.heap.size w) sv E data := (H.backRowNL hi hE).sub ZL.none
/-- A row that is not written any more is frozen. -/
theorem HZ.freezeRow {α : Type} {enc : α → List Value} {sz : Nat} {out : List α} {sv : Value} (H : HZ w0 Zi Z hl w) (i : Nat) (hi : hl[i]? = some (.row e sz sv out.length (out.flatMap enc))) :
    ∃ Z', Z.sub Z' ∧ HZ w0 Zi Z' (hl.set i (.row e sz (.slice none 0 0) 0 [])) w ∧ RdZ Z' sv sz enc out := by
  have ho := H.hp.getRow i hi
  have hil : i < hl.length := (List.getElem?_eq_some_iff.1 hi).1
  have hp' : Hp w0 (hl.set i (.row e sz (.slice none 0 0) 0 [])) w := by
    refine ⟨H.hp.below, fun j x hx => ?_, fun j x hx b hb => ?_, fun j m x y hx hy hjm b hb => ?_⟩
    · by_cases hj : j = i
      · subst hj
        rw [List.getElem?_set_self hil] at hx
        obtain rfl := Option.some.inj hx
        exact World.ownsRow_nil w _ e sz
      · rw [List.getElem?_set_ne (fun e => hj e.symm)] at hx
        exact H.hp.own j x hx
    · by_cases hj : j = i
      · subst hj
        rw [List.getElem?_set_self hil] at hx
        obtain rfl := Option.some.inj hx
        simp [Own.at, Value.ownBlock] at hb
      · rw [List.getElem?_set_ne (fun e => hj e.symm)] at hx
        exact H.hp.lo j x hx b hb
    · by_cases hj : j = i
      · subst hj
        rw [List.getElem?_set_self hil] at hx
        obtain rfl := Option.some.inj hx
        simp [Own.at, Value.ownBlock] at hb
      · rw [List.getElem?_set_ne (fun e => hj e.symm)] at hx
        by_cases hm : m = i
        · subst hm
          rw [List.getElem?_set_self hil] at hy
          obtain rfl := Option.some.inj hy
          simp [Own.at, Value.ownBlock]
        · rw [List.getElem?_set_ne (fun e => hm e.symm)] at hy
          exact H.hp.apart j m x y hx hy hjm b hb
  have hat : ∀ x ∈ hl.set i (.row e sz (.slice none 0 0) 0 []), ∀ b, x.at = some b → ∃ j, j ≠ i ∧ hl[j]? = some x := by
    intro x hx b hb
    obtain ⟨j, hj⟩ := List.getElem?_of_mem hx
    by_cases hji : j = i
    · subst hji
      rw [List.getElem?_set_self hil] at hj
      obtain rfl := Option.some.inj hj
      simp [Own.at, Value.ownBlock] at hb
    · rw [List.getElem?_set_ne (fun e => hji e.symm)] at hj
      exact ⟨j, hji, hj⟩
  rcases ho.2 with ⟨hv, h0⟩ | ⟨g, cap, cur, hv, hB, hg, hnc, hmx, hsz, ht⟩
  · refine ⟨Z, FZ.sub.refl Z, ⟨hp', H.zin, fun x hx b hb => ?_, H.sub, H.new⟩, .inl ⟨hv, List.eq_nil_of_length_eq_zero h0⟩⟩
    obtain ⟨j, _, hj⟩ := hat x hx b hb
    exact H.off x (List.mem_of_getElem? hj) b hb
  · have hown : (Own.row e sz sv out.length (out.flatMap enc)).at = some g := by rw [hv]; rfl
    have hZg : Z g = none := H.off _ (List.mem_of_getElem? hi) g hown
    refine ⟨Z.add g (.cells cur e (0, 0)), FZ.sub_add hZg, ⟨hp', fun c u hc => ?_, fun x hx c hc => ?_, H.sub.trans (FZ.sub_add hZg), fun c u hc => ?_⟩, .inr ⟨g, 0, cap, cur.toList, e, (0, 0), hv, hnc, by simp [FZ.add], fun j u hu => ?_⟩⟩
    · unfold FZ.add at hc
      split at hc
      · rename_i e'; rw [e', hg]; exact hc
      · exact H.zin c u hc
    · obtain ⟨j, hji, hj⟩ := hat x hx c hc
      unfold FZ.add
      split
      · rename_i e'
        subst e'
        exact absurd hown (H.hp.apart j i x _ hj hi hji c hc)
      · exact H.off x (List.mem_of_getElem? hj) c hc
    · unfold FZ.add at hc
      split at hc
      · rename_i e'; right; subst e'; exact H.hp.lo i _ hi c hown
      · exact H.new c u hc
    · rw [← ht, List.getElem?_take] at hu
      rw [Nat.zero_add]
      split at hu
      · exact hu
      · cases hu
theorem HZ.freezeRowN {α : Type} {E : Enc α} {data : List α} {css : List (Cl E.sz)} {sv : Value} (H : HZ w0 Zi Z hl w) (i : Nat) (hi : hl[i]? = some (.row e E.sz sv css.length (css.flatMap Subtype.val))) (hE : EL E Z css data) :
    ∃ Z', Z.sub Z' ∧ HZ w0 Zi Z' (hl.set i (.row e E.sz (.slice none 0 0) 0 [])) w ∧ RdN Z' sv E data := by
  obtain ⟨Z', h1, h2, h3⟩ := H.freezeRow i hi
  exact ⟨Z', h1, h2, css, h3, hE.sub h1⟩
end
end Go.Stp
