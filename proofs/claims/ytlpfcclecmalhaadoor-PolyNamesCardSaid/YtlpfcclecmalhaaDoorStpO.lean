/- The step library, eleventh part: more operations: bits, shifts, least and greatest, elements of arrays, parts of slices, texts gone over. -/
import Derived.Test.YtlpfcclecmalhaaDoorStpN
import Derived.Test.YtlpfcclecmalhaaDoorStpS
import Derived.Laws.RangeAny
import Derived.Lib.OthersKept
set_option linter.unusedSimpArgs false
set_option linter.unusedVariables false
set_option linter.unusedSectionVars false
namespace Go.Stp
open Go.RowKit
abbrev eI (k : IntKind) : Int → List Value := fun z => [.int k z]
abbrev eB : Bool → List Value := fun b => [.bool b]
abbrev eS : List UInt8 → List Value := fun s => [S s]
def toB (l : List Int) : List UInt8 := l.map fun z => UInt8.ofNat z.toNat
def ofB (l : List UInt8) : List Int := l.map fun b => (b.toNat : Int)
def bytesOk (l : List Int) : Bool := l.all fun z => decide (0 ≤ z ∧ z ≤ 255)
def cutL {α : Type} (l : List α) (a b : Int) : List α := (l.take b.toNat).drop a.toNat
def shlI (k : IntKind) (p q : Int) : Int := k.wrap (p * 2 ^ (min q.toNat k.bits))
def shrI (k : IntKind) (p q : Int) : Int := p.fdiv (2 ^ (min q.toNat k.bits))
/-- The sign at a place of a text, and its bytes. -/
def rn (l : List UInt8) (p : Nat) : Int := ((Utf8.decode ⟨l.toArray⟩ p).1 : Int)
def nextP (l : List UInt8) (p : Nat) : Nat := if p < l.length then p + (Utf8.decode ⟨l.toArray⟩ p).2 else p
def nextV (l : List UInt8) (p : Nat) : Value := if p < l.length then .tuple #[.bool true, .int .i64 p, .int .i32 (rn l p)] else .tuple #[.bool false]

section
variable {P : Program} {ops : Array Oper} {Q : Exit → Act → World → Prop} {rest : List Oper} {n : Nm} {dn : Nat} {l : List (Nat × Value)} {a : Act} {w : World} {w0 : Bs} {hl : List Own} {Zi Z : FZ}
  {d : Option Nat} {x y : Operand} {t t' ty : TypeId} {pos : String} {af : Array Edge} {g : Option (Nat × Bool)} {V V' : Value} {e : TypeId} {k k' : IntKind} {p q : Int}

theorem v_bits_and (hx : ev l x = some (.int k p)) (hy : ev l y = some (.int k q)) : Val P l w ⟨d, .binOp .and t x y t', ty, pos, af, g⟩ (.int k (bits .and k p q)) := v_band hx hy
theorem v_bits_or (hx : ev l x = some (.int k p)) (hy : ev l y = some (.int k q)) : Val P l w ⟨d, .binOp .or t x y t', ty, pos, af, g⟩ (.int k (bits .or k p q)) := fun n a h => by
  rw [ex_bin, h.ev hx, h.ev hy]
  have e1 : eqGuard .or t x y (.int k p) (.int k q) = pure () := rfl
  rw [e1]
  simp [Go.binOp_or, intBits_or]
theorem v_bits_andNot (hx : ev l x = some (.int k p)) (hy : ev l y = some (.int k q)) : Val P l w ⟨d, .binOp .andNot t x y t', ty, pos, af, g⟩ (.int k (bits .andNot k p q)) := fun n a h => by
  rw [ex_bin, h.ev hx, h.ev hy]
  have e1 : eqGuard .andNot t x y (.int k p) (.int k q) = pure () := rfl
  rw [e1]
  simp [Go.binOp_andNot, intBits_andNot]
theorem v_shl (hx : ev l x = some (.int k p)) (hy : ev l y = some (.int k' q)) (h0 : 0 ≤ q) : Val P l w ⟨d, .binOp .shl t x y t', ty, pos, af, g⟩ (.int k (shlI k p q)) := fun n a h => by
  rw [ex_bin, h.ev hx, h.ev hy]
  have e1 : eqGuard .shl t x y (.int k p) (.int k' q) = pure () := rfl
  have e2 : binOp .shl t (.int k p) (.int k' q) = Op.shift .shl k p k' q := by cases k <;> cases k' <;> rfl
  have h1 : ¬ q < 0 := by omega
  rw [e1, e2]
  simp [Op.shift, h1, shlI]
theorem v_shr (hx : ev l x = some (.int k p)) (hy : ev l y = some (.int k' q)) (h0 : 0 ≤ q) : Val P l w ⟨d, .binOp .shr t x y t', ty, pos, af, g⟩ (.int k (shrI k p q)) := fun n a h => by
  rw [ex_bin, h.ev hx, h.ev hy]
  have e1 : eqGuard .shr t x y (.int k p) (.int k' q) = pure () := rfl
  have e2 : binOp .shr t (.int k p) (.int k' q) = Op.shift .shr k p k' q := by cases k <;> cases k' <;> rfl
  have h1 : ¬ q < 0 := by omega
  rw [e1, e2]
  simp [Op.shift, h1, shrI]
theorem v_min {tt : TypeId} (_hu : P.underlying tt = some (.int k)) (hx : ev l x = some (.int k p)) (hy : ev l y = some (.int k q)) {ats : Array TypeId} : Val P l w ⟨d, .call { callee := .builtin .min, args := #[x, y], argTypes := ats }, ty, pos, af, g⟩ (.int k (min p q)) := fun n a h => by
  have e1 : execOp a.eval ⟨d, .call { callee := .builtin .min, args := #[x, y], argTypes := ats }, ty, pos, af, g⟩ = Builtin.min_ ats ty (#[x, y].map a.eval) >>= fun v => pure (.value v) := rfl
  rw [e1]
  have e2 : (if q < p then q else p) = min p q := by omega
  simp [h.ev hx, h.ev hy, Builtin.min_, Builtin.min2, e2]
theorem v_max {tt : TypeId} (_hu : P.underlying tt = some (.int k)) (hx : ev l x = some (.int k p)) (hy : ev l y = some (.int k q)) {ats : Array TypeId} : Val P l w ⟨d, .call { callee := .builtin .max, args := #[x, y], argTypes := ats }, ty, pos, af, g⟩ (.int k (max p q)) := fun n a h => by
  have e1 : execOp a.eval ⟨d, .call { callee := .builtin .max, args := #[x, y], argTypes := ats }, ty, pos, af, g⟩ = Builtin.max_ ats ty (#[x, y].map a.eval) >>= fun v => pure (.value v) := rfl
  rw [e1]
  have e2 : (if p < q then q else p) = max p q := by omega
  simp [h.ev hx, h.ev hy, Builtin.max_, Builtin.max2, e2]
theorem v_makeFunc {f : FuncId} {xs : Array Operand} (us : List Value) (he : evs l xs.toList = some us) : Val P l w ⟨d, .makeFunc (.func f) #[] xs, ty, pos, af, g⟩ (.func (.func f) #[] us.toArray) := fun n a h => by
  have e1 : execOp a.eval ⟨d, .makeFunc (.func f) #[] xs, ty, pos, af, g⟩ = Instr.makeFunc (.func f) ((#[] : Array Operand).map a.eval) (xs.map a.eval) >>= fun v => pure (.value v) := rfl
  rw [e1, h.evsA he]
  simp [Instr.makeFunc]
theorem v_idxArrB {len : Nat} (bs : List Bool) (ht : P.underlying t = some (.array len e)) (hs : ∀ w, (sizeOf e).run P w = .ok 1 w) (ha : ∀ w, (isAgg e).run P w = .ok false w) (hx : ev l x = some (.agg (bs.map Value.bool).toArray)) (hy : ev l y = some (.int k p))
    (hl : bs.length = len) (hp : 0 ≤ p ∧ p < len) : Val P l w ⟨d, .index t x y, ty, pos, af, g⟩ (.bool (gel bs p)) :=
  v_idxArr ht hs ha hx hy hp (by rw [List.getElem?_map, gel_some (by omega)]; rfl)

/-! ### bytes and texts -/
theorem toB_len (data : List Int) : (toB data).length = data.length := by simp [toB]
theorem ofB_toB {data : List Int} (h : bytesOk data = true) : (toB data).map (fun b => (b.toNat : Int)) = data := by
  unfold toB
  rw [List.map_map]
  conv => rhs; rw [← List.map_id data]
  apply List.map_congr_left
  intro z hz
  have h1 := List.all_eq_true.1 h z hz
  simp only [decide_eq_true_eq] at h1
  have h2 : z.toNat < 256 := by omega
  simp only [Function.comp, UInt8.toNat_ofNat', id]
  have : z.toNat % 2 ^ 8 = z.toNat := Nat.mod_eq_of_lt (by omega)
  rw [this]
  omega
theorem flatMap_eI (k : IntKind) : ∀ data : List Int, data.flatMap (eI k) = data.map (Value.int k)
  | [] => rfl
  | z :: r => by rw [List.flatMap_cons, flatMap_eI k r]; rfl
theorem v_toStrI {data : List Int} (hs : P.underlying t = some (.slice e)) (he : P.underlying e = some (.int .u8)) (hd : P.underlying t' = some .string) (hx : ev l x = some V) (hr : Reads w V 1 (eI .u8) data) (hok : bytesOk data = true) :
    Val P l w ⟨d, .convert t t' x, ty, pos, af, g⟩ (S (toB data)) := fun n a h => by
  have e1 : execOp a.eval ⟨d, .convert t t' x, ty, pos, af, g⟩ = convert t t' (a.eval x) >>= fun v => pure (.value v) := rfl
  rcases hr with ⟨hv, h0⟩ | ⟨gb, o, cap, cs', e', fz', hv, hb, hc⟩
  · subst h0
    rw [e1, h.ev hx, hv]
    have e3 : (Conv.bytesToString (.slice none 0 0)).run P w = .ok (.string ⟨#[]⟩) w := by
      simp [Conv.bytesToString]
      rfl
    simp [run_convert_bytes_string (P := P) w t t' e none 0 0 hs he hd, e3, toB]
  · rw [e1, h.ev hx, hv]
    have := run_convert_bytes_back (P := P) w t t' e ⟨gb, o, none⟩ cap (toB data) hs he hd (fun j hj => by
      rw [Addr.add_lit, Cel_cell hb]
      refine hc j _ ?_
      have e5 : data.flatMap (eI .u8) = data.map (Value.int .u8) := by
        exact flatMap_eI .u8 data
      have e6 : data[j]? = some ((toB data)[j].toNat : Int) := by
        have h1 := congrArg (·[j]?) (ofB_toB hok)
        simp only [List.getElem?_map] at h1
        rw [← h1, List.getElem?_eq_getElem hj]
        rfl
      rw [e5, List.getElem?_map, e6]
      rfl)
    rw [toB_len] at this
    simp [this]

/-! ### parts of slices -/
theorem flatMap_take {α : Type} {enc : α → List Value} {sz : Nat} (henc : ∀ a, (enc a).length = sz) : ∀ (data : List α) (m : Nat), (data.take m).flatMap enc = (data.flatMap enc).take (m * sz)
  | [], m => by simp
  | a :: r, 0 => by simp
  | a :: r, m + 1 => by
    rw [List.take_succ_cons, List.flatMap_cons, List.flatMap_cons, flatMap_take henc r m, Nat.add_mul, Nat.one_mul, Nat.add_comm (m * sz) sz, List.take_append, henc]
    have : (enc a).take (sz + m * sz) = enc a := List.take_of_length_le (by rw [henc]; omega)
    rw [this, show sz + m * sz - sz = m * sz by omega]
theorem flatMap_drop {α : Type} {enc : α → List Value} {sz : Nat} (henc : ∀ a, (enc a).length = sz) : ∀ (data : List α) (m : Nat), (data.drop m).flatMap enc = (data.flatMap enc).drop (m * sz)
  | [], m => by simp
  | a :: r, 0 => by simp
  | a :: r, m + 1 => by
    rw [List.drop_succ_cons, List.flatMap_cons, flatMap_drop henc r m, Nat.add_mul, Nat.one_mul, Nat.add_comm (m * sz) sz, List.drop_append, henc]
    have : (enc a).drop (sz + m * sz) = [] := List.drop_of_length_le (by rw [henc]; omega)
    rw [this, show sz + m * sz - sz = m * sz by omega, List.nil_append]
/-- What a part of a slice is. -/
theorem part_val {α : Type} {enc : α → List Value} {sz : Nat} {data : List α} {lo hi : Option Operand} (henc : ∀ a, (enc a).length = sz) (h : Fr n l a) (ht : P.underlying t = some (.slice e)) (hs : ∀ w, (sizeOf e).run P w = .ok sz w) (hx : ev l x = some V) (hr : RdZ Z V sz enc data)
    (hlo : match lo with | none => p = 0 | some o => ∃ k, ev l o = some (.int k p)) (hhi : match hi with | none => q = data.length | some o => ∃ k, ev l o = some (.int k q)) (hb : 0 ≤ p ∧ p ≤ q ∧ q ≤ (data.length : Int)) :
    ∃ V', (execOp a.eval ⟨d, .slice t x lo hi none, ty, pos, af, g⟩).run P w = .ok (.value V') w ∧ RdZ Z V' sz enc (cutL data p q) := by
  obtain ⟨b0, b1, b2⟩ := hb
  have e1 : execOp a.eval ⟨d, .slice t x lo hi none, ty, pos, af, g⟩ = Instr.sliceAt t (a.eval x) (lo.map a.eval) (hi.map a.eval) none >>= fun v => pure (.value v) := by
    cases lo <;> cases hi <;> rfl
  have key : ∀ (ao : Option Addr) (cap : Nat), data.length ≤ cap → (Instr.sliceAt t (.slice ao data.length cap) (lo.map a.eval) (hi.map a.eval) none).run P w = .ok (.slice (if cap = p.toNat then ao else ao.map (·.add (p.toNat * sz))) (q.toNat - p.toNat) (cap - p.toNat)) w := by
    intro ao cap hc
    have hq : (0 : Int) ≤ q := by omega
    have hqc : q ≤ (cap : Int) := by omega
    have hp' : p ≤ ((q.toNat : Nat) : Int) := by omega
    have hpl : p ≤ (data.length : Int) := by omega
    cases lo with
    | none =>
      simp only at hlo
      subst hlo
      cases hi with
      | none =>
        simp only at hhi
        subst hhi
        simp [Instr.sliceAt, Instr.slice, run_underlying ht, Instr.sliceBounds, hs]
      | some oh =>
        obtain ⟨k2, h2⟩ := hhi
        simp [Instr.sliceAt, Instr.slice, run_underlying ht, Instr.sliceBounds, Instr.sliceBound, asIntOf, h.ev h2, hq, hqc, hs]
    | some ol =>
      obtain ⟨k1, h1⟩ := hlo
      cases hi with
      | none =>
        simp only at hhi
        subst hhi
        simp [Instr.sliceAt, Instr.slice, run_underlying ht, Instr.sliceBounds, Instr.sliceBound, asIntOf, h.ev h1, b0, hpl, hs]
      | some oh =>
        obtain ⟨k2, h2⟩ := hhi
        simp [Instr.sliceAt, Instr.slice, run_underlying ht, Instr.sliceBounds, Instr.sliceBound, asIntOf, h.ev h1, h.ev h2, hq, hqc, b0, hp', hs]
        intro hh
        exfalso
        omega
  have hlen : (cutL data p q).length = q.toNat - p.toNat := by
    simp only [cutL, List.length_drop, List.length_take]
    omega
  rcases hr with ⟨hv, h0⟩ | ⟨gb, o, cap, cs, e', fz, hv, hcap, hb, hc⟩
  · subst h0
    have hp0 : p = 0 := by simp at b2; omega
    have hq0 : q = 0 := by simp at b2; omega
    refine ⟨.slice none 0 0, ?_, .inl ⟨rfl, by simp [cutL]⟩⟩
    rw [e1, h.ev hx, hv]
    have := key none 0 (Nat.le_refl _)
    simp only [List.length_nil] at this
    simp only [Sem.run_bind, this, Result.andThen_ok, Sem.run_pure, hp0, hq0]
    rfl
  · refine ⟨_, by rw [e1, h.ev hx, hv]; simp only [Sem.run_bind, key (some ⟨gb, o, none⟩) cap hcap, Result.andThen_ok, Sem.run_pure]; rfl, ?_⟩
    by_cases hcp : cap = p.toNat
    · rw [if_pos hcp]
      have hnil : cutL data p q = [] := List.eq_nil_of_length_eq_zero (by omega)
      refine .inr ⟨gb, o, cap - p.toNat, cs, e', fz, by rw [hlen], by omega, hb, fun j u hu => ?_⟩
      rw [hnil] at hu
      simp at hu
    · rw [if_neg hcp]
      refine .inr ⟨gb, o + p.toNat * sz, cap - p.toNat, cs, e', fz, by rw [hlen]; simp [Addr.add_lit], by omega, hb, fun j u hu => ?_⟩
      rw [Nat.add_assoc]
      refine hc _ u ?_
      unfold cutL at hu
      rw [flatMap_drop henc, flatMap_take henc, List.getElem?_drop, List.getElem?_take] at hu
      split at hu
      · exact hu
      · cases hu
theorem z_part_lh {α : Type} {enc : α → List Value} {sz : Nat} {data : List α} {ol oh : Operand} {k1 k2 : IntKind} (henc : ∀ a, (enc a).length = sz) (h : Fr n l a) (ht : P.underlying t = some (.slice e)) (hs : ∀ w, (sizeOf e).run P w = .ok sz w) (hx : ev l x = some V) (h1 : ev l ol = some (.int k1 p)) (h2 : ev l oh = some (.int k2 q)) (hr : RdZ Z V sz enc data)
    (hb : 0 ≤ p ∧ p ≤ q ∧ q ≤ (data.length : Int)) (hd : Nat.blt dn n.n = true) (kk : ∀ a' V', RdZ Z V' sz enc (cutL data p q) → Fr n ((dn, V') :: l) a' → wpList P ops Q rest a' w) :
    wpList P ops Q (⟨some dn, .slice t x (some ol) (some oh) none, ty, pos, af, none⟩ :: rest) a w := by
  obtain ⟨V', hrun, hr'⟩ := part_val (P := P) (d := some dn) (ty := ty) (pos := pos) (af := af) (g := none) (w := w) henc h ht hs hx hr (lo := some ol) (hi := some oh) ⟨k1, h1⟩ ⟨k2, h2⟩ hb
  refine wpList_plain rfl fun K hK => ?_
  unfold Oper.wp
  rw [hrun]
  exact hK _ _ (kk _ V' hr' (h.put hd V'))
theorem z_part_l {α : Type} {enc : α → List Value} {sz : Nat} {data : List α} {ol : Operand} {k1 : IntKind} (henc : ∀ a, (enc a).length = sz) (h : Fr n l a) (ht : P.underlying t = some (.slice e)) (hs : ∀ w, (sizeOf e).run P w = .ok sz w) (hx : ev l x = some V) (h1 : ev l ol = some (.int k1 p)) (hr : RdZ Z V sz enc data)
    (hb : 0 ≤ p ∧ p ≤ (data.length : Int) ∧ (data.length : Int) ≤ (data.length : Int)) (hd : Nat.blt dn n.n = true) (kk : ∀ a' V', RdZ Z V' sz enc (cutL data p data.length) → Fr n ((dn, V') :: l) a' → wpList P ops Q rest a' w) :
    wpList P ops Q (⟨some dn, .slice t x (some ol) none none, ty, pos, af, none⟩ :: rest) a w := by
  obtain ⟨V', hrun, hr'⟩ := part_val (P := P) (d := some dn) (ty := ty) (pos := pos) (af := af) (g := none) (w := w) henc h ht hs hx hr (lo := some ol) (hi := none) ⟨k1, h1⟩ rfl hb
  refine wpList_plain rfl fun K hK => ?_
  unfold Oper.wp
  rw [hrun]
  exact hK _ _ (kk _ V' hr' (h.put hd V'))
theorem z_part_h {α : Type} {enc : α → List Value} {sz : Nat} {data : List α} {oh : Operand} {k2 : IntKind} (henc : ∀ a, (enc a).length = sz) (h : Fr n l a) (ht : P.underlying t = some (.slice e)) (hs : ∀ w, (sizeOf e).run P w = .ok sz w) (hx : ev l x = some V) (h2 : ev l oh = some (.int k2 q)) (hr : RdZ Z V sz enc data)
    (hb : (0 : Int) ≤ 0 ∧ 0 ≤ q ∧ q ≤ (data.length : Int)) (hd : Nat.blt dn n.n = true) (kk : ∀ a' V', RdZ Z V' sz enc (cutL data 0 q) → Fr n ((dn, V') :: l) a' → wpList P ops Q rest a' w) :
    wpList P ops Q (⟨some dn, .slice t x none (some oh) none, ty, pos, af, none⟩ :: rest) a w := by
  obtain ⟨V', hrun, hr'⟩ := part_val (P := P) (d := some dn) (ty := ty) (pos := pos) (af := af) (g := none) (w := w) henc h ht hs hx hr (lo := none) (hi := some oh) rfl ⟨k2, h2⟩ hb
  refine wpList_plain rfl fun K hK => ?_
  unfold Oper.wp
  rw [hrun]
  exact hK _ _ (kk _ V' hr' (h.put hd V'))

/-! ### a text gone over -/
theorem z_range {m : List UInt8} (h : Fr n l a) (H : HZ w0 Zi Z hl w) (ht : P.underlying t = some .string) (hx : ev l x = some (S m)) (hd : Nat.blt dn n.n = true)
    (k : ∀ a' b w', Ext w w' → HZ w0 Zi Z (hl ++ [.blk b (.stringIter ⟨m.toArray⟩ 0)]) w' → Fr n ((dn, .pointer (some ⟨b, 0, none⟩)) :: l) a' → wpList P ops Q rest a' w') :
    wpList P ops Q (⟨some dn, .range t x, ty, pos, af, none⟩ :: rest) a w := by
  refine wpList_plain rfl fun K hK => ?_
  have e1 : execOp a.eval ⟨some dn, .range t x, ty, pos, af, none⟩ = Instr.range t (a.eval x) >>= fun v => pure (.value v) := rfl
  have e2 : (execOp a.eval ⟨some dn, .range t x, ty, pos, af, none⟩).run P w = .ok (.value (.pointer (some ⟨w.heap.size, 0, none⟩))) (w.alloc (.stringIter ⟨m.toArray⟩ 0)) := by
    rw [e1, h.ev hx]
    have := run_range_string (P := P) w t ⟨m.toArray⟩ ht
    simp [this, World.iter]
  unfold Oper.wp
  rw [e2]
  refine hK _ _ (k _ w.heap.size _ (Ext.alloc _ _) (H.push (Ext.alloc _ _) (.blk _ _) (heap_alloc_new w _) (fun b hb => by simp only [Own.at, Option.some.injEq] at hb; omega)) (h.put hd _))
theorem z_next {m : List UInt8} {ps b : Nat} (h : Fr n l a) (H : HZ w0 Zi Z hl w) (i : Nat) (hi : hl[i]? = some (.blk b (.stringIter ⟨m.toArray⟩ ps))) (hx : ev l x = some (.pointer (some ⟨b, 0, none⟩))) (hd : Nat.blt dn n.n = true) {hl' : List Own} (hhl : hl.set i (.blk b (.stringIter ⟨m.toArray⟩ (nextP m ps))) = hl')
    (k : ∀ a' w', HZ w0 Zi Z hl' w' → Fr n ((dn, nextV m ps) :: l) a' → wpList P ops Q rest a' w') :
    wpList P ops Q (⟨some dn, .next x true, ty, pos, af, none⟩ :: rest) a w := by
  refine wpList_plain rfl fun K hK => ?_
  have e1 : execOp a.eval ⟨some dn, .next x true, ty, pos, af, none⟩ = Instr.next (a.eval x) true ty >>= fun v => pure (.value v) := rfl
  have hb := H.hp.get i hi
  have hblt : b < w.heap.size := (Array.getElem?_eq_some_iff.1 hb).1
  have hsz : (⟨m.toArray⟩ : ByteArray).size = m.length := rfl
  unfold Oper.wp
  rw [e1, h.ev hx]
  by_cases hlt : ps < m.length
  · have := Lib.run_next_any_at (P := P) w b ⟨m.toArray⟩ ps ty hb (by rw [hsz]; exact hlt)
    simp only [Sem.run_bind, this, Result.andThen_ok, Sem.run_pure]
    have hV : nextV m ps = .tuple #[.bool true, .int .i64 ps, .int .i32 (rn m ps)] := by unfold nextV; rw [if_pos hlt]
    have hP : nextP m ps = ps + (Utf8.decode ⟨m.toArray⟩ ps).2 := by unfold nextP; rw [if_pos hlt]
    have hsame : ∀ c, c ≠ b → (w.iterAt b ⟨m.toArray⟩ (nextP m ps)).heap[c]? = w.heap[c]? := fun c hc => by
      simp [World.iterAt, Array.getElem?_setIfInBounds, Ne.symm hc]
    rw [← hP]
    refine hK _ _ (k _ _ ?_ (by rw [hV]; exact h.put hd _))
    subst hhl
    have hat : ∀ c, (Own.blk b (.stringIter ⟨m.toArray⟩ (nextP m ps))).at = some c → (Own.blk b (.stringIter ⟨m.toArray⟩ ps)).at = some c ∨ w.heap.size ≤ c := fun c hc => .inl (by simpa [Own.at] using hc)
    refine H.turn i hi (H.hp.turn i hi (.blk b (.stringIter ⟨m.toArray⟩ (nextP m ps))) (Lib.iterAt_heap w b _ _ _ hb) rfl rfl rfl (by simp [World.iterAt]) (fun c _ hc => hsame c (fun e => hc (by rw [e]; rfl))) hat) (fun c _ hc => hsame c (fun e => hc (by rw [e]; rfl))) hat
  · have := Lib.run_next_end_at (P := P) w b ⟨m.toArray⟩ ps ty hb (by rw [hsz]; exact hlt)
    simp only [Sem.run_bind, this, Result.andThen_ok, Sem.run_pure]
    have hV : nextV m ps = .tuple #[.bool false] := by unfold nextV; rw [if_neg hlt]
    have hP : nextP m ps = ps := by unfold nextP; rw [if_neg hlt]
    refine hK _ _ (k _ _ ?_ (by rw [hV]; exact h.put hd _))
    subst hhl
    rw [hP]
    have : hl.set i (.blk b (.stringIter ⟨m.toArray⟩ ps)) = hl := by
      apply List.ext_getElem?
      intro j
      by_cases hj : i = j
      · subst hj
        rw [List.getElem?_set_self (List.getElem?_eq_some_iff.1 hi).1, hi]
      · rw [List.getElem?_set_ne hj]
    rw [this]
    exact H
theorem nlt {z : Bool} {p q : Nat} (e : z = decide (p < q)) (h : z = true) : p < q := by rw [e] at h; exact of_decide_eq_true h
theorem v_next0 {m : List UInt8} {ps : Nat} (hx : ev l x = some (nextV m ps)) : Val P l w ⟨d, .extract x 0, ty, pos, af, g⟩ (.bool (decide (ps < m.length))) := by
  by_cases hlt : ps < m.length
  · rw [show nextV m ps = .tuple #[.bool true, .int .i64 ps, .int .i32 (rn m ps)] by unfold nextV; rw [if_pos hlt]] at hx
    rw [decide_eq_true hlt]
    exact v_extract hx rfl
  · rw [show nextV m ps = .tuple #[.bool false] by unfold nextV; rw [if_neg hlt]] at hx
    rw [decide_eq_false hlt]
    exact v_extract hx rfl
theorem v_next1 {m : List UInt8} {ps : Nat} (hlt : ps < m.length) (hx : ev l x = some (nextV m ps)) : Val P l w ⟨d, .extract x 1, ty, pos, af, g⟩ (.int .i64 ps) := by
  rw [show nextV m ps = .tuple #[.bool true, .int .i64 ps, .int .i32 (rn m ps)] by unfold nextV; rw [if_pos hlt]] at hx
  exact v_extract hx rfl
theorem v_next2 {m : List UInt8} {ps : Nat} (hlt : ps < m.length) (hx : ev l x = some (nextV m ps)) : Val P l w ⟨d, .extract x 2, ty, pos, af, g⟩ (.int .i32 (rn m ps)) := by
  rw [show nextV m ps = .tuple #[.bool true, .int .i64 ps, .int .i32 (rn m ps)] by unfold nextV; rw [if_pos hlt]] at hx
  exact v_extract hx rfl
end
end Go.Stp
namespace Go.Stp
open Go.RowKit
/-! ### bytes of a text, turned in place -/
section
variable {P : Program} {ops : Array Oper} {Q : Exit → Act → World → Prop} {rest : List Oper} {n : Nm} {dn : Nat} {l : List (Nat × Value)} {a : Act} {w : World} {w0 : Bs} {hl : List Own} {Zi Z : FZ}
  {d : Option Nat} {x y : Operand} {t t' ty : TypeId} {pos : String} {af : Array Edge} {g : Option (Nat × Bool)} {V V' : Value} {e : TypeId} {k k' : IntKind} {p q : Int}
/-- A row of bytes with what lies behind it. -/
abbrev BRow (data : List Int) (tl : List Value) (e : TypeId) (m : Nat) : Obj := .cells (data.map (Value.int .u8) ++ tl).toArray e (m + tl.length, m + tl.length + 1)
theorem z_toBytes {m : List UInt8} (h : Fr n l a) (H : HZ w0 Zi Z hl w) (hs : P.underlying t = some .string) (hd : P.underlying t' = some (.slice e)) (he : P.underlying e = some (.int .u8)) (hx : ev l x = some (S m)) (hdn : Nat.blt dn n.n = true)
    (k : ∀ a' b cap tl w', Ext w w' → m.length ≤ cap → HZ w0 Zi Z (hl ++ [.blk b (BRow (ofB m) tl e m.length)]) w' → Fr n ((dn, .slice (some ⟨b, 0, none⟩) m.length cap) :: l) a' → wpList P ops Q rest a' w') :
    wpList P ops Q (⟨some dn, .convert t t' x, ty, pos, af, none⟩ :: rest) a w := by
  refine wpList_plain rfl fun K hK => ?_
  have e1 : execOp a.eval ⟨some dn, .convert t t' x, ty, pos, af, none⟩ = convert t t' (a.eval x) >>= fun v => pure (.value v) := rfl
  have hsz : (⟨m.toArray⟩ : ByteArray).size = m.length := rfl
  have e2 := run_bytes_of_string (P := P) w t t' e ⟨m.toArray⟩ hs hd he
  rw [hsz] at e2
  unfold Oper.wp
  rw [e1, h.ev hx]
  simp only [Sem.run_bind, e2, Result.andThen_ok, Sem.run_pure]
  generalize hcap : grownCap w m.length 0 e = cap
  have hb : bytesRow ⟨m.toArray⟩ cap = (((ofB m).map (Value.int .u8)) ++ List.replicate (cap - m.length) (Value.int .u8 0)).toArray := by
    apply Array.toList_inj.1
    simp [bytesRow, ofB, hsz]
  have hle : m.length ≤ cap := by
    rw [← hcap]
    exact grownCap_ge w m.length 0 e
  refine hK _ _ (k _ w.heap.size cap (List.replicate (cap - m.length) (Value.int .u8 0)) _ ((Ext.drew w).trans (Ext.alloc _ _)) hle ?_ (h.put hdn _))
  refine H.push ((Ext.drew w).trans (Ext.alloc _ _)) _ ?_ (fun b hb => by simp only [Own.at, Option.some.injEq] at hb; omega)
  unfold Own.holds
  rw [hb]
  have hlen : (((ofB m).map (Value.int .u8)) ++ List.replicate (cap - m.length) (Value.int .u8 0)).toArray.size = m.length + (List.replicate (cap - m.length) (Value.int .u8 0)).length := by simp [ofB]
  rw [hlen]
  exact heap_alloc_new w.drew _
theorem map_get {data : List Int} {tl : List Value} (hp : 0 ≤ p ∧ p < (data.length : Int)) : (data.map (Value.int .u8) ++ tl)[p.toNat]? = some (.int .u8 (gel data p)) := by
  rw [List.getElem?_append_left (by simp; omega), List.getElem?_map, gel_some hp]
  rfl
theorem v_idxB {b m cap sz : Nat} {data : List Int} (ht : P.underlying t = some (.slice e)) (hs : ∀ w, (sizeOf e).run P w = .ok 1 w) (hx : ev l x = some (.slice (some ⟨b, 0, none⟩) m cap)) (hy : ev l y = some (.int k p)) (hl : data.length = m) (hp : 0 ≤ p ∧ p < (data.length : Int)) :
    Val P l w ⟨d, .indexAddr t x y, ty, pos, af, g⟩ (.pointer (some ⟨b, p.toNat, none⟩)) := by
  have := v_idxAddr (P := P) (l := l) (w := w) (dd := d) (ty := ty) (pos := pos) (af := af) (g := g) ht hs hx hy (by omega)
  rw [Nat.zero_add, Nat.mul_one] at this
  exact this
theorem v_loadB {b m : Nat} {data : List Int} {tl : List Value} (hx : ev l x = some (.pointer (some ⟨b, p.toNat, none⟩))) (ha : ∀ w, (isAgg t).run P w = .ok false w) (hb : w.heap[b]? = some (BRow data tl e m)) (hp : 0 ≤ p ∧ p < (data.length : Int)) : Val P l w ⟨d, .load t x, ty, pos, af, g⟩ (.int .u8 (gel data p)) :=
  v_load1 hx ha hb (map_get hp)
theorem Reads.of_B {b m cap : Nat} {data : List Int} {tl : List Value} (hb : w.heap[b]? = some (BRow data tl e m)) (hl : data.length = m) : Reads w (.slice (some ⟨b, 0, none⟩) m cap) 1 (eI .u8) data := by
  subst hl
  refine .inr ⟨b, 0, cap, _, e, _, rfl, hb, fun j u hu => ?_⟩
  rw [flatMap_eI] at hu
  rw [Nat.zero_add, List.getElem?_append_left (List.getElem?_eq_some_iff.1 hu).1]
  exact hu
/-- A store of one cell into a block whose marks lie behind it. -/
theorem store_world1 {b off : Nat} {cs : List Value} {fz : Nat × Nat} {u : Value} (hb : w.heap[b]? = some (.cells cs.toArray e fz)) (hlt : off < cs.length) (hfz : off < fz.1) (h1 : u.oneCell' = true) :
    ∃ w', (storeCells ⟨b, off, none⟩ [u] 0).run P w = .ok () w' ∧ w'.heap[b]? = some (.cells (cs.set off u).toArray e fz) ∧ w'.os = w.os ∧ w'.tape = w.tape ∧ w'.output = w.output ∧ w'.heap.size = w.heap.size ∧ ∀ b', b' ≠ b → w'.heap[b']? = w.heap[b']? := by
  have hc : w.cell? ⟨b, off + 0, none⟩ = cs[off + 0]? := Cel_cell hb
  have hfr : w.frozen? ⟨b, off + 0, none⟩ = false := by
    simp only [World.frozen?, hb]
    simp
    omega
  refine ⟨w.setCell ⟨b, off, none⟩ u, ?_, ?_, rfl, rfl, rfl, by simp [World.setCell], fun b' hb' => ?_⟩
  · rw [Nat.add_zero] at hc hfr
    simp only [storeCells, Sem.run_bind, Addr.add_lit, Nat.add_zero, run_store P w ⟨b, off, none⟩ u .plain h1, hc, hfr, List.getElem?_eq_getElem hlt, Bool.false_eq_true, if_false, Result.andThen_ok]
    simp
  · simp [World.setCell, Array.getElem?_modify, hb]
  · simp only [World.setCell, Array.getElem?_modify]
    rw [if_neg (fun e => hb' e.symm)]
theorem z_storeB {b m i : Nat} {data : List Int} {tl : List Value} {z : Int} (h : Fr n l a) (H : HZ w0 Zi Z hl w) (i : Nat) (hx : ev l x = some (.pointer (some ⟨b, p.toNat, none⟩))) (hy : ev l y = some (.int .u8 z)) (hi : hl[i]? = some (.blk b (BRow data tl e m))) (hs : ∀ w, (sizeOf t).run P w = .ok 1 w) (hl1 : data.length = m) (hp : 0 ≤ p ∧ p < (data.length : Int))
    {hl' : List Own} (hhl : hl.set i (.blk b (BRow (data.set p.toNat z) tl e m)) = hl') (kk : ∀ w', HZ w0 Zi Z hl' w' → wpList P ops Q rest a w') :
    wpList P ops Q (⟨none, .store t x y, ty, pos, af, none⟩ :: rest) a w := by
  refine wpList_plain rfl fun K hK => ?_
  have hb := H.hp.get i hi
  obtain ⟨w', hr, hh, r1, r2, r3, r4, r5⟩ := store_world1 (P := P) (u := .int .u8 z) (off := p.toNat) hb (by simp; omega) (by simp; omega) rfl
  have e1 : execOp a.eval ⟨none, .store t x y, ty, pos, af, none⟩ = Instr.storeAt t (a.eval x) (a.eval y) >>= fun _ => pure .skip := rfl
  have e2 : (execOp a.eval ⟨none, .store t x y, ty, pos, af, none⟩).run P w = .ok .skip w' := by
    rw [e1, h.ev hx, h.ev hy]
    simp only [Instr.storeAt, Instr.sureAddr, Sem.run_bind, Sem.run_pure, Result.andThen_ok, storeVar, hs, Value.cells]
    simp [hr]
  unfold Oper.wp
  rw [e2]
  subst hhl
  have hcs : (data.map (Value.int .u8) ++ tl).set p.toNat (.int .u8 z) = (data.set p.toNat z).map (Value.int .u8) ++ tl := by
    rw [List.set_append_left _ _ (by simp; omega), List.map_set]
  rw [hcs] at hh
  have hat : ∀ c, (Own.blk b (BRow (data.set p.toNat z) tl e m)).at = some c → (Own.blk b (BRow data tl e m)).at = some c ∨ w.heap.size ≤ c := fun c hc => .inl (by simpa [Own.at] using hc)
  refine hK _ _ (kk w' (H.turn i hi (H.hp.turn i hi (.blk b (BRow (data.set p.toNat z) tl e m)) hh r1 r2 r3 (by omega) (fun c _ hc => r5 c (fun e => hc (by rw [e]; rfl))) hat) (fun c _ hc => r5 c (fun e => hc (by rw [e]; rfl))) hat))
/-- A row whose elements have been set anew, in its place. -/
theorem HZ.setRow {i b cap : Nat} {k : IntKind} {out out' : List Int} {cs cs' : List Value} {w' : World} (H : HZ w0 Zi Z hl w) (hi : hl[i]? = some (.row e 1 (.slice (some ⟨b, 0, none⟩) out.length cap) out.length (out.flatMap (eI k)))) (hb : w.heap[b]? = some (.cells cs.toArray e (0, 0)))
    (hb' : w'.heap[b]? = some (.cells cs'.toArray e (0, 0))) (hlen : out'.length = out.length) (hc1 : cs'.length = cs.length) (hc2 : cs'.take out.length = out'.map (Value.int k)) (r1 : w'.os = w.os) (r2 : w'.tape = w.tape) (r3 : w'.output = w.output) (r4 : w'.heap.size = w.heap.size) (r5 : ∀ c, c ≠ b → w'.heap[c]? = w.heap[c]?) :
    HZ w0 Zi Z (hl.set i (.row e 1 (.slice (some ⟨b, 0, none⟩) out.length cap) out'.length (out'.flatMap (eI k)))) w' := by
  have hat : ∀ c, (Own.row e 1 (.slice (some ⟨b, 0, none⟩) out.length cap) out'.length (out'.flatMap (eI k))).at = some c → (Own.row e 1 (.slice (some ⟨b, 0, none⟩) out.length cap) out.length (out.flatMap (eI k))).at = some c ∨ w.heap.size ≤ c := fun c hc => .inl (by simpa [Own.at] using hc)
  have hown : Own.holds (Own.row e 1 (.slice (some ⟨b, 0, none⟩) out.length cap) out'.length (out'.flatMap (eI k))) w' := by
    have ho := H.hp.getRow i hi
    refine ⟨by rw [flatMap_eI]; simp, ?_⟩
    rcases ho.2 with ⟨hv, _⟩ | ⟨g, cap', cur, hv, hB, hg, hnc, hmx, hsz, ht⟩
    · cases hv
    · simp only [Value.slice.injEq, Option.some.injEq, Addr.mk.injEq] at hv
      obtain ⟨⟨rfl, _⟩, _, rfl⟩ := hv
      rw [hb] at hg
      simp only [Option.some.injEq, Obj.cells.injEq] at hg
      obtain ⟨rfl, _⟩ := hg
      refine .inr ⟨b, cap, cs'.toArray, by rw [hlen], hB, hb', by omega, hmx, by simpa [hc1] using hsz, ?_⟩
      rw [flatMap_eI, hlen, Nat.mul_one]
      simpa using hc2
  exact H.turn i hi (H.hp.turn i hi _ hown r1 r2 r3 (by omega) (fun c _ hc => r5 c (fun e => hc (by rw [e]; rfl))) hat) (fun c _ hc => r5 c (fun e => hc (by rw [e]; rfl))) hat
/-- What an own row of numbers is, where it holds any. -/
theorem HZ.openRow {i : Nat} {k : IntKind} {out : List Int} {sv : Value} (H : HZ w0 Zi Z hl w) (hi : hl[i]? = some (.row e 1 sv out.length (out.flatMap (eI k)))) (hne : 0 < out.length) :
    ∃ b cap cs, sv = .slice (some ⟨b, 0, none⟩) out.length cap ∧ w.heap[b]? = some (.cells (List.toArray cs) e (0, 0)) ∧ out.length ≤ cs.length ∧ cs.take out.length = out.map (Value.int k) := by
  have ho := H.hp.getRow i hi
  rcases ho.2 with ⟨_, hn⟩ | ⟨g, cap', cur, hv, hB, hg, hnc, hmx, hsz, ht⟩
  · omega
  · refine ⟨g, cap', cur.toList, hv, by simpa using hg, by simp; omega, ?_⟩
    rw [flatMap_eI, Nat.mul_one] at ht
    exact ht
theorem row_at {k : IntKind} {out : List Int} {cs : List Value} (hc : cs.take out.length = out.map (Value.int k)) (hp : 0 ≤ p ∧ p < (out.length : Int)) : cs[p.toNat]? = some (.int k (gel out p)) := by
  have h1 : (cs.take out.length)[p.toNat]? = cs[p.toNat]? := by rw [List.getElem?_take, if_pos (by omega)]
  rw [← h1, hc, List.getElem?_map, gel_some hp]
  rfl
theorem c_lany {id : Nat} {ol : List Oper} (hm : P.follows .mixedOrders = true) (h : anyR P ol.toArray (fun a w => Q .normal a w) ol.toArray.size (Array.replicate ol.toArray.size false) a { w with drawn := w.drawn + 1 }) : (Code.region id ol.toArray true).wp P Q a w :=
  wp_region_any hm (wpAny_of_anyR _ _ _ _ h)
end
end Go.Stp
