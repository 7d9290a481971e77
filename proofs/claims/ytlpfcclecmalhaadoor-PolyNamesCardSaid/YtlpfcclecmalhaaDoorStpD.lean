/- The step library, fourth part: slices: rows that the call owns; reading them; append. -/
import Derived.Test.YtlpfcclecmalhaaDoorStpC
import Derived.Maps.AppendAt
set_option linter.unusedSimpArgs false
set_option linter.unusedVariables false
set_option linter.unusedSectionVars false
namespace Go.Stp
open Go.RowKit

theorem ownsRow_mono {w : World} {base base' : Nat} {e : TypeId} {size : Nat} {v : Value} {n : Nat} {xs : List Value} (h : w.ownsRow base e size v n xs) (hb : base' ≤ base) : w.ownsRow base' e size v n xs := by
  obtain ⟨h1, h2⟩ := h
  refine ⟨h1, ?_⟩
  rcases h2 with h2 | ⟨g, cap, cur, a1, a2, a3⟩
  · exact .inl h2
  · exact .inr ⟨g, cap, cur, a1, Nat.le_trans hb a2, a3⟩
theorem Hp.pushRow {w0 : Bs} {w w' : World} {hl : List Own} (H : Hp w0 hl w) (h : Ext w w') {e : TypeId} {sz n : Nat} {v : Value} {xs : List Value} (ho : w'.ownsRow w.heap.size e sz v n xs) : Hp w0 (hl ++ [.row e sz v n xs]) w' := by
  exact H.push h (.row e sz v n xs) (ownsRow_mono ho (Nat.zero_le _)) (fun b hb => (World.ownsRow.lt ho b hb).1)
/-- A nil slice is a row, too. -/
theorem Hp.pushNil {w0 : Bs} {w : World} {hl : List Own} (H : Hp w0 hl w) (e : TypeId) (sz : Nat) : Hp w0 (hl ++ [.row e sz (.slice none 0 0) 0 []]) w :=
  H.pushRow (Ext.refl w) (World.ownsRow_nil w _ e sz)

/-- The first n of them. -/
theorem Hp.keepN {w0 : Bs} {w : World} {hl : List Own} (H : Hp w0 hl w) (n : Nat) {hl' : List Own} (h : hl.take n = hl') : Hp w0 hl' w := by
  subst h
  have key : ∀ (i : Nat) (o : Own), (hl.take n)[i]? = some o → hl[i]? = some o := by
    intro i o e
    rw [List.getElem?_take] at e
    split at e
    · exact e
    · cases e
  exact ⟨H.below, fun i o e => H.own i o (key i o e), fun i o e => H.lo i o (key i o e), fun i j o o' h1 h2 => H.apart i j o o' (key i o h1) (key j o' h2)⟩
theorem getD_some {α : Type} (l : List α) (n : Nat) (d : α) (h : n < l.length) : l[n]? = some (l.getD n d) := by
  rw [List.getElem?_eq_getElem h]
  simp [List.getD, List.getElem?_eq_getElem h]

theorem flatMap_get {α : Type} (enc : α → List Value) (sz : Nat) (henc : ∀ a, (enc a).length = sz) : ∀ (data : List α) (p j : Nat) (d : α), data[p]? = some d → j < sz → (data.flatMap enc)[p * sz + j]? = (enc d)[j]?
  | [], p, j, d, h, _ => by simp at h
  | a :: r, 0, j, d, h, hj => by
    simp only [List.getElem?_cons_zero, Option.some.injEq] at h
    subst h
    simp only [List.flatMap_cons, Nat.zero_mul, Nat.zero_add]
    rw [List.getElem?_append_left (by rw [henc]; exact hj)]
  | a :: r, p + 1, j, d, h, hj => by
    simp only [List.getElem?_cons_succ] at h
    simp only [List.flatMap_cons]
    rw [List.getElem?_append_right (by rw [henc, Nat.add_mul]; omega)]
    rw [← flatMap_get enc sz henc r p j d h hj]
    congr 1
    rw [henc, Nat.add_mul]
    omega

theorem flatMap_len {α : Type} (enc : α → List Value) (sz : Nat) (henc : ∀ a, (enc a).length = sz) (data : List α) : (data.flatMap enc).length = data.length * sz := by
  induction data with
  | nil => simp
  | cons a r ih => simp [List.flatMap_cons, henc, ih, Nat.add_mul]; omega

/-- A slice reads as data, element by element: each sz cells. -/
def Reads {α : Type} (w : World) (v : Value) (sz : Nat) (enc : α → List Value) (data : List α) : Prop :=
  (v = .slice none 0 0 ∧ data = []) ∨ ∃ (g o cap : Nat) (cs : List Value) (e : TypeId) (fz : Nat × Nat), v = .slice (some ⟨g, o, none⟩) data.length cap ∧ w.heap[g]? = some (.cells cs.toArray e fz) ∧ ∀ j u, (data.flatMap enc)[j]? = some u → cs[o + j]? = some u

theorem Reads.of_row {α : Type} {w : World} {B : Nat} {e : TypeId} {sz n : Nat} {v : Value} {enc : α → List Value} {data : List α} (h : w.ownsRow B e sz v n (data.flatMap enc)) (hn : n = data.length) : Reads w v sz enc data := by
  subst hn
  rcases h.2 with ⟨hv, h0⟩ | ⟨g, cap, cur, hv, _, hg, _, _, _, ht⟩
  · exact .inl ⟨hv, List.eq_nil_of_length_eq_zero h0⟩
  · refine .inr ⟨g, 0, cap, cur.toList, e, (0, 0), hv, by simpa using hg, fun j u hu => ?_⟩
    rw [← ht, List.getElem?_take] at hu
    rw [Nat.zero_add]
    split at hu
    · exact hu
    · cases hu
theorem Reads.ext {α : Type} {w w' : World} {v : Value} {sz : Nat} {enc : α → List Value} {data : List α} (h : Reads w v sz enc data) (X : Ext w w') : Reads w' v sz enc data := by
  rcases h with h | ⟨g, o, cap, cs, e, fz, hv, hg, hc⟩
  · exact .inl h
  · exact .inr ⟨g, o, cap, cs, e, fz, hv, X.block hg, hc⟩
/-- A block laid later is another one. -/
theorem Reads.apart {α : Type} {w : World} {v : Value} {sz : Nat} {enc : α → List Value} {data : List α} (h : Reads w v sz enc data) {p : Nat} (hp : w.heap.size ≤ p) : ∀ b, v.ownBlock = some b → b ≠ p := by
  intro b hb e
  rcases h with ⟨hv, _⟩ | ⟨g, o, cap, cs, e', fz, hv, hg, hc⟩
  · subst hv
    cases hb
  · subst hv
    have : g = b := by simpa [Value.ownBlock] using hb
    have hlt := (Array.getElem?_eq_some_iff.1 hg).1
    omega
theorem Reads.keep {α : Type} {w w' : World} {v : Value} {sz : Nat} {enc : α → List Value} {data : List α} (h : Reads w v sz enc data) (hs : ∀ b, v.ownBlock = some b → w'.heap[b]? = w.heap[b]?) : Reads w' v sz enc data := by
  rcases h with h | ⟨g, o, cap, cs, e, fz, hv, hg, hc⟩
  · exact .inl h
  · exact .inr ⟨g, o, cap, cs, e, fz, hv, by rw [hs g (by rw [hv]; rfl)]; exact hg, hc⟩

section
variable {P : Program} {ops : Array Oper} {Q : Exit → Act → World → Prop} {rest : List Oper} {n : Nm} {dn : Nat} {l : List (Nat × Value)} {a : Act} {w : World} {w0 : Bs} {hl : List Own}
  {d : Option Nat} {x y c u v : Operand} {t t' ty : TypeId} {pos : String} {af : Array Edge} {g : Option (Nat × Bool)} {V V' : Value} {cs : List Value} {e : TypeId} {b off : Nat} {fz : Nat × Nat} {k : IntKind} {p : Int}

theorem Reads.len {α : Type} {enc : α → List Value} {sz : Nat} {data : List α} (h : Reads w V sz enc data) : ∃ ao cap, V = .slice ao data.length cap := by
  rcases h with ⟨hv, hd⟩ | ⟨g, o, cap, cs, e, fz, hv, _⟩
  · subst hd
    exact ⟨none, 0, hv⟩
  · exact ⟨_, cap, hv⟩

theorem v_lenS {ao : Option Addr} {m cap : Nat} (ht : P.underlying t = some (.slice e)) (hx : ev l x = some (.slice ao m cap)) : Val P l w ⟨d, .call { callee := .builtin .len, args := #[x], argTypes := #[t] }, ty, pos, af, g⟩ (.int .i64 m) := fun n a h => by
  have e1 : execOp a.eval ⟨d, .call { callee := .builtin .len, args := #[x], argTypes := #[t] }, ty, pos, af, g⟩ = Builtin.len_ #[t] ty (#[x].map a.eval) >>= fun v => pure (.value v) := rfl
  rw [e1]
  simp [h.ev hx, Builtin.len_, run_underlying ht, goInt]
/-- len of a slice that reads as data. -/
theorem v_len {α : Type} {enc : α → List Value} {sz : Nat} {data : List α} (ht : P.underlying t = some (.slice e)) (hx : ev l x = some V) (hr : Reads w V sz enc data) :
    Val P l w ⟨d, .call { callee := .builtin .len, args := #[x], argTypes := #[t] }, ty, pos, af, g⟩ (.int .i64 data.length) := by
  obtain ⟨ao, cap, rfl⟩ := hr.len
  exact v_lenS ht hx

/-- The place of an element: said only by what it is good for. -/
def At {α : Type} (w : World) (V : Value) (enc : α → List Value) (da : α) (j : Nat) : Prop :=
  ∃ (g o : Nat) (cs : List Value) (e : TypeId) (fz : Nat × Nat), V = .pointer (some ⟨g, o, none⟩) ∧ w.heap[g]? = some (.cells cs.toArray e fz) ∧ ∀ i u, (enc da)[j + i]? = some u → cs[o + i]? = some u

theorem st_idx {α : Type} {enc : α → List Value} {sz : Nat} {data : List α} (h : Fr n l a) (ht : P.underlying t = some (.slice e)) (hs : ∀ w, (sizeOf e).run P w = .ok sz w) (hx : ev l x = some V) (hy : ev l y = some (.int k p))
    (hr : Reads w V sz enc data) (henc : ∀ a, (enc a).length = sz) (da : α) (hp : 0 ≤ p) (hda : data[p.toNat]? = some da) (hd : Nat.blt dn n.n = true)
    (kk : ∀ a' V', At w V' enc da 0 → Fr n ((dn, V') :: l) a' → wpList P ops Q rest a' w) :
    wpList P ops Q (⟨some dn, .indexAddr t x y, ty, pos, af, none⟩ :: rest) a w := by
  have hlt : p.toNat < data.length := (List.getElem?_eq_some_iff.1 hda).1
  rcases hr with ⟨hv, hd0⟩ | ⟨g, o, cap, cs, e', fz, hv, hg, hc⟩
  · subst hd0; simp at hlt
  subst hv
  refine st1 h rfl rfl hd (V := .pointer (some ⟨g, o + p.toNat * sz, none⟩)) (fun n a h => ?_) (fun a' h' => kk a' _ ⟨g, _, cs, e', fz, rfl, hg, fun i u hu => ?_⟩ h')
  · have e1 : execOp a.eval ⟨some dn, .indexAddr t x y, ty, pos, af, none⟩ = Instr.indexAt t (a.eval x) (a.eval y) >>= fun v => pure (.value v) := rfl
    rw [e1, h.ev hx, h.ev hy]
    have h2 : p < (data.length : Int) := by omega
    simp [Instr.indexAt, asIntOf, run_underlying ht, hp, h2, hs, Addr.add_lit]
  · rw [Nat.zero_add] at hu
    rw [Nat.add_assoc]
    refine hc _ u ?_
    have hi : i < sz := by
      have := (List.getElem?_eq_some_iff.1 hu).1
      rwa [henc] at this
    rw [flatMap_get enc sz henc data p.toNat i da hda hi]
    exact hu

theorem At.ext {α : Type} {w w' : World} {enc : α → List Value} {da : α} {j : Nat} (h : At w V enc da j) (X : Ext w w') : At w' V enc da j := by
  obtain ⟨g, o, cs, e, fz, h1, h2, h3⟩ := h
  exact ⟨g, o, cs, e, fz, h1, X.block h2, h3⟩

theorem st_fieldAt {α : Type} {enc : α → List Value} {da : α} {j : Nat} {fs : Array Field} {f : Field} {i kz j' : Nat} (h : Fr n l a) (hx : ev l x = some V) (hA : At w V enc da j) (hu : P.underlying t = some (.struct fs)) (hf : fs.toList[i]? = some f)
    (hs : ∀ w, (sizeOf f.type).run P w = .ok kz w) (hk : Nat.ble 1 kz = true) (hj : j + f.offset = j') (hd : Nat.blt dn n.n = true)
    (kk : ∀ a' V', At w V' enc da j' → Fr n ((dn, V') :: l) a' → wpList P ops Q rest a' w) :
    wpList P ops Q (⟨some dn, .fieldAddr t x i, ty, pos, af, none⟩ :: rest) a w := by
  obtain ⟨g, o, cs, e', fz, rfl, h2, h3⟩ := hA
  exact st1 h rfl rfl hd (v_fieldAddr hx hu hf hs hk rfl) (fun a' h' => kk a' _ ⟨g, _, cs, e', fz, rfl, h2, fun m u hu => by
    rw [Nat.add_assoc]
    refine h3 _ u ?_
    rw [← hj] at hu
    rw [← hu]
    congr 1
    omega⟩ h')

/-- A cell of an element. -/
theorem v_loadAt1 {α : Type} {enc : α → List Value} {da : α} {j : Nat} (hx : ev l x = some V') (hA : At w V' enc da j) (ha : ∀ w, (isAgg t).run P w = .ok false w) (hc : (enc da)[j]? = some V) : Val P l w ⟨d, .load t x, ty, pos, af, g⟩ V := by
  obtain ⟨g, o, cs, e', fz, rfl, h2, h3⟩ := hA
  exact v_load1 hx ha h2 (by simpa using h3 0 V (by simpa using hc))
theorem v_loadAtA {α : Type} {enc : α → List Value} {da : α} {j kz : Nat} (vs : List Value) (hx : ev l x = some V') (hA : At w V' enc da j) (ha : ∀ w, (isAgg t).run P w = .ok true w) (hs : ∀ w, (sizeOf t).run P w = .ok kz w)
    (hv : ((enc da).drop j).take kz = vs) (hk : vs.length = kz) : Val P l w ⟨d, .load t x, ty, pos, af, g⟩ (.agg vs.toArray) := by
  obtain ⟨g, o, cs, e', fz, rfl, h2, h3⟩ := hA
  refine v_loadA vs hx ha hs h2 ?_ hk
  apply List.ext_getElem?
  intro i
  by_cases hi : i < kz
  · have hvi : i < vs.length := by omega
    obtain ⟨u, h5⟩ : ∃ u, vs[i]? = some u := ⟨_, List.getElem?_eq_getElem hvi⟩
    have h6 : (enc da)[j + i]? = some u := by
      have h7 := h5
      rw [← hv, List.getElem?_take, if_pos hi, List.getElem?_drop] at h7
      exact h7
    rw [List.getElem?_take, if_pos hi, List.getElem?_drop, h3 i _ h6, h5]
  · rw [List.getElem?_take, if_neg hi, List.getElem?_eq_none (by omega)]

theorem fill_one {z vs : List Value} {sz : Nat} (hz : z.length = sz) (hv : vs.length = sz) (V : Value) (hV : V.cells.toList = vs) : Instr.fill (fun i => some (i * sz, sz)) z.toArray [(0, V)] = some vs.toArray := by
  have hVs : V.cells = vs.toArray := by rw [← hV]
  simp only [Instr.fill, hVs]
  have h1 : ¬ ((vs.toArray.size ≠ sz || 0 * sz + vs.toArray.size > z.toArray.size) = true) := by simp [hv, hz]
  simp only [h1, if_false, Bool.false_eq_true]
  congr 1
  have key : ∀ (us : List Value) (m : Nat) (cur : List Value), m + us.length = cur.length → (us.zipIdx m).foldl (fun (cs : Array Value) (q : Value × Nat) => cs.setIfInBounds (0 * sz + q.2) q.1) cur.toArray = (cur.take m ++ us).toArray := by
    intro us
    induction us with
    | nil => intro m cur h; simp at h; simp [h]
    | cons u us ih =>
      intro m cur h
      simp only [List.length_cons] at h
      simp only [List.zipIdx_cons, List.foldl_cons, Nat.zero_mul, Nat.zero_add]
      have e1 : cur.toArray.setIfInBounds m u = (cur.set m u).toArray := by simp
      rw [e1]
      have := ih (m + 1) (cur.set m u) (by simp; omega)
      simp only [Nat.zero_mul, Nat.zero_add] at this
      rw [this, List.take_add_one, List.take_set_of_le (Nat.le_refl _), List.getElem?_set_self (by omega)]
      simp
  have := key vs 0 z (by omega)
  simp only [List.take_zero, List.nil_append] at this
  have e9 : ∀ (us : List Value) (f : Array Value → Value × Nat → Array Value) (s : Array Value), us.toArray.zipIdx.foldl f s = us.zipIdx.foldl f s := by
    intro us f s
    simp [← Array.foldl_toList]
  rw [e9]
  exact this

/-- '[]T{x}': a slice of one element, in a new row. -/
theorem st_slice1 {sz : Nat} (h : Fr n l a) (H : Hp w0 hl w) (ht : P.underlying t = some (.slice e)) (hs : ∀ w, (sizeOf e).run P w = .ok sz w) {z : Value} (hz : ∀ w, (zeroValue e).run P w = .ok z w) (hzs : z.cells.size = sz) (hsz : (Nat.ble 1 sz && Nat.ble sz 1000) = true)
    (hx : ev l x = some V) (vs : List Value) (hvs : V.cells.toList = vs) (hk : vs.length = sz) (hd : Nat.blt dn n.n = true)
    (kk : ∀ a' b w', w.heap.size ≤ b → Ext w w' → Hp w0 (hl ++ [.blk b (Cel vs e)]) w' → Fr n ((dn, .slice (some ⟨b, 0, none⟩) 1 1) :: l) a' → wpList P ops Q rest a' w') :
    wpList P ops Q (⟨some dn, .buildSlice t 1 #[(0, x)], ty, pos, af, none⟩ :: rest) a w := by
  simp only [Bool.and_eq_true, Nat.ble_eq] at hsz
  refine wpList_plain rfl fun K hK => ?_
  have e1 : execOp a.eval ⟨some dn, .buildSlice t 1 #[(0, x)], ty, pos, af, none⟩ = Instr.buildSlice t 1 (#[(0, x)].map fun (i, x) => (i, a.eval x)) >>= fun v => pure (.value v) := rfl
  have e4 : (Array.range (1 * sz)).map (fun i => z.cells[i % z.cells.size]!) = z.cells := by
    apply Array.ext
    · simp [hzs]
    · intro i h1 h2
      simp at h1
      simp [hzs, Nat.mod_eq_of_lt h1]
      exact getElem!_pos z.cells i h2
  have e5 := fill_one (z := z.cells.toList) (sz := sz) (by simpa using hzs) hk V hvs
  have e2 : (execOp a.eval ⟨some dn, .buildSlice t 1 #[(0, x)], ty, pos, af, none⟩).run P w = .ok (.value (.slice (some ⟨w.heap.size, 0, none⟩) 1 1)) (w.alloc (Cel vs e)) := by
    rw [e1]
    have h1 : ¬ (1 * sz > 2 ^ 24) := by omega
    have h2 : ¬ (1 * sz = 0) := by omega
    simp only [Instr.buildSlice, Sem.run_bind, run_underlying ht, Result.andThen_ok, hs, h1, if_false, h2, hz, Sem.run_pure, Sem.run_ite, List.map_toArray, List.map_cons, List.map_nil, h.ev hx, e4]
    simp at e5
    simp [e5, newRow]
  unfold Oper.wp
  rw [e2]
  refine hK _ _ (kk _ w.heap.size _ (Nat.le_refl _) (Ext.alloc _ _) (H.push (Ext.alloc _ _) _ ?_ (fun b hb => by simp only [Own.at, Option.some.injEq] at hb; omega)) (h.put hd _))
  exact heap_alloc_new w _

/-- append of what lies in a row of its own. -/
theorem st_append {sz bytes m : Nat} {xs news : List Value} {sv : Value} {q : Nat} {c : Nat} (h : Fr n l a) (H : Hp w0 hl w) (i : Nat) (hi : hl[i]? = some (.row e sz sv q xs)) (ht : P.underlying t = some (.slice e))
    (hinfo : (P.info? e).map (fun i => (i.zero.map (·.cells.size), i.size, i.bytes)) = some (some sz, sz, bytes)) (hsz : Nat.ble 1 sz = true) (hx : ev l x = some sv) (hy : ev l y = some (.slice (some ⟨b, off, none⟩) m c)) (hb : w.heap[b]? = some (.cells cs.toArray e fz))
    (hn : (cs.drop off).take (m * sz) = news) (hl2 : news.length = m * sz) (h1 : ∀ u ∈ news, u.oneCell' = true) (hmax : q + m ≤ 9223372036854775807) (hbytes : (q + m) * bytes ≤ 140737488355328) (hd : Nat.blt dn n.n = true)
    (kk : ∀ a' v' w', Hp w0 (hl.set i (.row e sz v' (q + m) (xs ++ news))) w' → (∀ b', sv.ownBlock ≠ some b' → b' < w.heap.size → w'.heap[b']? = w.heap[b']?) → Fr n ((dn, v') :: l) a' → wpList P ops Q rest a' w') :
    wpList P ops Q (⟨some dn, .call { callee := .builtin .append, args := #[x, y], argTypes := #[t, t] }, ty, pos, af, none⟩ :: rest) a w := by
  refine wpList_plain rfl fun K hK => ?_
  obtain ⟨inf, hi1, hi2⟩ := Option.map_eq_some_iff.1 hinfo
  simp only [Prod.mk.injEq] at hi2
  obtain ⟨hz, hs2, hby⟩ := hi2
  obtain ⟨z, hz1, hz2⟩ := Option.map_eq_some_iff.1 hz
  have hszz : 1 ≤ sz := by simpa [Nat.ble_eq] using hsz
  have hrow := H.getRow i hi
  obtain ⟨v', w', hrun, hown, hgrow, _, hloc⟩ := run_append_own_at (P := P) w 0 t ty e inf z sz bytes ht hi1 hz1 hs2 hby hz2 hszz sv q xs hrow ⟨b, off, none⟩ m c news hl2
    (fun j u hu => by rw [Addr.add_lit, Cel_cell hb]; exact take_drop_get hn j u hu) h1 (by simpa [maxLen] using hmax) hbytes (Nat.zero_le _)
  have e1 : execOp a.eval ⟨some dn, .call { callee := .builtin .append, args := #[x, y], argTypes := #[t, t] }, ty, pos, af, none⟩ = Builtin.append_ #[t, t] ty (#[x, y].map a.eval) >>= fun v => pure (.value v) := rfl
  have e2 : (execOp a.eval ⟨some dn, .call { callee := .builtin .append, args := #[x, y], argTypes := #[t, t] }, ty, pos, af, none⟩).run P w = .ok (.value v') w' := by
    rw [e1]
    simp [h.ev hx, h.ev hy, hrun]
  unfold Oper.wp
  rw [e2]
  have hsame : ∀ b', b' < w.heap.size → sv.ownBlock ≠ some b' → w'.heap[b']? = w.heap[b']? := fun b' hb' hne => hgrow.block b' hb' (fun e => hne e.symm)
  refine hK _ _ (kk _ v' w' (H.turn i hi (.row e sz v' (q + m) (xs ++ news)) hown hgrow.os hgrow.tape hgrow.output hgrow.size (fun b' hb' hne => hsame b' hb' hne) (fun b' hb' => ?_)) (fun b' hne hb' => hsame b' hb' hne) (h.put hd _))
  simp only [Own.at] at hb' ⊢
  rcases hloc with e | e
  · exact .inl (by rw [← e]; exact hb')
  · rw [e] at hb'
    exact .inr (by simp only [Option.some.injEq] at hb'; omega)
end
end Go.Stp
