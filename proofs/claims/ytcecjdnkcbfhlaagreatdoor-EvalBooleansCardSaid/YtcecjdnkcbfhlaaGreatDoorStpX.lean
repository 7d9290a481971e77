/- The step library, twentieth part: a range over a map; a row of the call's own that is sorted. -/
import Derived.Test.YtcecjdnkcbfhlaaGreatDoorStpW
import Derived.Maps.RangeRun
import Derived.Sort.OwnSorted
import Derived.Shelf.SlSortCmp.NoneTotal
set_option linter.unusedSimpArgs false
set_option linter.unusedVariables false
set_option linter.unusedSectionVars false
namespace Go.Stp
open Go.RowKit
section
variable {κ ν : Type} [DecidableEq κ] [Inhabited κ]
/-- The key that stands there. -/
def kOf (m : List (κ × ν)) (q : Nat) : κ := match m[q]? with
  | some p => p.1
  | none => default
theorem kOf_some {m : List (κ × ν)} {q : Nat} {p : κ × ν} (h : m[q]? = some p) : kOf m q = p.1 := by simp [kOf, h]
theorem keys_perm {m : List (κ × ν)} {is : List Nat} (hn : is.Nodup) (hi : ∀ i ∈ is, i < m.length) (hall : ∀ q, q < m.length → q ∈ is) : (is.map (kOf m)).Perm (m.map (·.1)) := by
  have h1 : is.Perm (List.range m.length) := (List.perm_ext_iff_of_nodup hn List.nodup_range).2 fun q => ⟨fun h => List.mem_range.2 (hi q h), fun h => hall q (List.mem_range.1 h)⟩
  have h2 := h1.map (kOf m)
  have h3 : (List.range m.length).map (kOf m) = m.map (·.1) := by
    apply List.ext_getElem?
    intro q
    simp only [List.getElem?_map]
    rcases Nat.lt_or_ge q m.length with h | h
    · rw [List.getElem?_range h, List.getElem?_eq_getElem h]
      simp [kOf, h]
    · rw [List.getElem?_eq_none (by simpa using h), List.getElem?_eq_none h]
      rfl
  rwa [h3] at h2
variable (ek : κ → Value) (ev : ν → Value) (m : List (κ × ν))
/-- How many are still to come. -/
def lcnt (is : List Nat) : Nat := (leftOf (mentL ek ev m 0).toArray is.toArray).size
variable {ek ev m}
theorem mentL_born : ∀ x ∈ (mentL ek ev m 0), ∃ q p, m[q]? = some p ∧ x = ⟨ek p.1, ev p.2, q⟩ := by
  intro x hx
  obtain ⟨q, hq⟩ := List.getElem?_of_mem hx
  rw [mentL_get] at hq
  cases hp : m[q]? with
  | none => rw [hp] at hq; cases hq
  | some p =>
    rw [hp] at hq
    simp only [Option.map_some, Option.some.injEq, Nat.zero_add] at hq
    exact ⟨q, p, hp, hq.symm⟩
theorem mentL_mem {q : Nat} {p : κ × ν} (h : m[q]? = some p) : (⟨ek p.1, ev p.2, q⟩ : MapEntry) ∈ mentL ek ev m 0 :=
  List.mem_of_getElem? (i := q) (by rw [mentL_get, h]; simp)
theorem mentL_nodup : ((mentL ek ev m 0).map (·.born)).Nodup := by
  have : (mentL ek ev m 0).map (·.born) = List.range m.length := by
    apply List.ext_getElem?
    intro q
    rw [List.getElem?_map, mentL_get]
    rcases Nat.lt_or_ge q m.length with h | h
    · rw [List.getElem?_range h, List.getElem?_eq_getElem h]
      simp
    · rw [List.getElem?_eq_none (l := List.range m.length) (by simpa using h), List.getElem?_eq_none h]
      rfl
  rw [this]
  exact List.nodup_range
theorem lcnt_less {is : List Nat} {q : Nat} {p : κ × ν} (hp : m[q]? = some p) (hq : q ∉ is) : lcnt ek ev m (is ++ [q]) < lcnt ek ev m is := by
  have h1 := left_shrinks (mentL ek ev m 0).toArray is.toArray ⟨ek p.1, ev p.2, q⟩ (by
    rw [leftOf, Array.toList_filter]
    exact List.mem_filter.2 ⟨mentL_mem hp, by simp [hq]⟩)
  have e : is.toArray.push q = (is ++ [q]).toArray := by simp
  rw [e] at h1
  exact h1
theorem nodup_lt : ∀ (n : Nat) (l : List Nat), l.Nodup → (∀ i ∈ l, i < n) → l.length ≤ n
  | 0, [], _, _ => Nat.le_refl _
  | 0, x :: _, _, h => absurd (h x (by simp)) (by omega)
  | n + 1, l, hn, h => by
    have h1 := nodup_lt n (l.erase n) (hn.erase n) fun i hi => by
      have h2 := (List.Nodup.mem_erase_iff hn).1 hi
      have := h i h2.2
      omega
    rw [List.length_erase] at h1
    split at h1 <;> omega
theorem bound_len {is : List Nat} (hn : is.Nodup) (hi : ∀ i ∈ is, i < m.length) {q : Nat} {p : κ × ν} (hp : m[q]? = some p) (hq : q ∉ is) : is.length + 1 ≤ m.length := by
  have hn' : (q :: is).Nodup := List.nodup_cons.2 ⟨hq, hn⟩
  have := nodup_lt m.length (q :: is) hn' fun x hx => by
    rcases List.mem_cons.1 hx with rfl | hx
    · exact (List.getElem?_eq_some_iff.1 hp).1
    · exact hi x hx
  simpa using this
theorem nodup_snoc {is : List Nat} {q : Nat} (hn : is.Nodup) (hq : q ∉ is) : (is ++ [q]).Nodup := by
  rw [List.nodup_append]
  exact ⟨hn, by simp, fun a ha b hb => by simp at hb; subst hb; exact fun e => hq (e ▸ ha)⟩
theorem bound_snoc {is : List Nat} {q : Nat} {p : κ × ν} (hi : ∀ i ∈ is, i < m.length) (hp : m[q]? = some p) : ∀ i ∈ is ++ [q], i < m.length := fun i h => by
  rcases List.mem_append.1 h with h | h
  · exact hi i h
  · obtain rfl : i = q := by simpa using h
    exact (List.getElem?_eq_some_iff.1 hp).1
variable {P : Program} {ops : Array Oper} {Q : Exit → Act → World → Prop} {rest : List Oper} {n dn : Nat} {l : List (Nat × Value)} {a : Act} {w : World} {w0 : Bs} {hl : List Own} {Zi Z : FZ}
  {d : Option Nat} {x y z : Operand} {t kt et ty : TypeId} {pos : String} {af : Array Edge} {g : Option (Nat × Bool)} {b r : Nat}
theorem z_rangeM (h : Fr n l a) (H : HZ w0 Zi Z hl w) (i : Nat) (hi : hl[i]? = some (.blk b (MObj ek ev m))) (ht : P.underlying t = some (.map kt et)) (hx : Stp.ev l x = some (.map (some b))) (hd : Nat.blt dn n = true)
    (k : ∀ a' r w', Ext w w' → HZ w0 Zi Z (hl ++ [.blk r (.mapIter (some b) m.length (([] : List Nat)).toArray m.length)]) w' → Fr n ((dn, .pointer (some ⟨r, 0, none⟩)) :: l) a' → wpList P ops Q rest a' w') :
    wpList P ops Q (⟨some dn, .range t x, ty, pos, af, none⟩ :: rest) a w := by
  refine wpList_plain rfl fun K hK => ?_
  have hb := H.hp.get i hi
  have e1 : execOp a.eval ⟨some dn, .range t x, ty, pos, af, none⟩ = Instr.range t (a.eval x) >>= fun v => pure (.value v) := rfl
  have e2 : (execOp a.eval ⟨some dn, .range t x, ty, pos, af, none⟩).run P w = .ok (.value (.pointer (some ⟨w.heap.size, 0, none⟩))) (w.alloc (.mapIter (some b) m.length #[] m.length)) := by
    rw [e1, h.ev hx, Sem.run_bind, run_range_map w t kt et b _ _ ht hb]
    rfl
  unfold Oper.wp
  rw [e2]
  exact hK _ _ (k _ w.heap.size _ (Ext.alloc _ _) (H.push (Ext.alloc _ _) (.blk _ _) (heap_alloc_new w _) (fun b hb => by simp only [Own.at, Option.some.injEq] at hb; omega)) (h.put hd _))
theorem z_nextM (h : Fr n l a) (H : HZ w0 Zi Z hl w) (i j : Nat) {is : List Nat} (hi : hl[i]? = some (.blk b (MObj ek ev m))) (hj : hl[j]? = some (.blk r (.mapIter (some b) m.length is.toArray m.length))) (hx : Stp.ev l x = some (.pointer (some ⟨r, 0, none⟩))) (hd : Nat.blt dn n = true)
    (k0 : (∀ q, q < m.length → q ∈ is) → ∀ a', Fr n ((dn, .tuple #[.bool false]) :: l) a' → wpList P ops Q rest a' w)
    (k1 : ∀ q p, m[q]? = some p → q ∉ is → ∀ a' w', HZ w0 Zi Z (hl.set j (.blk r (.mapIter (some b) m.length (is ++ [q]).toArray m.length))) w' → Fr n ((dn, .tuple #[.bool true, ek p.1, ev p.2]) :: l) a' → wpList P ops Q rest a' w') :
    wpList P ops Q (⟨some dn, .next x false, ty, pos, af, none⟩ :: rest) a w := by
  refine wpList_plain rfl fun K hK => ?_
  have hb := H.hp.get i hi
  have hr := H.hp.get j hj
  have e1 : execOp a.eval ⟨some dn, .next x false, ty, pos, af, none⟩ = Instr.next (a.eval x) false ty >>= fun v => pure (.value v) := rfl
  rcases run_next_at (P := P) w ty r b m.length m.length is.toArray (mentL ek ev m 0).toArray m.length hr hb (fun x hx => by
      obtain ⟨q, p, hp, rfl⟩ := mentL_born x (by simpa using hx)
      exact (List.getElem?_eq_some_iff.1 hp).1) (Nat.le_refl _) with ⟨h0, hrun⟩ | ⟨e, he, w1, hw1, hrun⟩
  · have e2 : (execOp a.eval ⟨some dn, .next x false, ty, pos, af, none⟩).run P w = .ok (.value (.tuple #[.bool false])) w := by
      rw [e1, h.ev hx, Sem.run_bind, hrun]
      rfl
    unfold Oper.wp
    rw [e2]
    refine hK _ _ (k0 (fun q hq => ?_) _ (h.put hd _))
    have := all_seen _ _ h0 ⟨ek (m[q]).1, ev (m[q]).2, q⟩ (by simpa using mentL_mem (List.getElem?_eq_getElem hq))
    simpa using this
  · obtain ⟨h1, h2⟩ := mem_left he
    obtain ⟨q, p, hp, rfl⟩ := mentL_born e (by simpa using h1)
    have e2 : (execOp a.eval ⟨some dn, .next x false, ty, pos, af, none⟩).run P w = .ok (.value (.tuple #[.bool true, ek p.1, ev p.2])) (ChangeMaps.setBlock w1 r (.mapIter (some b) m.length (is ++ [q]).toArray m.length)) := by
      rw [e1, h.ev hx, Sem.run_bind, hrun]
      simp
    have H1 : HZ w0 Zi Z hl w1 := by
      rcases hw1 with rfl | rfl
      · exact H
      · exact H.ext (Ext.drew w)
    have hr1 := H1.hp.get j hj
    unfold Oper.wp
    rw [e2]
    obtain ⟨s1, s2⟩ := MapKept.heap_set (o' := .mapIter (some b) m.length (is ++ [q]).toArray m.length) hr1
    have hat : ∀ c, (Own.blk r (.mapIter (some b) m.length (is ++ [q]).toArray m.length)).at = some c → (Own.blk r (.mapIter (some b) m.length is.toArray m.length)).at = some c ∨ w1.heap.size ≤ c := fun c hc => .inl hc
    have hsame : ∀ c, c < w1.heap.size → (Own.blk r (.mapIter (some b) m.length is.toArray m.length)).at ≠ some c → (ChangeMaps.setBlock w1 r (.mapIter (some b) m.length (is ++ [q]).toArray m.length)).heap[c]? = w1.heap[c]? := fun c _ hne => s2 c fun e => hne (by rw [e]; rfl)
    exact hK _ _ (k1 q p hp (by simpa using h2) _ _ (H1.turn j hj (H1.hp.turn j hj (.blk r (.mapIter (some b) m.length (is ++ [q]).toArray m.length)) s1 rfl rfl rfl (by simp [ChangeMaps.setBlock]) hsame hat) hsame hat) (h.put hd _))
theorem v_entryM {is : List Nat} {q : Nat} {p : κ × ν} (hx : Stp.ev l x = some (.pointer (some ⟨r, 0, none⟩))) (hb : w.heap[b]? = some (MObj ek ev m)) (hr : w.heap[r]? = some (.mapIter (some b) m.length (is ++ [q]).toArray m.length)) (hp : m[q]? = some p) :
    Val P l w ⟨d, .entry x, ty, pos, af, g⟩ (.tuple #[ek p.1, ev p.2]) := fun n a h => by
  have e1 : execOp a.eval ⟨d, .entry x, ty, pos, af, g⟩ = Instr.entry (a.eval x) >>= fun v => pure (.value v) := rfl
  have e2 : (is ++ [q]).toArray = is.toArray.push q := by simp
  rw [e2] at hr
  have h1 := run_entry_at (P := P) w r b m.length is.toArray (mentL ek ev m 0).toArray m.length ⟨ek p.1, ev p.2, q⟩ hr hb (by simpa using mentL_mem hp) (by simpa using mentL_nodup)
  rw [e1, h.ev hx, Sem.run_bind, h1]
  rfl
end
section
variable {α : Type} [Inhabited α] {enc : α → List Value} {k : Nat}
theorem flat_el (hk : ∀ x, (enc x).length = k) (hk0 : 0 < k) : ∀ (xs : List α) (t : Nat), t < xs.length * k → (xs.flatMap enc)[t]? = some ((enc (xs.toArray[t / k]!))[t % k]!)
  | [], t, h => by simp at h
  | u :: r, t, h => by
    rcases Nat.lt_or_ge t k with h1 | h1
    · rw [List.flatMap_cons, List.getElem?_append_left (by rw [hk]; exact h1), Nat.div_eq_of_lt h1, Nat.mod_eq_of_lt h1]
      have : t < (enc u).length := by rw [hk]; exact h1
      simp [this]
    · have e1 : t / k = (t - k) / k + 1 := by
        rw [Nat.div_eq_sub_div hk0 h1]
      have e2 : t % k = (t - k) % k := Nat.mod_eq_sub_mod h1
      have hlt : t - k < r.length * k := by
        simp only [List.length_cons, Nat.add_mul, Nat.one_mul] at h
        omega
      rw [List.flatMap_cons, List.getElem?_append_right (by rw [hk]; exact h1), hk, flat_el hk hk0 r (t - k) hlt, e1, e2]
      have hq : (t - k) / k < r.length := Nat.div_lt_of_lt_mul (by rw [Nat.mul_comm]; exact hlt)
      simp [hq]
theorem flatK_list (hk : ∀ x, (enc x).length = k) (hk0 : 0 < k) (xs : List α) : (Sort.flatK enc k xs.toArray).toList = xs.flatMap enc := by
  have hl : (xs.flatMap enc).length = xs.length * k := flatMap_len enc k hk xs
  apply List.ext_getElem?
  intro t
  rcases Nat.lt_or_ge t (xs.length * k) with h | h
  · rw [flat_el hk hk0 xs t h]
    simp [Sort.flatK, h]
  · rw [List.getElem?_eq_none (by simpa [Sort.flatK] using h), List.getElem?_eq_none (by omega)]
theorem holdsK_row {w : World} {g : Nat} {cur : Array Value} {e : TypeId} {xs : List α} (hk : ∀ x, (enc x).length = k) (hk0 : 0 < k) (hb : w.heap[g]? = some (.cells cur e (0, 0))) (ht : cur.toList.take (xs.length * k) = xs.flatMap enc) : Sort.HoldsK enc k w g 0 xs.toArray := by
  intro j hj
  have hj' : j < xs.length * k := by simpa using hj
  refine ⟨?_, by simp [World.frozen?, hb]⟩
  have h1 : (cur.toList.take (xs.length * k))[j]? = (xs.flatMap enc)[j]? := by rw [ht]
  rw [List.getElem?_take_of_lt hj', ← flatK_list hk hk0] at h1
  simp only [World.cell?, hb, Nat.zero_add]
  simp only [Option.isSome_none, Bool.false_eq_true, if_false]
  rw [← Array.getElem?_toList, h1, Array.getElem?_toList, Array.getElem?_eq_getElem hj, getElem!_pos _ j hj]
  rfl
theorem heap_sortedK {w : World} {g n : Nat} {os : Array Obj} {cur : Array Value} {e : TypeId} {fr : Nat × Nat} (d : Array α) (hb : w.heap[g]? = some (.cells cur e fr)) :
    (Proofs.sortWorldK enc k w g 0 n d os).heap[g]? = some (.cells (Sort.putCells id 0 (Sort.flatK enc k d) cur) e fr) := by
  have hg : g < w.heap.size := (Array.getElem?_eq_some_iff.1 hb).1
  unfold Proofs.sortWorldK Sort.putRowK
  rw [Sort.heap_grow_old _ _ (by simpa using hg)]
  simp [Sort.putRow, Sort.mapBlock, Sort.ahead, Array.getElem?_modify, hb, Sort.onCells]
theorem heap_sortedK_ne {w : World} {g n : Nat} {os : Array Obj} (d : Array α) {c : Nat} (hc : c < w.heap.size) (hne : c ≠ g) : (Proofs.sortWorldK enc k w g 0 n d os).heap[c]? = w.heap[c]? := by
  unfold Proofs.sortWorldK Sort.putRowK
  rw [Sort.heap_grow_old _ _ (by simpa using hc)]
  simp [Sort.putRow, Sort.mapBlock, Sort.ahead, Array.getElem?_modify, Ne.symm hne]
/-- Behind the sort the same slice owns the sorted list. -/
theorem HZ.sorted {w0 : Bs} {w : World} {Zi Z : FZ} {hl : List Own} (H : HZ w0 Zi Z hl w) (i : Nat) {e : TypeId} {g cap n : Nat} {os : Array Obj} {cur : Array Value} {xs ys : List α} (hk : ∀ x, (enc x).length = k) (hk0 : 0 < k) (hi : hl[i]? = some (.row e k (.slice (some ⟨g, 0, none⟩) xs.length cap) xs.length (xs.flatMap enc)))
    (hb : w.heap[g]? = some (.cells cur e (0, 0))) (h1 : xs.length ≤ cap) (h2 : cap ≤ maxLen) (h3 : cur.size = cap * k) (hlen : ys.length = xs.length) :
    HZ w0 Zi Z (hl.set i (.row e k (.slice (some ⟨g, 0, none⟩) xs.length cap) ys.length (ys.flatMap enc))) (Proofs.sortWorldK enc k w g 0 n ys.toArray os) := by
  have hf : (ys.flatMap enc).length = ys.length * k := flatMap_len enc k hk ys
  have hcap : ys.length * k ≤ cap * k := Nat.mul_le_mul_right k (by omega)
  have hhold : (Proofs.sortWorldK enc k w g 0 n ys.toArray os).ownsRow 0 e k (.slice (some ⟨g, 0, none⟩) xs.length cap) ys.length (ys.flatMap enc) :=
    ⟨hf, .inr ⟨g, cap, _, by rw [hlen], Nat.zero_le _, heap_sortedK _ hb, by omega, h2, by simp [Sort.putCells, h3], by
      rw [← flatK_list hk hk0 ys]
      apply List.ext_getElem?
      intro j
      have hsz : (Sort.flatK enc k ys.toArray).size = ys.length * k := by simp
      rcases Nat.lt_or_ge j (ys.length * k) with hj | hj
      · have hjc : j < cur.size := by rw [h3]; omega
        rw [List.getElem?_take_of_lt hj, Array.getElem?_toList, Array.getElem?_toList]
        have e9 : (Sort.flatK enc k ys.toArray)[j]? = some ((Sort.flatK enc k ys.toArray)[j]!) := by
          rw [Array.getElem?_eq_getElem (by rw [hsz]; exact hj), getElem!_pos _ j (by rw [hsz]; exact hj)]
        rw [e9]
        simp [Sort.putCells, hj, hjc]
      · rw [List.getElem?_take_eq_none hj, List.getElem?_eq_none (by rw [Array.length_toList, hsz]; exact hj)]⟩⟩
  have hat : ∀ b, (Own.row e k (.slice (some ⟨g, 0, none⟩) xs.length cap) ys.length (ys.flatMap enc)).at = some b → (Own.row e k (.slice (some ⟨g, 0, none⟩) xs.length cap) xs.length (xs.flatMap enc)).at = some b ∨ w.heap.size ≤ b := fun b hb => .inl hb
  have hsame : ∀ c, c < w.heap.size → (Own.row e k (.slice (some ⟨g, 0, none⟩) xs.length cap) xs.length (xs.flatMap enc)).at ≠ some c → (Proofs.sortWorldK enc k w g 0 n ys.toArray os).heap[c]? = w.heap[c]? := fun c hc hne => heap_sortedK_ne _ hc fun e => hne (by rw [e]; rfl)
  have hsz : w.heap.size ≤ (Proofs.sortWorldK enc k w g 0 n ys.toArray os).heap.size := Proofs.size_sortWorldK_c enc k w g 0 n ys.toArray os
  exact H.turn i hi (H.hp.turn i hi (.row e k (.slice (some ⟨g, 0, none⟩) xs.length cap) ys.length (ys.flatMap enc)) hhold rfl rfl rfl hsz hsame hat) hsame hat
end
/-! ### what one operation has laid, beside a new variable -/
def ZBt (Z : FZ) (lo hi : Nat) (w : World) : FZ := fun b => if lo ≤ b ∧ b < hi then w.heap[b]? else Z b
theorem ZBt.of {B : Nat} {w : World} : (ZB Z0 B w).sub (ZBt Z0 B w.heap.size w) := fun b o e => by
  unfold ZB at e
  split at e
  · unfold ZBt
    rw [if_pos ⟨by assumption, (Array.getElem?_eq_some_iff.1 e).1⟩]
    exact e
  · cases e
theorem ZBt.grow {Z : FZ} {lo hi : Nat} {w w' : World} (X : Ext w w') : (ZBt Z lo hi w).sub (ZBt Z lo hi w') := fun b o e => by
  unfold ZBt at e ⊢
  split at e
  · rw [if_pos (by assumption)]; exact X.block e
  · rw [if_neg (by assumption)]; exact e
theorem HZ.pushI {w0 : Bs} {w w1 : World} {Zi Z : FZ} {hl : List Own} (H : HZ w0 Zi Z hl w1) (X : Ext w1 w) {p : Nat} {o : Obj} (hb : w.heap[p]? = some o) (hp : w1.heap.size ≤ p) {lo hi : Nat} (hlo : w1.heap.size ≤ lo) (hav : p < lo ∨ hi ≤ p) :
    ∃ Z', Z.sub Z' ∧ (ZBt Z0 lo hi w).sub Z' ∧ HZ w0 Zi Z' (hl ++ [.blk p o]) w := by
  have H1 := H.pushF X hb hp
  have hz : ∀ b q, Z b = some q → b < w1.heap.size := fun b q h => (Array.getElem?_eq_some_iff.1 (H.zin b q h)).1
  have hs : Z.sub (ZBt Z lo hi w) := fun b q h => by
    unfold ZBt
    rw [if_neg (fun hh => by have := hz b q h; omega)]
    exact h
  refine ⟨ZBt Z lo hi w, hs, fun b q h => ?_, ⟨H1.hp, fun b q h => ?_, fun x hx b hxb => ?_, H.sub.trans hs, fun b q h => ?_⟩⟩
  · unfold ZBt at h ⊢
    split at h
    · rw [if_pos (by assumption)]; exact h
    · cases h
  · unfold ZBt at h
    split at h
    · exact h
    · exact H1.zin b q h
  · unfold ZBt
    rw [if_neg]
    · exact H1.off x hx b hxb
    · rcases List.mem_append.1 hx with hx | hx
      · have := H.lt x hx b hxb
        omega
      · obtain rfl : x = .blk p o := by simpa using hx
        simp only [Own.at, Option.some.injEq] at hxb
        omega
  · unfold ZBt at h
    split at h
    · right; left
      have := H.sz
      omega
    · exact H.new b q h
end Go.Stp
