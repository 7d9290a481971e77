/- The step library, fifteenth part: maps: a list of keys and values. -/
import Derived.Test.YtlpfcclecmalhaaDoorStpR
import Derived.MapKept
set_option linter.unusedSimpArgs false
set_option linter.unusedVariables false
set_option linter.unusedSectionVars false
namespace Go.Stp
open Go.RowKit
section
variable {κ ν : Type} [DecidableEq κ]
def mentL (ek : κ → Value) (ev : ν → Value) : List (κ × ν) → Nat → List MapEntry
  | [], _ => []
  | p :: r, j => ⟨ek p.1, ev p.2, j⟩ :: mentL ek ev r (j + 1)
def MObj (ek : κ → Value) (ev : ν → Value) (m : List (κ × ν)) : Obj := .map (mentL ek ev m 0).toArray m.length
/-- Where a key stands. -/
def kAt (k : κ) : List (κ × ν) → Nat → Option (Nat × ν)
  | [], _ => none
  | p :: r, i => if k = p.1 then some (i, p.2) else kAt k r (i + 1)
def mget [Inhabited ν] (m : List (κ × ν)) (k : κ) : ν := ((kAt k m 0).map (·.2)).getD default
def mhas (m : List (κ × ν)) (k : κ) : Bool := (kAt k m 0).isSome
def mput (m : List (κ × ν)) (k : κ) (v : ν) : List (κ × ν) := match kAt k m 0 with
  | some (i, _) => m.set i (k, v)
  | none => m ++ [(k, v)]
theorem mentL_len (ek : κ → Value) (ev : ν → Value) : ∀ (m : List (κ × ν)) (j : Nat), (mentL ek ev m j).length = m.length
  | [], _ => rfl
  | _ :: r, j => by simp [mentL, mentL_len ek ev r]
theorem mentL_get (ek : κ → Value) (ev : ν → Value) : ∀ (m : List (κ × ν)) (j i : Nat), (mentL ek ev m j)[i]? = (m[i]?).map fun p => (⟨ek p.1, ev p.2, j + i⟩ : MapEntry)
  | [], _, i => by simp [mentL]
  | p :: r, j, 0 => by simp [mentL]
  | p :: r, j, i + 1 => by
    simp only [mentL, List.getElem?_cons_succ]
    rw [mentL_get ek ev r (j + 1) i]
    have e : j + 1 + i = j + (i + 1) := by omega
    rw [e]
theorem kAt_some {k : κ} : ∀ {m : List (κ × ν)} {i : Nat} {q : Nat × ν}, kAt k m i = some q → i ≤ q.1 ∧ m[q.1 - i]? = some (k, q.2)
  | p :: r, i, q, h => by
    unfold kAt at h
    split at h
    · rename_i e
      obtain rfl := Option.some.inj h
      simp [e]
    · obtain ⟨h1, h2⟩ := kAt_some h
      refine ⟨by omega, ?_⟩
      have e : q.1 - i = (q.1 - (i + 1)) + 1 := by omega
      rw [e]
      simpa using h2
theorem kAt_none {k : κ} : ∀ {m : List (κ × ν)} {i : Nat}, kAt k m i = none → ∀ p ∈ m, p.1 ≠ k
  | p :: r, i, h, q, hq => by
    unfold kAt at h
    split at h
    · cases h
    · rename_i e
      rcases List.mem_cons.1 hq with rfl | hq
      · exact fun e' => e e'.symm
      · exact kAt_none h q hq
/-- Keys of a type: told apart by what they are. -/
structure MKey (P : Program) (kt : TypeId) (ek : κ → Value) : Prop where
  check : ∀ b k w, (Instr.checkKey b 10000 kt (ek k)).run P w = .ok () w
  find : ∀ {ν : Type} (ev : ν → Value) (k : κ) (m : List (κ × ν)) w, (Instr.findKey kt (ek k) (mentL ek ev m 0)).run P w = .ok ((kAt k m 0).map fun q => (q.1, ev q.2)) w
  stay : ∀ k w, (Instr.keyThatStays (ek k) (ek k)).run P w = .ok (ek k) w
theorem findNow_ments {d : TypeDesc} {ek : κ → Value} {ev : ν → Value} (hs : ∀ a b, Instr.sameNow d (ek a) (ek b) = some (decide (a = b))) (k : κ) : ∀ (m : List (κ × ν)) (j i : Nat), Instr.findNow d (ek k) (mentL ek ev m j) i = some ((kAt k m i).map fun q => (q.1, ev q.2))
  | [], j, i => rfl
  | p :: r, j, i => by
    simp only [mentL, Instr.findNow, hs, kAt]
    by_cases h : k = p.1
    · simp [h]
    · simp [h, findNow_ments hs k r (j + 1) (i + 1)]
theorem findAsking_ments {P : Program} {kt : TypeId} {ek : κ → Value} {ev : ν → Value} (hs : ∀ a b w, (Op.equal kt (ek a) (ek b)).run P w = .ok (decide (a = b)) w) (k : κ) : ∀ (m : List (κ × ν)) (j i : Nat) w, (Instr.findAsking kt (ek k) (mentL ek ev m j) i).run P w = .ok ((kAt k m i).map fun q => (q.1, ev q.2)) w
  | [], j, i, w => by simp [mentL, Instr.findAsking, kAt]
  | p :: r, j, i, w => by
    simp only [mentL, Instr.findAsking, kAt, Sem.run_bind, hs, Result.andThen_ok]
    by_cases h : k = p.1
    · simp [h]
    · simp [h, findAsking_ments hs k r (j + 1) (i + 1)]
theorem MKey.str {P : Program} {kt : TypeId} (hd : P.underlying kt = some .string) : MKey P kt S where
  check b k w := MapKept.run_checkKey hd (by trivial) b 9999
  find ev k m w := MapKept.run_findKey hd (findNow_ments (fun a b => by
    simp only [Instr.sameNow, Option.some.injEq]
    by_cases h : a = b
    · subst h; simp [MapKept.bytes_beq]
    · have : ¬ ((⟨a.toArray⟩ : ByteArray) == ⟨b.toArray⟩) = true := fun e => h (by
        have := (MapKept.bytes_beq _ _).1 e
        simpa using this)
      simp [h]
      simpa using this) k m 0 0)
  stay k w := MapKept.run_keyThatStays (d := .string) (by trivial)
theorem MKey.agg {P : Program} {kt : TypeId} {ek : κ → Value} {fs : Array Field} (hd : P.underlying kt = some (.struct fs)) (hc : ∀ b k w, (Instr.checkKey b 10000 kt (ek k)).run P w = .ok () w) (hn : ∀ a b, Instr.sameNow (.struct fs) (ek a) (ek b) = none)
    (hs : ∀ a b w, (Op.equal kt (ek a) (ek b)).run P w = .ok (decide (a = b)) w) (hst : ∀ k, Instr.sameBits 10000 (ek k) (ek k) = true) : MKey P kt ek where
  check := hc
  find ev k m w := by
    unfold Instr.findKey
    simp only [Sem.run_bind, run_underlying hd, Result.andThen_ok]
    cases m with
    | nil => simp [mentL, Instr.findNow, kAt]
    | cons p r =>
      have : Instr.findNow (.struct fs) (ek k) (mentL ek ev (p :: r) 0) 0 = none := by simp only [mentL, Instr.findNow, hn]
      rw [this]
      exact findAsking_ments hs k (p :: r) 0 0 w
  stay k w := by simp [Instr.keyThatStays, hst]

variable {P : Program} {ek : κ → Value} {ev : ν → Value} {m : List (κ × ν)} {w : World} {b : Nat} {t kt et : TypeId}
theorem mput_ents (k : κ) (v : ν) : (match (kAt k m 0).map fun q => (q.1, ev q.2) with
    | some (i, _) => Obj.map ((mentL ek ev m 0).toArray.modify i fun e => { e with key := ek k, val := ev v }) m.length
    | none => Obj.map ((mentL ek ev m 0).toArray.push { key := ek k, val := ev v, born := m.length }) (m.length + 1)) = MObj ek ev (mput m k v) := by
  unfold mput MObj
  cases h : kAt k m 0 with
  | none =>
    simp only [Option.map_none, List.length_append, List.length_cons, List.length_nil, Nat.zero_add]
    congr 1
    apply Array.toList_inj.1
    simp only [Array.toList_push, List.toList_toArray]
    apply List.ext_getElem?
    intro i
    rw [mentL_get, List.getElem?_append, List.getElem?_append, mentL_len]
    split
    · rw [mentL_get]
    · rename_i hi
      by_cases e : i = m.length
      · subst e
        simp
      · rw [List.getElem?_eq_none (by simp; omega), List.getElem?_eq_none (by simp; omega)]
        rfl
  | some q =>
    obtain ⟨i, u⟩ := q
    obtain ⟨h1, h2⟩ := kAt_some h
    simp only [Nat.sub_zero] at h2
    simp only [Option.map_some, List.length_set]
    congr 1
    apply Array.toList_inj.1
    apply List.ext_getElem?
    intro j
    simp only [Array.toList_modify, List.toList_toArray]
    rw [mentL_get, List.getElem?_modify, mentL_get, List.getElem?_set]
    by_cases e : i = j
    · subst e
      have hlt := (List.getElem?_eq_some_iff.1 h2).1
      simp [h2, hlt]
    · simp [e]
theorem run_mapUpdate (K : MKey P kt ek) (ht : P.underlying t = some (.map kt et)) (hb : w.heap[b]? = some (MObj ek ev m)) (k : κ) (v : ν) :
    (Instr.mapUpdate t (.map (some b)) (ek k) (ev v)).run P w = .ok () { w with heap := w.heap.setIfInBounds b (MObj ek ev (mput m k v)) } := by
  have hg := MapKept.run_getObj_map (P := P) hb
  have hset := fun o => MapKept.run_setObj_map (P := P) o hb
  have he := mput_ents (ek := ek) (ev := ev) (m := m) k v
  unfold Instr.mapUpdate
  simp only [Sem.run_bind, run_underlying ht, Result.andThen_ok, hg, K.check, List.toList_toArray, K.find ev k m]
  cases h : kAt k m 0 with
  | none =>
    rw [h] at he
    simp only [Option.map_none] at he ⊢
    rw [hset, ← he]
  | some q =>
    obtain ⟨i, u⟩ := q
    rw [h] at he
    simp only [Option.map_some] at he ⊢
    obtain ⟨h1, h2⟩ := kAt_some h
    simp only [Nat.sub_zero] at h2
    have hk : (((mentL ek ev m 0).toArray[i]?).map (·.key)).getD (ek k) = ek k := by
      simp [mentL_get, h2]
    simp only [Sem.run_bind, hk, K.stay, Result.andThen_ok]
    rw [hset, ← he]
theorem run_lookup [Inhabited ν] (K : MKey P kt ek) (ht : P.underlying t = some (.map kt et)) (hz : ∀ w, (zeroValue et).run P w = .ok (ev default) w) (hb : w.heap[b]? = some (MObj ek ev m)) (k : κ) :
    (Instr.lookup t (.map (some b)) (ek k) false).run P w = .ok (ev (mget m k)) w := by
  have hg := MapKept.run_getObj_map (P := P) hb
  unfold Instr.lookup mget
  simp only [Sem.run_bind, run_underlying ht, Result.andThen_ok, hg, Sem.run_pure, K.check, List.toList_toArray, K.find ev k m]
  cases h : kAt k m 0 with
  | none => simp [hz]
  | some q => simp
theorem run_lookupOk [Inhabited ν] (K : MKey P kt ek) (ht : P.underlying t = some (.map kt et)) (hz : ∀ w, (zeroValue et).run P w = .ok (ev default) w) (hb : w.heap[b]? = some (MObj ek ev m)) (k : κ) :
    (Instr.lookup t (.map (some b)) (ek k) true).run P w = .ok (.tuple #[ev (mget m k), .bool (mhas m k)]) w := by
  have hg := MapKept.run_getObj_map (P := P) hb
  unfold Instr.lookup mget mhas
  simp only [Sem.run_bind, run_underlying ht, Result.andThen_ok, hg, Sem.run_pure, K.check, List.toList_toArray, K.find ev k m]
  cases h : kAt k m 0 with
  | none => simp [hz]
  | some q => simp
end
section
variable {κ ν : Type} [DecidableEq κ] {P : Program} {ops : Array Oper} {Q : Exit → Act → World → Prop} {rest : List Oper} {n : Nm} {dn : Nat} {l : List (Nat × Value)} {a : Act} {w : World} {w0 : Bs} {hl : List Own} {Zi Z : FZ}
  {d : Option Nat} {x y z : Operand} {t kt et ty : TypeId} {pos : String} {af : Array Edge} {g : Option (Nat × Bool)} {b : Nat} {ek : κ → Value} {ev' : ν → Value} {m : List (κ × ν)}
/-- 'map[K]V{}'. -/
theorem z_makeMap (ek : κ → Value) (ev' : ν → Value) (h : Fr n l a) (H : HZ w0 Zi Z hl w) (hd : Nat.blt dn n.n = true)
    (k : ∀ a' b w', Ext w w' → HZ w0 Zi Z (hl ++ [.blk b (MObj ek ev' [])]) w' → Fr n ((dn, .map (some b)) :: l) a' → wpList P ops Q rest a' w') :
    wpList P ops Q (⟨some dn, .makeMap t none, ty, pos, af, none⟩ :: rest) a w := by
  refine wpList_plain rfl fun K hK => ?_
  have e1 : execOp a.eval ⟨some dn, .makeMap t none, ty, pos, af, none⟩ = Instr.makeMap t none >>= fun v => pure (.value v) := rfl
  have e2 : (execOp a.eval ⟨some dn, .makeMap t none, ty, pos, af, none⟩).run P w = .ok (.value (.map (some w.heap.size))) (w.alloc (.map #[] 0)) := by
    rw [e1]
    simp [Instr.makeMap]
  unfold Oper.wp
  rw [e2]
  refine hK _ _ (k _ w.heap.size _ (Ext.alloc _ _) (H.push (Ext.alloc _ _) (.blk _ _) (heap_alloc_new w _) (fun b hb => by simp only [Own.at, Option.some.injEq] at hb; omega)) (h.put hd _))
theorem v_lookup [Inhabited ν] (K : MKey P kt ek) (ht : P.underlying t = some (.map kt et)) (hz : ∀ w, (zeroValue et).run P w = .ok (ev' default) w) (hb : w.heap[b]? = some (MObj ek ev' m)) (hx : ev l x = some (.map (some b))) {k : κ} (hy : ev l y = some (ek k)) :
    Val P l w ⟨d, .lookup t x y false, ty, pos, af, g⟩ (ev' (mget m k)) := fun n a h => by
  have e1 : execOp a.eval ⟨d, .lookup t x y false, ty, pos, af, g⟩ = Instr.lookup t (a.eval x) (a.eval y) false >>= fun v => pure (.value v) := rfl
  rw [e1, h.ev hx, h.ev hy]
  simp [run_lookup K ht hz hb]
theorem z_mapUpdate (K : MKey P kt ek) (h : Fr n l a) (H : HZ w0 Zi Z hl w) (i : Nat) (hi : hl[i]? = some (.blk b (MObj ek ev' m))) (ht : P.underlying t = some (.map kt et)) (hx : ev l x = some (.map (some b))) {k : κ} (hy : ev l y = some (ek k)) {v : ν} (hz : ev l z = some (ev' v))
    {hl' : List Own} (hh : hl.set i (.blk b (MObj ek ev' (mput m k v))) = hl') (kk : ∀ w', HZ w0 Zi Z hl' w' → wpList P ops Q rest a w') :
    wpList P ops Q (⟨none, .mapUpdate t x y z, ty, pos, af, none⟩ :: rest) a w := by
  subst hh
  refine wpList_plain rfl fun K' hK => ?_
  have hb := H.hp.get i hi
  have e1 : execOp a.eval ⟨none, .mapUpdate t x y z, ty, pos, af, none⟩ = Instr.mapUpdate t (a.eval x) (a.eval y) (a.eval z) >>= fun _ => pure .skip := rfl
  have e2 : (execOp a.eval ⟨none, .mapUpdate t x y z, ty, pos, af, none⟩).run P w = .ok .skip { w with heap := w.heap.setIfInBounds b (MObj ek ev' (mput m k v)) } := by
    rw [e1, h.ev hx, h.ev hy, h.ev hz]
    simp [run_mapUpdate K ht hb]
  unfold Oper.wp
  rw [e2]
  obtain ⟨s1, s2⟩ := MapKept.heap_set (o' := MObj ek ev' (mput m k v)) hb
  have hat : ∀ c, (Own.blk b (MObj ek ev' (mput m k v))).at = some c → (Own.blk b (MObj ek ev' m)).at = some c ∨ w.heap.size ≤ c := fun c hc => .inl hc
  have hsame : ∀ c, c < w.heap.size → (Own.blk b (MObj ek ev' m)).at ≠ some c → ({ w with heap := w.heap.setIfInBounds b (MObj ek ev' (mput m k v)) } : World).heap[c]? = w.heap[c]? := fun c _ hne => s2 c fun e => hne (by rw [e]; rfl)
  exact hK _ _ (kk _ (H.turn i hi (H.hp.turn i hi (.blk b (MObj ek ev' (mput m k v))) s1 rfl rfl rfl (by simp) hsame hat) hsame hat))
end
end Go.Stp
