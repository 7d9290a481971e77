/- The step library, fifth part: regions that draw their order, whose operations each yield one value whatever the memory behind; elements behind a guard. -/
import Derived.Test.YtlpfcclecmalhaaDoorStpD
import Derived.Deep.Quiet
set_option linter.unusedSimpArgs false
set_option linter.unusedVariables false
set_option linter.unusedSectionVars false
namespace Go.Stp
open Go.RowKit

section
variable {P : Program} {ops : Array Oper} {Q : Exit → Act → World → Prop} {C : World → Prop} {F : Act → Prop} {rest : List Oper} {o : Oper} {n : Nm} {d dn : Nat} {l : List (Nat × Value)} {a : Act} {w w1 : World} {w0 : Bs} {hl : List Own} {V : Value}

/-- A region that draws its order, one operation behind the other: C is what all worlds on the way have in common. -/
theorem c_quiet {id : Nat} {ol : List Oper} {y : Code} (hm : P.follows .mixedOrders = true) (hB : Region.lexB .any ol.toArray = true)
    (h : wpQuiet P ol.toArray (Ext w) (fun a' => ∀ w', Ext w w' → y.wp P Q a' w') ol a) : (Code.seq (.region id ol.toArray true) y).wp P Q a w :=
  wp_seq (wp_region_quiet (C := Ext w) hm hB (Ext.drew w) h)
theorem c_lquiet {id : Nat} {ol : List Oper} (hm : P.follows .mixedOrders = true) (hB : Region.lexB .any ol.toArray = true)
    (h : wpQuiet P ol.toArray (Ext w) (fun a' => ∀ w', Ext w w' → Q .normal a' w') ol a) : (Code.region id ol.toArray true).wp P Q a w :=
  wp_region_quiet (C := Ext w) hm hB (Ext.drew w) h

theorem qn (h : F a) : wpQuiet P ops C F [] a := h

theorem q_gen (h : Fr n l a) (hd : o.dst = some d) (hdn : Nat.blt d n.n = true) (hw : Region.wanted o (yielded ops a.tmps) = true) (hv : ∀ w, C w → o.quietAt P a C w V)
    (k : ∀ a', Fr n ((d, V) :: l) a' → wpQuiet P ops C F rest a') : wpQuiet P ops C F (o :: rest) a := by
  refine wpQuiet_step fun K hK => ?_
  rw [if_pos hw]
  refine ⟨V, hv, hK _ ?_⟩
  rw [hd]
  exact k _ (h.put hdn V)
theorem q_skip (h : Fr n l a) (hd : o.dst = some d) (hdn : Nat.blt d n.n = true) (hw : Region.wanted o (yielded ops a.tmps) = false)
    (k : ∀ a', Fr n ((d, undef) :: l) a' → wpQuiet P ops C F rest a') : wpQuiet P ops C F (o :: rest) a := by
  refine wpQuiet_step fun K hK => ?_
  rw [if_neg (by rw [hw]; exact Bool.false_ne_true)]
  refine hK _ ?_
  rw [hd]
  exact k _ (h.put hdn undef)
theorem wanted_none (hg : o.guard = none) : Region.wanted o (yielded ops a.tmps) = true := by simp [Region.wanted, hg]

theorem Val.quietAt (hv : Val P l w o V) (h : Fr n l a) : o.quietAt P a C w V := by
  unfold Oper.quietAt
  rw [hv n a h]
  exact ⟨rfl, rfl⟩

theorem q1 (h : Fr n l a) (hg : o.guard = none) (hd : o.dst = some d) (hdn : Nat.blt d n.n = true) (hv : ∀ w, C w → Val P l w o V)
    (k : ∀ a', Fr n ((d, V) :: l) a' → wpQuiet P ops C F rest a') : wpQuiet P ops C F (o :: rest) a :=
  q_gen h hd hdn (wanted_none hg) (fun w hw => (hv w hw).quietAt h) k
theorem q1b {B : Bool} (h : Fr n l a) (hg : o.guard = none) (hd : o.dst = some d) (hdn : Nat.blt d n.n = true) (hv : ∀ w, C w → Val P l w o (.bool B))
    (k : ∀ b, b = B → ∀ a', Fr n ((d, .bool b) :: l) a' → wpQuiet P ops C F rest a') : wpQuiet P ops C F (o :: rest) a :=
  q1 h hg hd hdn hv (k B rfl)
theorem q_g {j g : Nat} {b c : Bool} (h : Fr n l a) (hg : o.guard = some (j, b)) (hj : (ops[j]?).bind (·.dst) = some g) (hgv : Wants l g b c) (hd : o.dst = some d) (hdn : Nat.blt d n.n = true)
    (hv : c = true → ∀ w, C w → Val P l w o V) (k : ∀ a', Fr n ((d, gw c V) :: l) a' → wpQuiet P ops C F rest a') : wpQuiet P ops C F (o :: rest) a := by
  obtain ⟨U, hU, hc⟩ := hgv
  have hw := wanted_val h hg hj hU
  rw [hc] at hw
  cases c with
  | true => exact q_gen h hd hdn hw (fun w hw => (hv rfl w hw).quietAt h) k
  | false => exact q_skip h hd hdn hw k
theorem q_gb {j g : Nat} {b c B : Bool} (h : Fr n l a) (hg : o.guard = some (j, b)) (hj : (ops[j]?).bind (·.dst) = some g) (hgv : Wants l g b c) (hd : o.dst = some d) (hdn : Nat.blt d n.n = true)
    (hv : c = true → ∀ w, C w → Val P l w o (.bool B)) (k : ∀ r, r = B → ∀ a', Fr n ((d, gw c (.bool r)) :: l) a' → wpQuiet P ops C F rest a') : wpQuiet P ops C F (o :: rest) a :=
  q_g h hg hj hgv hd hdn hv (k B rfl)

/-- A call that hands back one value, whatever the memory, and lays blocks at most. -/
def QCall (P : Program) (l : List (Nat × Value)) (w1 w : World) (o : Oper) (V : Value) : Prop := ∀ n a, Fr n l a → o.quietAt P a (Ext w1) w V
theorem q_call {d : Option Nat} {ty : TypeId} {pos : String} {af : Array Edge} {g : Option (Nat × Bool)} {f : FuncId} {xs : Array Operand} {ats : Array TypeId} (vs : List Value) (he : evs l xs.toList = some vs) (hc : ∀ as w, (callFunc f as).run P w = .ok (.enter f as) w)
    (hX : Ext w1 w) (hq : Calls P f vs.toArray w (Ret fun v w' => v = V ∧ Ext w w')) : QCall P l w1 w ⟨d, .call { callee := .value (.func f), args := xs, argTypes := ats }, ty, pos, af, g⟩ V := fun n a h => by
  have e1 : execOp a.eval ⟨d, .call { callee := .value (.func f), args := xs, argTypes := ats }, ty, pos, af, g⟩ = callFunc f (#[] ++ xs.map a.eval ++ #[]) := rfl
  have e2 : (#[] ++ xs.map a.eval ++ #[] : Array Value) = vs.toArray := by rw [h.evsA he]; simp
  unfold Oper.quietAt
  rw [e1, e2, hc]
  refine ⟨rfl, hq.mono fun e w' hr => ?_⟩
  cases e with
  | returned v => obtain ⟨rfl, h2⟩ := hr; exact ⟨rfl, hX.trans h2⟩
  | panicked _ => exact hr.elim
  | outgrown => exact hr.elim
theorem q_callV {d : Option Nat} {ty : TypeId} {pos : String} {af : Array Edge} {g : Option (Nat × Bool)} {x : Operand} {f : FuncId} {xs : Array Operand} {ats : Array TypeId} {fst cap : Array Value} (vs : List Value) (hf : ev l x = some (.func (.func f) fst cap)) (he : evs l xs.toList = some vs)
    (hc : ∀ as w, (callFunc f as).run P w = .ok (.enter f as) w) (as : List Value) (has : fst.toList ++ vs ++ cap.toList = as)
    (hX : Ext w1 w) (hq : Calls P f as.toArray w (Ret fun v w' => v = V ∧ Ext w w')) : QCall P l w1 w ⟨d, .call { callee := .value x, args := xs, argTypes := ats }, ty, pos, af, g⟩ V := fun n a h => by
  have e1 : execOp a.eval ⟨d, .call { callee := .value x, args := xs, argTypes := ats }, ty, pos, af, g⟩ = (do let d ← Deferred.ofValue (a.eval x) (xs.map a.eval); invoke d.target d.args) := rfl
  have e3 : ((do let d ← Deferred.ofValue (a.eval x) (xs.map a.eval); invoke d.target d.args) : Sem Next).run P w = .ok (.enter f as.toArray) w := by
    rw [h.ev hf, h.evsA he]
    simp only [Deferred.ofValue, Sem.run_bind, Sem.run_pure, Result.andThen_ok, invoke, hc]
    subst has
    simp
  unfold Oper.quietAt
  rw [e1, e3]
  refine ⟨rfl, hq.mono fun e w' hr => ?_⟩
  cases e with
  | returned v => obtain ⟨rfl, h2⟩ := hr; exact ⟨rfl, hX.trans h2⟩
  | panicked _ => exact hr.elim
  | outgrown => exact hr.elim

theorem q2 (h : Fr n l a) (hg : o.guard = none) (hd : o.dst = some d) (hdn : Nat.blt d n.n = true) (hv : ∀ w, Ext w1 w → QCall P l w1 w o V)
    (k : ∀ a', Fr n ((d, V) :: l) a' → wpQuiet P ops (Ext w1) F rest a') : wpQuiet P ops (Ext w1) F (o :: rest) a :=
  q_gen h hd hdn (wanted_none hg) (fun w hw => hv w hw n a h) k
theorem q2b {B : Bool} (h : Fr n l a) (hg : o.guard = none) (hd : o.dst = some d) (hdn : Nat.blt d n.n = true) (hv : ∀ w, Ext w1 w → QCall P l w1 w o (.bool B))
    (k : ∀ b, b = B → ∀ a', Fr n ((d, .bool b) :: l) a' → wpQuiet P ops (Ext w1) F rest a') : wpQuiet P ops (Ext w1) F (o :: rest) a :=
  q2 h hg hd hdn hv (k B rfl)
theorem q_gd {j g : Nat} {b c : Bool} (h : Fr n l a) (hg : o.guard = some (j, b)) (hj : (ops[j]?).bind (·.dst) = some g) (hgv : Wants l g b c) (hd : o.dst = some d) (hdn : Nat.blt d n.n = true)
    (hv : c = true → ∀ w, Ext w1 w → QCall P l w1 w o V) (k : ∀ a', Fr n ((d, gw c V) :: l) a' → wpQuiet P ops (Ext w1) F rest a') : wpQuiet P ops (Ext w1) F (o :: rest) a := by
  obtain ⟨U, hU, hc⟩ := hgv
  have hw := wanted_val h hg hj hU
  rw [hc] at hw
  cases c with
  | true => exact q_gen h hd hdn hw (fun w hw => hv rfl w hw n a h) k
  | false => exact q_skip h hd hdn hw k
theorem q_gdb {j g : Nat} {b c B : Bool} (h : Fr n l a) (hg : o.guard = some (j, b)) (hj : (ops[j]?).bind (·.dst) = some g) (hgv : Wants l g b c) (hd : o.dst = some d) (hdn : Nat.blt d n.n = true)
    (hv : c = true → ∀ w, Ext w1 w → QCall P l w1 w o (.bool B)) (k : ∀ r, r = B → ∀ a', Fr n ((d, gw c (.bool r)) :: l) a' → wpQuiet P ops (Ext w1) F rest a') : wpQuiet P ops (Ext w1) F (o :: rest) a :=
  q_gd h hg hj hgv hd hdn hv (k B rfl)

/-! ### elements -/
variable {x y : Operand} {t ty : TypeId} {pos : String} {af : Array Edge} {gd : Option (Nat × Bool)} {e : TypeId} {k : IntKind} {p : Int} {α : Type} {enc : α → List Value} {sz : Nat} {data : List α}

/-- The address of an element: one value, whatever the memory behind. -/
theorem idx_val (c : Bool) (ht : P.underlying t = some (.slice e)) (hs : ∀ w, (sizeOf e).run P w = .ok sz w) (hx : c = true → ev l x = some V) (hy : c = true → ev l y = some (.int k p))
    (hr : Reads w V sz enc data) (henc : ∀ a, (enc a).length = sz) (da : α) (hp : c = true → 0 ≤ p) (hda : c = true → data[p.toNat]? = some da) :
    ∃ V', (c = true → ∀ w', Val P l w' ⟨some dn, .indexAddr t x y, ty, pos, af, gd⟩ V') ∧ (c = true → At w V' enc da 0) := by
  rcases hr with ⟨hv, hd0⟩ | ⟨g, o, cap, cs, e', fz, hv, hg, hc⟩
  · refine ⟨undef, fun hct => ?_, fun hct => ?_⟩ <;> · have := hda hct; rw [hd0] at this; simp at this
  · subst hv
    refine ⟨.pointer (some ⟨g, o + p.toNat * sz, none⟩), fun hct w' n a h => ?_, fun hct => ⟨g, _, cs, e', fz, rfl, hg, fun i u hu => ?_⟩⟩
    · have hlt : p.toNat < data.length := (List.getElem?_eq_some_iff.1 (hda hct)).1
      have e1 : execOp a.eval ⟨some dn, .indexAddr t x y, ty, pos, af, gd⟩ = Instr.indexAt t (a.eval x) (a.eval y) >>= fun v => pure (.value v) := rfl
      rw [e1, h.ev (hx hct), h.ev (hy hct)]
      have hp := hp hct
      have h2 : p < (data.length : Int) := by omega
      simp [Instr.indexAt, asIntOf, run_underlying ht, hp, h2, hs, Addr.add_lit]
    · rw [Nat.zero_add] at hu
      rw [Nat.add_assoc]
      refine hc _ u ?_
      have hi : i < sz := by
        have := (List.getElem?_eq_some_iff.1 hu).1
        rwa [henc] at this
      rw [flatMap_get enc sz henc data p.toNat i da (hda hct) hi]
      exact hu
theorem field_val {da : α} {j : Nat} {fs : Array Field} {f : Field} {i kz j' : Nat} (c : Bool) (hx : c = true → ev l x = some V) (hA : c = true → At w V enc da j) (hu : P.underlying t = some (.struct fs)) (hf : fs.toList[i]? = some f)
    (hs : ∀ w, (sizeOf f.type).run P w = .ok kz w) (hk : Nat.ble 1 kz = true) (hj : j + f.offset = j') :
    ∃ V', (c = true → ∀ w', Val P l w' ⟨some dn, .fieldAddr t x i, ty, pos, af, gd⟩ V') ∧ (c = true → At w V' enc da j') := by
  cases c with
  | false => exact ⟨undef, (fun h => by simp at h), (fun h => by simp at h)⟩
  | true =>
    obtain ⟨g, o, cs, e', fz, rfl, h2, h3⟩ := hA rfl
    refine ⟨.pointer (some ⟨g, o + f.offset, none⟩), fun _ w' => v_fieldAddr (hx rfl) hu hf hs hk rfl, fun _ => ⟨g, _, cs, e', fz, rfl, h2, fun m u hu => ?_⟩⟩
    rw [Nat.add_assoc]
    refine h3 _ u ?_
    rw [← hj] at hu
    rw [← hu]
    congr 1
    omega

theorem AtG.ext {c : Bool} {w w' : World} {da : α} {j : Nat} (h : c = true → At w V enc da j) (X : Ext w w') : c = true → At w' V enc da j := fun hc => (h hc).ext X

/-- An element's address behind a guard, in a region whose order stands. -/
theorem st_idxG {j g : Nat} {b c : Bool} (h : Fr n l a) (hj : (ops[j]?).bind (·.dst) = some g) (hgv : Wants l g b c) (ht : P.underlying t = some (.slice e)) (hs : ∀ w, (sizeOf e).run P w = .ok sz w) (hx : c = true → ev l x = some V) (hy : c = true → ev l y = some (.int k p))
    (hr : Reads w V sz enc data) (henc : ∀ a, (enc a).length = sz) (da : α) (hp : c = true → 0 ≤ p) (hda : c = true → data[p.toNat]? = some da) (hd : Nat.blt dn n.n = true)
    (kk : ∀ a' V', (c = true → At w V' enc da 0) → Fr n ((dn, gw c V') :: l) a' → wpList P ops Q rest a' w) :
    wpList P ops Q (⟨some dn, .indexAddr t x y, ty, pos, af, some (j, b)⟩ :: rest) a w := by
  obtain ⟨V', h1, h2⟩ := idx_val (P := P) (l := l) (dn := dn) (ty := ty) (pos := pos) (af := af) (gd := some (j, b)) c ht hs hx hy hr henc da hp hda
  exact st_g h rfl hj hgv rfl hd (fun hc => h1 hc w) (fun a' h' => kk a' V' h2 h')
theorem st_fieldG {j g : Nat} {b c : Bool} {da : α} {jo : Nat} {fs : Array Field} {f : Field} {i kz j' : Nat} (h : Fr n l a) (hj : (ops[j]?).bind (·.dst) = some g) (hgv : Wants l g b c) (hx : c = true → ev l x = some V) (hA : c = true → At w V enc da jo) (hu : P.underlying t = some (.struct fs)) (hf : fs.toList[i]? = some f)
    (hs : ∀ w, (sizeOf f.type).run P w = .ok kz w) (hk : Nat.ble 1 kz = true) (hjj : jo + f.offset = j') (hd : Nat.blt dn n.n = true)
    (kk : ∀ a' V', (c = true → At w V' enc da j') → Fr n ((dn, gw c V') :: l) a' → wpList P ops Q rest a' w) :
    wpList P ops Q (⟨some dn, .fieldAddr t x i, ty, pos, af, some (j, b)⟩ :: rest) a w := by
  obtain ⟨V', h1, h2⟩ := field_val (P := P) (l := l) (dn := dn) (ty := ty) (pos := pos) (af := af) (gd := some (j, b)) c hx hA hu hf hs hk hjj
  exact st_g h rfl hj hgv rfl hd (fun hc => h1 hc w) (fun a' h' => kk a' V' h2 h')

/-- The same where the region draws its order. -/
theorem q_idx (h : Fr n l a) (ht : P.underlying t = some (.slice e)) (hs : ∀ w, (sizeOf e).run P w = .ok sz w) (hx : ev l x = some V) (hy : ev l y = some (.int k p))
    (hr : Reads w V sz enc data) (henc : ∀ a, (enc a).length = sz) (da : α) (hp : 0 ≤ p) (hda : data[p.toNat]? = some da) (hd : Nat.blt dn n.n = true)
    (kk : ∀ a' V', At w V' enc da 0 → Fr n ((dn, V') :: l) a' → wpQuiet P ops C F rest a') :
    wpQuiet P ops C F (⟨some dn, .indexAddr t x y, ty, pos, af, none⟩ :: rest) a := by
  obtain ⟨V', h1, h2⟩ := idx_val (P := P) (l := l) (dn := dn) (ty := ty) (pos := pos) (af := af) (gd := none) true ht hs (fun _ => hx) (fun _ => hy) hr henc da (fun _ => hp) (fun _ => hda)
  exact q1 h rfl rfl hd (fun w _ => h1 rfl w) (fun a' h' => kk a' V' (h2 rfl) h')
theorem q_field {da : α} {jo : Nat} {fs : Array Field} {f : Field} {i kz j' : Nat} (h : Fr n l a) (hx : ev l x = some V) (hA : At w V enc da jo) (hu : P.underlying t = some (.struct fs)) (hf : fs.toList[i]? = some f)
    (hs : ∀ w, (sizeOf f.type).run P w = .ok kz w) (hk : Nat.ble 1 kz = true) (hjj : jo + f.offset = j') (hd : Nat.blt dn n.n = true)
    (kk : ∀ a' V', At w V' enc da j' → Fr n ((dn, V') :: l) a' → wpQuiet P ops C F rest a') :
    wpQuiet P ops C F (⟨some dn, .fieldAddr t x i, ty, pos, af, none⟩ :: rest) a := by
  obtain ⟨V', h1, h2⟩ := field_val (P := P) (l := l) (dn := dn) (ty := ty) (pos := pos) (af := af) (gd := none) true (fun _ => hx) (fun _ => hA) hu hf hs hk hjj
  exact q1 h rfl rfl hd (fun w _ => h1 rfl w) (fun a' h' => kk a' V' (h2 rfl) h')
theorem q_idxG {j g : Nat} {b c : Bool} (h : Fr n l a) (hj : (ops[j]?).bind (·.dst) = some g) (hgv : Wants l g b c) (ht : P.underlying t = some (.slice e)) (hs : ∀ w, (sizeOf e).run P w = .ok sz w) (hx : c = true → ev l x = some V) (hy : c = true → ev l y = some (.int k p))
    (hr : Reads w V sz enc data) (henc : ∀ a, (enc a).length = sz) (da : α) (hp : c = true → 0 ≤ p) (hda : c = true → data[p.toNat]? = some da) (hd : Nat.blt dn n.n = true)
    (kk : ∀ a' V', (c = true → At w V' enc da 0) → Fr n ((dn, gw c V') :: l) a' → wpQuiet P ops C F rest a') :
    wpQuiet P ops C F (⟨some dn, .indexAddr t x y, ty, pos, af, some (j, b)⟩ :: rest) a := by
  obtain ⟨V', h1, h2⟩ := idx_val (P := P) (l := l) (dn := dn) (ty := ty) (pos := pos) (af := af) (gd := some (j, b)) c ht hs hx hy hr henc da hp hda
  exact q_g h rfl hj hgv rfl hd (fun hc w _ => h1 hc w) (fun a' h' => kk a' V' h2 h')
theorem q_fieldG {j g : Nat} {b c : Bool} {da : α} {jo : Nat} {fs : Array Field} {f : Field} {i kz j' : Nat} (h : Fr n l a) (hj : (ops[j]?).bind (·.dst) = some g) (hgv : Wants l g b c) (hx : c = true → ev l x = some V) (hA : c = true → At w V enc da jo) (hu : P.underlying t = some (.struct fs)) (hf : fs.toList[i]? = some f)
    (hs : ∀ w, (sizeOf f.type).run P w = .ok kz w) (hk : Nat.ble 1 kz = true) (hjj : jo + f.offset = j') (hd : Nat.blt dn n.n = true)
    (kk : ∀ a' V', (c = true → At w V' enc da j') → Fr n ((dn, gw c V') :: l) a' → wpQuiet P ops C F rest a') :
    wpQuiet P ops C F (⟨some dn, .fieldAddr t x i, ty, pos, af, some (j, b)⟩ :: rest) a := by
  obtain ⟨V', h1, h2⟩ := field_val (P := P) (l := l) (dn := dn) (ty := ty) (pos := pos) (af := af) (gd := some (j, b)) c hx hA hu hf hs hk hjj
  exact q_g h rfl hj hgv rfl hd (fun hc w _ => h1 hc w) (fun a' h' => kk a' V' h2 h')
end
end Go.Stp
