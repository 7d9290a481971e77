/- What the functions of package lex compute, in plain words: on lists of bytes. -/
import Derived.Test.YtdepoohfljaogaaDoorStpE
import Derived.Lib.Fields
import Derived.Lib.Strings
set_option linter.unusedSimpArgs false
set_option linter.unusedVariables false
set_option linter.unusedSectionVars false
namespace Go.LexP
open Go.Stp

def isWord (c : Int) : Bool := ((((decide (65 ≤ c) && decide (c ≤ 90)) || (decide (48 ≤ c) && decide (c ≤ 57))) || decide (c = 36)) || decide (c = 33)) || decide (c = 95)
def isDig (c : Int) : Bool := (decide (48 ≤ c) && decide (c ≤ 57)) || decide (c = 46)

def runL (p : Int → Bool) (l : List UInt8) : Int := ((l.takeWhile (fun b => p b.toNat)).length : Int)

theorem bt_at (l : List UInt8) (i : Int) (h : 0 ≤ i ∧ i < l.length) : ∃ b, l[i.toNat]? = some b ∧ bt l i = (b.toNat : Int) := by
  have hlt : i.toNat < l.length := by omega
  exact ⟨l[i.toNat], List.getElem?_eq_getElem hlt, by simp [bt, List.getD, List.getElem?_eq_getElem hlt]⟩

theorem all_step (l : List UInt8) (p : Int → Bool) (i : Int) (h : 0 ≤ i ∧ i < l.length) (hpre : (l.take i.toNat).all (fun b => p b.toNat) = true) (hb : p (bt l i) = true) : (l.take (i + 1).toNat).all (fun b => p b.toNat) = true := by
  obtain ⟨b, h1, h2⟩ := bt_at l i h
  have e : (i + 1).toNat = i.toNat + 1 := by omega
  rw [e, List.take_add_one, h1]
  rw [h2] at hb
  simp only [Option.toList_some, List.all_append, hpre, Bool.true_and, List.all_cons, List.all_nil, Bool.and_true]
  exact hb
theorem takeWhile_of_take {α : Type} (q : α → Bool) : ∀ (l : List α) (n : Nat), (l.take n).all q = true → (∀ b, l[n]? = some b → q b = false) → n ≤ l.length → l.takeWhile q = l.take n
  | [], n, _, _, h => by simp at h; subst h; rfl
  | a :: l, 0, _, hb, _ => by
    have := hb a (by simp)
    simp [List.takeWhile, this]
  | a :: l, n + 1, hp, hb, hn => by
    simp only [List.take_succ_cons, List.all_cons, Bool.and_eq_true] at hp
    simp only [List.takeWhile, hp.1, List.take_succ_cons]
    rw [takeWhile_of_take q l n hp.2 (fun b h => hb b (by simpa using h)) (by simp at hn; omega)]
theorem run_stop (l : List UInt8) (p : Int → Bool) (i : Int) (h : 0 ≤ i ∧ i < l.length) (hpre : (l.take i.toNat).all (fun b => p b.toNat) = true) (hb : p (bt l i) = false) : i = runL p l := by
  obtain ⟨b, h1, h2⟩ := bt_at l i h
  unfold runL
  rw [takeWhile_of_take _ l i.toNat hpre (fun b' hb' => by rw [h1] at hb'; cases hb'; rw [← h2]; exact hb) (by omega)]
  simp
  omega
theorem run_end (l : List UInt8) (p : Int → Bool) (i : Int) (h : 0 ≤ i ∧ i = l.length) (hpre : (l.take i.toNat).all (fun b => p b.toNat) = true) : (l.length : Int) = runL p l := by
  unfold runL
  rw [takeWhile_of_take _ l i.toNat hpre (fun b' hb' => by rw [List.getElem?_eq_none (by omega)] at hb'; cases hb') (by omega)]
  simp
  omega

/-- What a text between marks says, and how many bytes it takes, from a place on; (nothing, 0): it has no end. -/
def txtFrom : List UInt8 → List UInt8 → Int → List UInt8 × Int
  | [], _, _ => ([], 0)
  | 34 :: 34 :: r, o, i => txtFrom r (o ++ [34]) (i + 2)
  | 34 :: _, o, i => (o, i + 1)
  | c :: r, o, i => txtFrom r (o ++ [c]) (i + 1)
def txt (l : List UInt8) : List UInt8 × Int := txtFrom (l.drop 1) [] 1

theorem drop_at (l : List UInt8) (i : Int) (h : 0 ≤ i ∧ i < l.length) : ∃ b, l.drop i.toNat = b :: l.drop (i + 1).toNat ∧ bt l i = (b.toNat : Int) := by
  obtain ⟨b, h1, h2⟩ := bt_at l i h
  refine ⟨b, ?_, h2⟩
  have e : (i + 1).toNat = i.toNat + 1 := by omega
  have hlt : i.toNat < l.length := by omega
  rw [e, List.drop_eq_getElem_cons hlt]
  rw [List.getElem?_eq_getElem hlt] at h1
  rw [Option.some.inj h1]
theorem u8_of_int {b : UInt8} {n : Nat} (hn : n < 256) (h : (b.toNat : Int) = n) : b = UInt8.ofNat n := by
  apply UInt8.toNat_inj.1
  simp
  omega
theorem cutS_one (l : List UInt8) (i : Int) (h : 0 ≤ i ∧ i < l.length) : cutS l i (i + 1) = [UInt8.ofNat (bt l i).toNat] := by
  obtain ⟨b, h1, h2⟩ := bt_at l i h
  have e : (i + 1).toNat = i.toNat + 1 := by omega
  have hlt : i.toNat < l.length := by omega
  unfold cutS
  rw [e, List.take_add_one, h1, List.drop_append]
  simp [h2, Nat.min_eq_left (Nat.le_of_lt hlt)]
theorem txt_none (l : List UInt8) (i : Int) (o : List UInt8) (h : (l.length : Int) ≤ i) : txtFrom (l.drop i.toNat) o i = ([], 0) := by
  rw [List.drop_eq_nil_of_le (by omega)]
  rfl
theorem txtFrom_other (c : UInt8) (r o : List UInt8) (i : Int) (h : c ≠ 34) : txtFrom (c :: r) o i = txtFrom r (o ++ [c]) (i + 1) := by
  cases r with
  | nil => rw [txtFrom.eq_def]; split <;> simp_all
  | cons d r => rw [txtFrom.eq_def]; split <;> simp_all
theorem txt_other (l : List UInt8) (i : Int) (o : List UInt8) (h : 0 ≤ i ∧ i < l.length) (hb : bt l i ≠ 34) : txtFrom (l.drop i.toNat) o i = txtFrom (l.drop (i + 1).toNat) (o ++ [UInt8.ofNat (bt l i).toNat]) (i + 1) := by
  obtain ⟨b, h1, h2⟩ := drop_at l i h
  rw [h1, txtFrom_other b _ o i (fun e => hb (by rw [h2, e]; rfl))]
  simp [h2]
theorem txt_two (l : List UInt8) (i : Int) (o : List UInt8) (h : 0 ≤ i ∧ i + 1 < l.length) (hb : bt l i = 34) (hb2 : bt l (i + 1) = 34) : txtFrom (l.drop i.toNat) o i = txtFrom (l.drop (i + 2).toNat) (o ++ [34]) (i + 2) := by
  obtain ⟨b, h1, h2⟩ := drop_at l i (by omega)
  obtain ⟨b', h1', h2'⟩ := drop_at l (i + 1) (by omega)
  have e1 : b = 34 := u8_of_int (n := 34) (by omega) (by omega)
  have e2 : b' = 34 := u8_of_int (n := 34) (by omega) (by omega)
  have e3 : i + 1 + 1 = i + 2 := by omega
  rw [h1, h1', e1, e2, e3]
  rfl
theorem txt_end (l : List UInt8) (i : Int) (o : List UInt8) (h : 0 ≤ i ∧ i < l.length) (hb : bt l i = 34) (hb2 : ¬ (i + 1 < l.length ∧ bt l (i + 1) = 34)) : txtFrom (l.drop i.toNat) o i = (o, i + 1) := by
  obtain ⟨b, h1, h2⟩ := drop_at l i (by omega)
  have e1 : b = 34 := u8_of_int (n := 34) (by omega) (by omega)
  rw [h1, e1]
  cases hd : l.drop (i + 1).toNat with
  | nil => rfl
  | cons d r =>
    have hlt : i + 1 < l.length := by
      have := congrArg List.length hd
      simp at this
      omega
    obtain ⟨b', h1', h2'⟩ := drop_at l (i + 1) (by omega)
    rw [hd] at h1'
    simp only [List.cons.injEq] at h1'
    have hne : d ≠ 34 := fun e => hb2 ⟨hlt, by rw [h2', ← h1'.1, e]; rfl⟩
    rw [txtFrom.eq_def]
    split <;> simp_all

/-- A token's text, as the statements write it. -/
def dbl (l : List UInt8) : List UInt8 := l.flatMap fun c => if c = 34 then [34, 34] else [c]
def quote (k : Int) (s : List UInt8) : List UInt8 := if k = 2 then 34 :: dbl s ++ [34] else s
theorem dbl_len : ∀ l : List UInt8, (dbl l).length ≤ 2 * l.length
  | [] => by simp [dbl]
  | c :: r => by
    have ih := dbl_len r
    unfold dbl at ih ⊢
    rw [List.flatMap_cons, List.length_append, List.length_cons]
    split
    · have : [(34 : UInt8), 34].length = 2 := rfl
      omega
    · have : [c].length = 1 := rfl
      omega
theorem dbl_append (a b : List UInt8) : dbl (a ++ b) = dbl a ++ dbl b := by simp [dbl]
theorem dbl_step (l : List UInt8) (i : Int) (h : 0 ≤ i ∧ i < l.length) : dbl (l.take (i + 1).toNat) = dbl (l.take i.toNat) ++ (if bt l i = 34 then [34] else []) ++ [UInt8.ofNat (bt l i).toNat] := by
  obtain ⟨b, h1, h2⟩ := bt_at l i h
  have e : (i + 1).toNat = i.toNat + 1 := by omega
  rw [e, List.take_add_one, h1, Option.toList_some, dbl_append, h2]
  by_cases hb : b = 34
  · subst hb
    simp [dbl]
  · have : ¬ ((b.toNat : Int) = 34) := fun e => hb (u8_of_int (n := 34) (by omega) (by omega))
    simp [dbl, hb, this]

/-! ### the texts of errors and signs -/
def namesC : List UInt8 := [35, 68, 73, 86, 47, 48, 33, 32, 35, 86, 65, 76, 85, 69, 33, 32, 35, 82, 69, 70, 33, 32, 35, 78, 65, 77, 69, 63, 32, 35, 78, 85, 77, 33, 32, 35, 78, 47, 65, 32, 35, 67, 89, 67, 76, 69, 33]
def signsC : List UInt8 := [60, 62, 32, 60, 61, 32, 62, 61, 32, 43, 32, 45, 32, 42, 32, 47, 32, 38, 32, 61, 32, 60, 32, 62, 32, 37, 32, 40, 32, 41, 32, 44, 32, 58]
def enames : List (List UInt8) := [[35, 68, 73, 86, 47, 48, 33], [35, 86, 65, 76, 85, 69, 33], [35, 82, 69, 70, 33], [35, 78, 65, 77, 69, 63], [35, 78, 85, 77, 33], [35, 78, 47, 65], [35, 67, 89, 67, 76, 69, 33]]
def signs : List (List UInt8) := [[60, 62], [60, 61], [62, 61], [43], [45], [42], [47], [38], [61], [60], [62], [37], [40], [41], [44], [58]]
theorem fields_names : Lib.fields namesC = enames := by decide
theorem fields_signs : Lib.fields signsC = signs := by decide
def errName (c : Int) : List UInt8 := if 1 ≤ c ∧ c ≤ 7 then enames.getD (c - 1).toNat [] else []

/-! ### tokens -/
structure Tok where
  k : Int
  s : List UInt8
  pos : Int
def tokE (t : Tok) : List Value := [.int .i64 t.k, S t.s, .int .i64 t.pos]

/-- The token that a text begins with: its kind, what it says, how many bytes it takes; (0, nothing, 0): none. -/
def one (l : List UInt8) : Int × List UInt8 × Int :=
  if (48 ≤ bt l 0 ∧ bt l 0 ≤ 57) ∨ bt l 0 = 46 then (1, cutS l 0 (runL isDig l), runL isDig l)
  else if bt l 0 = 34 then (2, (txt l).1, (txt l).2)
  else if bt l 0 = 35 then (match enames.find? (fun x => Lib.hasPrefix l x) with | some x => (5, x, (x.length : Int)) | none => (0, [], 0))
  else if isWord (bt l 0) = true ∧ bt l 0 ≠ 33 then (3, cutS l 0 (runL isWord l), runL isWord l)
  else (match signs.find? (fun x => Lib.hasPrefix l x) with | some x => (4, x, (x.length : Int)) | none => (0, [], 0))

theorem find_hit {α : Type} (q : α → Bool) : ∀ (l : List α) (n : Nat) (x : α), (l.take n).find? q = none → l[n]? = some x → q x = true → l.find? q = some x
  | [], n, x, _, h, _ => by simp at h
  | a :: l, 0, x, _, h, hq => by
    simp at h
    subst h
    simp [hq]
  | a :: l, n + 1, x, h1, h, hq => by
    simp only [List.take_succ_cons, List.find?_cons] at h1
    split at h1
    · cases h1
    · rename_i hn
      rw [List.find?_cons, hn]
      exact find_hit q l n x h1 (by simpa using h) hq
theorem find_step {α : Type} (q : α → Bool) (l : List α) (n : Nat) (x : α) (h1 : (l.take n).find? q = none) (h : l[n]? = some x) (hq : q x = false) : (l.take (n + 1)).find? q = none := by
  rw [List.take_add_one, h, List.find?_append, h1]
  simp [hq]
theorem find_all {α : Type} (q : α → Bool) (l : List α) (n : Nat) (h1 : (l.take n).find? q = none) (h : l.length ≤ n) : l.find? q = none := by
  rwa [List.take_of_length_le h] at h1

/-- A text's tokens, from a place on. -/
inductive Lexes : List UInt8 → Int → List Tok → Prop
  | nil (i : Int) : Lexes [] i []
  | blank (r : List UInt8) (i : Int) (ts : List Tok) (h : Lexes r (i + 1) ts) : Lexes (32 :: r) i ts
  | tok (l : List UInt8) (i : Int) (ts : List Tok) (hne : l ≠ []) (hb : bt l 0 ≠ 32) (hn : (one l).2.2 ≠ 0) (h : Lexes (l.drop (one l).2.2.toNat) (i + (one l).2.2) ts) : Lexes l i (⟨(one l).1, (one l).2.1, i⟩ :: ts)
/-- A text that has a place where no token begins. -/
inductive Fails : List UInt8 → Int → Int → Prop
  | blank (r : List UInt8) (i p : Int) (h : Fails r (i + 1) p) : Fails (32 :: r) i p
  | tok (l : List UInt8) (i p : Int) (hne : l ≠ []) (hb : bt l 0 ≠ 32) (hn : (one l).2.2 ≠ 0) (h : Fails (l.drop (one l).2.2.toNat) (i + (one l).2.2) p) : Fails l i p
  | here (l : List UInt8) (i : Int) (hne : l ≠ []) (hb : bt l 0 ≠ 32) (hn : (one l).2.2 = 0) : Fails l i i

theorem cutS_drop (l : List UInt8) (i : Int) : cutS l i l.length = l.drop i.toNat := by simp [cutS]
theorem bt_drop (l : List UInt8) (i : Int) (h : 0 ≤ i) : bt (l.drop i.toNat) 0 = bt l i := by simp [bt, List.getD]
theorem lex_blank {l : List UInt8} {i : Int} (h : 0 ≤ i ∧ i < l.length) (hb : bt l i = 32) : l.drop i.toNat = 32 :: l.drop (i + 1).toNat := by
  obtain ⟨b, h1, h2⟩ := drop_at l i h
  have : b = 32 := u8_of_int (n := 32) (by omega) (by omega)
  rw [h1, this]

/-- What lex.All hands back. -/
def AllOut (l : List UInt8) (v : Value) (w : World) : Prop :=
  (200 < l.length ∧ v = .tuple #[.slice none 0 0, .int .i64 0, .int .i64 4]) ∨
  (l.length ≤ 200 ∧ ∃ ts sv, Lexes l 0 ts ∧ v = .tuple #[sv, .int .i64 0, .int .i64 0] ∧ Reads w sv 3 tokE ts) ∨
  (l.length ≤ 200 ∧ ∃ p, Fails l 0 p ∧ v = .tuple #[.slice none 0 0, .int .i64 p, .int .i64 1])

theorem takeWhile_len {α : Type} (q : α → Bool) (l : List α) : (l.takeWhile q).length ≤ l.length := (List.takeWhile_prefix q).length_le
theorem runL_bd (p : Int → Bool) (l : List UInt8) : 0 ≤ runL p l ∧ runL p l ≤ l.length := by
  unfold runL
  have := takeWhile_len (fun b : UInt8 => p b.toNat) l
  omega
theorem runL_pos (p : Int → Bool) (l : List UInt8) (h : l ≠ []) (hp : p (bt l 0) = true) : 1 ≤ runL p l := by
  cases l with
  | nil => exact absurd rfl h
  | cons c r =>
    have hc : p c.toNat = true := by simpa [bt] using hp
    simp [runL, List.takeWhile, hc]
    omega
theorem txtFrom_bd : ∀ (l o : List UInt8) (i : Int), 0 ≤ i → (txtFrom l o i).2 = 0 ∨ (i < (txtFrom l o i).2 ∧ (txtFrom l o i).2 ≤ i + l.length) := by
  intro l o i
  induction l, o, i using txtFrom.induct with
  | case1 o i => intro _; exact .inl rfl
  | case2 o i r ih =>
    intro h
    rw [txtFrom]
    rcases ih (by omega) with h1 | h1
    · exact .inl h1
    · right
      simp only [List.length_cons]
      omega
  | case3 o i r hr =>
    intro h
    right
    rw [txtFrom.eq_def]
    split <;> simp_all
    all_goals omega
  | case4 c r o i hc1 hc2 ih =>
    intro h
    have e : txtFrom (c :: r) o i = txtFrom r (o ++ [c]) (i + 1) := txtFrom_other c r o i (fun e => by subst e; exact hc2 rfl)
    rw [e]
    rcases ih (by omega) with h1 | h1
    · exact .inl h1
    · right
      simp only [List.length_cons]
      omega
theorem txt_bd (l : List UInt8) (h : l ≠ []) : 0 ≤ (txt l).2 ∧ (txt l).2 ≤ l.length := by
  have := txtFrom_bd (l.drop 1) [] 1 (by omega)
  have hl : 1 ≤ l.length := by cases l with | nil => exact absurd rfl h | cons a b => simp
  simp only [List.length_drop] at this
  unfold txt
  omega
theorem prefix_len (l x : List UInt8) (h : Lib.hasPrefix l x = true) : x.length ≤ l.length := by
  have h2 : x <+: l := by
    simpa [Lib.hasPrefix] using h
  exact h2.length_le
theorem one_bd (l : List UInt8) (h : l ≠ []) : 0 ≤ (one l).2.2 ∧ (one l).2.2 ≤ l.length := by
  unfold one
  split
  · exact runL_bd _ _
  · split
    · exact txt_bd l h
    · split
      · split
        · rename_i x hx
          have := prefix_len l x (by simpa using List.find?_some hx)
          simp only
          omega
        · simp
      · split
        · exact runL_bd _ _
        · split
          · rename_i x hx
            have := prefix_len l x (by simpa using List.find?_some hx)
            simp only
            omega
          · simp
end Go.LexP
