/- The plain laws of the tokens: the parts of a text, and a text joined again. -/
import Derived.Test.YtdepoohfljaogaaDoorLexLawB
set_option linter.unusedSimpArgs false
set_option linter.unusedVariables false
set_option linter.unusedSectionVars false
namespace Go.LexP
open Go.Stp

theorem drop_tok (ts : List Tok) (i : Int) (h : 0 ≤ i ∧ i < ts.length) : ∃ t, ts[i.toNat]? = some t ∧ ts.drop i.toNat = t :: ts.drop (i + 1).toNat := by
  have hlt : i.toNat < ts.length := by omega
  have e : (i + 1).toNat = i.toNat + 1 := by omega
  exact ⟨ts[i.toNat], List.getElem?_eq_getElem hlt, by rw [e, List.drop_eq_getElem_cons hlt]⟩
theorem drop_more (l : List UInt8) (k m : Int) (hk : 0 ≤ k) (hm : 0 ≤ m) : (l.drop k.toNat).drop m.toNat = l.drop (k + m).toNat := by
  rw [List.drop_drop]
  congr 1
  omega
theorem blank_at {s r : List UInt8} {k : Int} (hk : 0 ≤ k ∧ k < s.length) (h : s.drop k.toNat = 32 :: r) : bt s k = 32 ∧ r = s.drop (k + 1).toNat := by
  obtain ⟨b, h1, h2⟩ := drop_at s k hk
  rw [h] at h1
  simp only [List.cons.injEq] at h1
  exact ⟨by rw [h2, ← h1.1]; rfl, h1.2⟩
theorem part_blank {s : List UInt8} {k : Int} {t : Tok} {ts : List Tok} (h : Lexes (s.drop k.toNat) k (t :: ts)) (hk : 0 ≤ k ∧ k < s.length) (ht : k < t.pos) : bt s k = 32 ∧ Lexes (s.drop (k + 1).toNat) (k + 1) (t :: ts) := by
  rcases lexes_step h with ⟨_, r, h1, h2⟩ | ⟨h1, _⟩
  · obtain ⟨h3, rfl⟩ := blank_at hk h1
    exact ⟨h3, h2⟩
  · omega
theorem part_end {s : List UInt8} {k : Int} (h : Lexes (s.drop k.toNat) k []) (hk : 0 ≤ k ∧ k < s.length) : bt s k = 32 ∧ Lexes (s.drop (k + 1).toNat) (k + 1) [] := by
  rcases lexes_end h with h1 | ⟨r, h1, h2⟩
  · have := congrArg List.length h1
    simp at this
    omega
  · obtain ⟨h3, rfl⟩ := blank_at hk h1
    exact ⟨h3, h2⟩
theorem part_tok {s : List UInt8} {k : Int} {t : Tok} {ts : List Tok} (h : Lexes (s.drop k.toNat) k (t :: ts)) (hk : 0 ≤ k ∧ k ≤ s.length) (ht : ¬ (k < t.pos ∧ k < s.length)) :
    1 ≤ t.k ∧ t.k ≤ 5 ∧ k + (quote t.k t.s).length ≤ s.length ∧ cutS s k (k + (quote t.k t.s).length) = quote t.k t.s ∧ Lexes (s.drop (k + (quote t.k t.s).length).toNat) (k + (quote t.k t.s).length) ts ∧ t.s.length ≤ s.length := by
  rcases lexes_step h with ⟨h1, r, h2, _⟩ | ⟨_, hne, _, n, h1, hn, h2⟩
  · have : k < s.length := by
      have := congrArg List.length h2
      simp at this
      omega
    omega
  · obtain ⟨a, b, c, ⟨r, hr⟩, _⟩ := one_said h1 hn hne
    have hl := congrArg List.length hr
    simp only [List.length_drop, List.length_append] at hl
    have hq := quote_ge t.k t.s
    refine ⟨a, b, by omega, ?_, ?_, by omega⟩
    · unfold cutS
      have e : (k + (quote t.k t.s).length : Int).toNat = k.toNat + (quote t.k t.s).length := by omega
      rw [e, ← List.take_drop, hr, List.take_left]
    · rw [drop_more _ _ _ hk.1 (by omega), c] at h2
      exact h2

/-! ### joined -/
def joined (ts : List Tok) : List UInt8 := ts.flatMap fun t => quote t.k t.s ++ [32]
theorem joined_app (a b : List Tok) : joined (a ++ b) = joined a ++ joined b := by simp [joined]
theorem join_step (ts : List Tok) (i : Int) (h : 0 ≤ i) {t : Tok} (ht : ts[i.toNat]? = some t) : joined (ts.take (i + 1).toNat) = joined (ts.take i.toNat) ++ (quote t.k t.s ++ [32]) := by
  have e : (i + 1).toNat = i.toNat + 1 := by omega
  rw [e, List.take_add_one, ht, joined_app]
  simp [joined]
theorem join_le (ts : List Tok) (n : Nat) : (joined (ts.take n)).length ≤ (joined ts).length := by
  have := congrArg (fun l => (joined l).length) (List.take_append_drop n ts)
  simp only [joined_app, List.length_append] at this
  omega
theorem lexes_join_len {l : List UInt8} {i : Int} {ts : List Tok} (h : Lexes l i ts) : (joined ts).length ≤ 2 * l.length := by
  induction h with
  | nil i => simp [joined]
  | blank r i ts h ih => simp; omega
  | tok l i ts hne hb hn h ih =>
    obtain ⟨_, _, c, ⟨r, hr⟩, _⟩ := one_said (l := l) (k := (one l).1) (x := (one l).2.1) (n := (one l).2.2) rfl hn hne
    have hl := congrArg List.length hr
    rw [List.length_append] at hl
    rw [List.length_drop] at ih
    have e : (joined (⟨(one l).1, (one l).2.1, i⟩ :: ts)).length = (quote (one l).1 (one l).2.1).length + 1 + (joined ts).length := by simp [joined]; omega
    rw [e]
    omega
theorem lexes_len {l : List UInt8} {i : Int} {ts : List Tok} (h : Lexes l i ts) : ts.length ≤ l.length := by
  induction h with
  | nil i => simp
  | blank r i ts h ih => simp; omega
  | tok l i ts hne hb hn h ih =>
    have := one_bd l hne
    rw [List.length_drop] at ih
    have hl : 0 < l.length := by cases l with | nil => exact absurd rfl hne | cons c r => simp
    simp
    omega
def retok : Int → List Tok → List Tok
  | _, [] => []
  | i, t :: ts => ⟨t.k, t.s, i⟩ :: retok (i + (quote t.k t.s).length + 1) ts
theorem retok_len : ∀ (ts : List Tok) (i : Int), (retok i ts).length = ts.length
  | [], i => rfl
  | t :: ts, i => by simp [retok, retok_len ts]
theorem retok_get : ∀ (ts : List Tok) (i : Int) (n : Nat) (t : Tok), ts[n]? = some t → ∃ p, (retok i ts)[n]? = some ⟨t.k, t.s, p⟩
  | [], i, n, t, h => by simp at h
  | a :: ts, i, 0, t, h => by
    simp at h
    subst h
    exact ⟨i, rfl⟩
  | a :: ts, i, n + 1, t, h => by
    obtain ⟨p, hp⟩ := retok_get ts (i + (quote a.k a.s).length + 1) n t (by simpa using h)
    exact ⟨p, by simpa [retok] using hp⟩
theorem rejoin {l : List UInt8} {i0 : Int} {ts : List Tok} (h : Lexes l i0 ts) : ∀ i, Lexes (joined ts) i (retok i ts) := by
  induction h with
  | nil i => intro j; exact .nil _
  | blank r i ts h ih => exact ih
  | tok l i ts hne hb hn h ih =>
    intro j
    obtain ⟨_, _, c, ⟨r, hr⟩, ha⟩ := one_said (l := l) (k := (one l).1) (x := (one l).2.1) (n := (one l).2.2) rfl hn hne
    have e : joined (⟨(one l).1, (one l).2.1, i⟩ :: ts) = quote (one l).1 (one l).2.1 ++ 32 :: joined ts := by simp [joined]
    rw [e]
    have hq0 : quote (one l).1 (one l).2.1 ≠ [] := fun e => hn (by rw [c, e]; rfl)
    have hb2 : bt (quote (one l).1 (one l).2.1 ++ 32 :: joined ts) 0 = bt l 0 := by
      have hb3 : bt l 0 = bt (quote (one l).1 (one l).2.1 ++ r) 0 := congrArg (fun x => bt x 0) hr
      rw [hb3]
      cases hq : quote (one l).1 (one l).2.1 with
      | nil => exact absurd hq hq0
      | cons x y => rfl
    refine lexes_one (ha (joined ts)) (by simp) (by rw [hb2]; exact hb) hn ?_
    have e2 : ((one l).2.2).toNat = (quote (one l).1 (one l).2.1).length := by omega
    rw [e2, List.drop_left]
    have := ih (j + (quote (one l).1 (one l).2.1).length + 1)
    have e3 : j + (one l).2.2 + 1 = j + (quote (one l).1 (one l).2.1).length + 1 := by omega
    rw [show retok (j + (quote (one l).1 (one l).2.1).length + 1) ts = retok (j + (one l).2.2 + 1) ts by rw [e3]] 
    exact .blank _ _ _ (by rw [e3]; exact this)
end Go.LexP
