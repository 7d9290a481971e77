/- The plain laws of the tokens, further: what each law says of them. -/
import Derived.Test.YtdepoohfljaogaaDoorLexLaw
set_option linter.unusedSimpArgs false
set_option linter.unusedVariables false
set_option linter.unusedSectionVars false
namespace Go.LexP
open Go.Stp

/-- What lex.All hands back, in one breath. -/
theorem AllOut.gen {l : List UInt8} {v : Value} {w : World} (h : AllOut l v w) : ∃ (sv : Value) (p e : Int) (ts : List Tok), v = .tuple #[sv, .int .i64 p, .int .i64 e] ∧ Reads w sv 3 tokE ts ∧
    ((200 < l.length ∧ ts = [] ∧ p = 0 ∧ e = 4) ∨ (l.length ≤ 200 ∧ p = 0 ∧ e = 0 ∧ Lexes l 0 ts) ∨ (l.length ≤ 200 ∧ ts = [] ∧ e = 1 ∧ Fails l 0 p)) := by
  rcases h with ⟨h1, h2⟩ | ⟨h1, ts, sv, h2, h3, h4⟩ | ⟨h1, p, h2, h3⟩
  · exact ⟨_, _, _, [], h2, .inl ⟨rfl, rfl⟩, .inl ⟨h1, rfl, rfl, rfl⟩⟩
  · exact ⟨_, _, _, ts, h3, h4, .inr (.inl ⟨h1, rfl, rfl, h2⟩)⟩
  · exact ⟨_, _, _, [], h3, .inl ⟨rfl, rfl⟩, .inr (.inr ⟨h1, rfl, rfl, h2⟩)⟩

/-! ### numbers -/
def digs (l : List UInt8) : List UInt8 := l.filter fun c => isDig c.toNat
theorem digs_step (l : List UInt8) (i : Int) (h : 0 ≤ i ∧ i < l.length) : digs (l.take (i + 1).toNat) = digs (l.take i.toNat) ++ (if isDig (bt l i) = true then [UInt8.ofNat (bt l i).toNat] else []) := by
  obtain ⟨b, h1, h2⟩ := bt_at l i h
  have e : (i + 1).toNat = i.toNat + 1 := by omega
  rw [e, List.take_add_one, h1, h2]
  by_cases hb : isDig (b.toNat : Int) = true
  · simp [digs, List.filter_append, hb]
  · simp only [Bool.not_eq_true] at hb
    simp [digs, List.filter_append, hb]
theorem digs_len (l : List UInt8) : (digs l).length ≤ l.length := List.length_filter_le _ _
theorem digs_all (l : List UInt8) : ∀ c ∈ digs l, isDig c.toNat = true := fun c h => (List.mem_filter.1 h).2
theorem takeWhile_all {α : Type} (q : α → Bool) (a b : List α) (ha : ∀ x ∈ a, q x = true) (hb : ∀ x r, b = x :: r → q x = false) : (a ++ b).takeWhile q = a := by
  rw [List.takeWhile_append_of_pos ha]
  cases b with
  | nil => simp
  | cons x r => simp [List.takeWhile, hb x r rfl]
theorem cutS_pre (a b : List UInt8) (n : Int) (h : n = a.length) : cutS (a ++ b) 0 n = a := by
  subst h
  simp [cutS]
theorem one_dig (a b : List UInt8) (hne : a ≠ []) (ha : ∀ x ∈ a, isDig x.toNat = true) (hb : ∀ x r, b = x :: r → isDig x.toNat = false) : one (a ++ b) = (1, a, (a.length : Int)) := by
  have hr : runL isDig (a ++ b) = a.length := by unfold runL; rw [takeWhile_all _ a b ha hb]
  have h0 : isDig (bt (a ++ b) 0) = true := by
    cases a with
    | nil => exact absurd rfl hne
    | cons x r => simpa [bt] using ha x (by simp)
  unfold one
  rw [if_pos (by simpa [isDig] using h0), hr, cutS_pre a b _ rfl]
theorem one_plus (r : List UInt8) : one (43 :: r) = (4, [43], 1) := rfl
theorem isDig_32 {c : UInt8} (h : isDig c.toNat = true) : c ≠ 32 := by
  rintro rfl
  exact absurd h (by decide)
theorem bt_head (c : UInt8) (r : List UInt8) : bt (c :: r) 0 = c.toNat := rfl
theorem num_lexes (d : List UInt8) (hne : d ≠ []) (hd : ∀ c ∈ d, isDig c.toNat = true) : Lexes (d ++ [43] ++ d) 0 [⟨1, d, 0⟩, ⟨4, [43], d.length⟩, ⟨1, d, d.length + 1⟩] := by
  obtain ⟨c, r, rfl⟩ : ∃ c r, d = c :: r := by cases d with | nil => exact absurd rfl hne | cons c r => exact ⟨c, r, rfl⟩
  have hc : ∀ (r' : List UInt8), bt (c :: r') 0 ≠ 32 := fun r' => by
    rw [bt_head]
    intro e
    exact isDig_32 (hd c (by simp)) (u8_of_int (n := 32) (by omega) (by omega))
  rw [List.append_assoc]
  refine lexes_one (one_dig _ _ hne hd (fun x r e => by simp at e; rw [← e.1]; decide)) (by simp) (hc _) (by simp; omega) ?_
  rw [show ((c :: r).length : Int).toNat = (c :: r).length from rfl, List.drop_left, Int.zero_add]
  refine lexes_one (one_plus _) (by simp) (fun e => absurd (show (43 : Int) = 32 from e) (by decide)) (by decide) ?_
  have e2 := one_dig (c :: r) [] hne hd (fun x r e => by cases e)
  rw [List.append_nil] at e2
  refine lexes_one e2 hne (hc r) (by simp; omega) ?_
  rw [show ((c :: r).length : Int).toNat = (c :: r).length from rfl]
  simp only [Int.toNat_one, List.cons_append, List.nil_append, List.drop_succ_cons, List.drop_zero, List.length_cons, List.drop_length]
  exact .nil _

/-! ### words -/
theorem err_lexes1 (E : List UInt8) (h : one (E ++ [43, 65, 49]) = (5, E, (E.length : Int))) (hb : bt (E ++ [43, 65, 49]) 0 ≠ 32) (hn : (E.length : Int) ≠ 0) : Lexes (E ++ [43, 65, 49]) 0 [⟨5, E, 0⟩, ⟨4, [43], E.length⟩, ⟨3, [65, 49], E.length + 1⟩] := by
  refine lexes_one h (by simp) hb hn ?_
  rw [show (E.length : Int).toNat = E.length from rfl, List.drop_left, Int.zero_add]
  exact lexes_one (n := 1) (by decide) (by decide) (by decide) (by decide) (lexes_one (n := 2) (by decide) (by decide) (by decide) (by decide) (.nil _))
theorem err_lexes (c : Int) (h : 1 ≤ c ∧ c ≤ 7) : Lexes (errName c ++ [43, 65, 49]) 0 [⟨5, errName c, 0⟩, ⟨4, [43], (errName c).length⟩, ⟨3, [65, 49], (errName c).length + 1⟩] := by
  obtain rfl | rfl | rfl | rfl | rfl | rfl | rfl : c = 1 ∨ c = 2 ∨ c = 3 ∨ c = 4 ∨ c = 5 ∨ c = 6 ∨ c = 7 := by omega
  all_goals exact err_lexes1 _ (by decide) (by decide) (by decide)
theorem errName_len (c : Int) : (errName c).length ≤ 7 := by
  unfold errName
  split
  · rename_i h
    obtain rfl | rfl | rfl | rfl | rfl | rfl | rfl : c = 1 ∨ c = 2 ∨ c = 3 ∨ c = 4 ∨ c = 5 ∨ c = 6 ∨ c = 7 := by omega
    all_goals decide
  · simp

/-! ### texts -/
theorem txtFrom_dbl : ∀ (x r o : List UInt8) (i : Int), (∀ r', r ≠ 34 :: r') → txtFrom (dbl x ++ 34 :: r) o i = (o ++ x, i + (dbl x).length + 1)
  | [], r, o, i, h => by
    have e : dbl [] = [] := rfl
    rw [e, List.nil_append, txtFrom.eq_def]
    split <;> simp_all
  | c :: x, r, o, i, h => by
    have ih := txtFrom_dbl x r (o ++ [c])
    by_cases hc : c = 34
    · subst hc
      have e : dbl (34 :: x) = 34 :: 34 :: dbl x := rfl
      rw [e, List.cons_append, List.cons_append, txtFrom, ih _ h]
      simp
      omega
    · have e : dbl (c :: x) = c :: dbl x := by simp [dbl, hc]
      rw [e, List.cons_append, txtFrom_other _ _ _ _ hc, ih _ h]
      simp
      omega
theorem one_text (x r : List UInt8) (h : ∀ r', r ≠ 34 :: r') : one (34 :: dbl x ++ 34 :: r) = (2, x, ((34 :: dbl x ++ [34]).length : Int)) := by
  have e : txt (34 :: dbl x ++ 34 :: r) = (x, ((34 :: dbl x ++ [34]).length : Int)) := by
    unfold txt
    rw [List.cons_append, List.drop_succ_cons, List.drop_zero, txtFrom_dbl x r [] 1 h]
    simp
    omega
  unfold one
  rw [e]
  rw [if_neg (by simp [bt]), if_pos (by simp [bt])]
theorem text_lexes (x : List UInt8) : Lexes (quote 2 x ++ [38, 49]) 0 [⟨2, x, 0⟩, ⟨4, [38], (quote 2 x).length⟩, ⟨1, [49], (quote 2 x).length + 1⟩] := by
  have hq : quote 2 x = 34 :: dbl x ++ [34] := rfl
  have h1 : one (quote 2 x ++ [38, 49]) = (2, x, ((quote 2 x).length : Int)) := by
    rw [hq]
    have := one_text x [38, 49] (fun r' e => by cases e)
    simpa using this
  refine lexes_one h1 (by simp) (fun e => absurd (show (34 : Int) = 32 from e) (by decide)) (by rw [hq]; simp; omega) ?_
  rw [show ((quote 2 x).length : Int).toNat = (quote 2 x).length from rfl, List.drop_left, Int.zero_add]
  exact lexes_one (n := 1) (by decide) (by decide) (by decide) (by decide) (lexes_one (n := 1) (by decide) (by decide) (by decide) (by decide) (.nil _))
theorem quote_len (x : List UInt8) : (quote 2 x).length = (dbl x).length + 2 := by simp [quote]
theorem fail_lexes : Fails [49, 43, 34] 0 2 := by
  refine .tok _ _ _ (by decide) (by decide) (by decide) ?_
  refine .tok _ _ _ (by decide) (by decide) (by decide) ?_
  exact .here _ _ (by decide) (by decide) (by decide)

/-! ### parts -/
theorem lexes_ge {l : List UInt8} {i : Int} {t : Tok} {ts : List Tok} (h : Lexes l i (t :: ts)) : i ≤ t.pos := by
  generalize hT : t :: ts = T at h
  induction h with
  | nil i => cases hT
  | blank r i ts' h ih => have := ih hT; omega
  | tok l i ts' hne hb hn h ih =>
    simp only [List.cons.injEq] at hT
    rw [hT.1]
    exact Int.le_refl _
theorem lexes_step {l : List UInt8} {i : Int} {t : Tok} {ts : List Tok} (h : Lexes l i (t :: ts)) :
    (i < t.pos ∧ ∃ r, l = 32 :: r ∧ Lexes r (i + 1) (t :: ts)) ∨ (i = t.pos ∧ l ≠ [] ∧ bt l 0 ≠ 32 ∧ ∃ n, one l = (t.k, t.s, n) ∧ n ≠ 0 ∧ Lexes (l.drop n.toNat) (i + n) ts) := by
  cases h with
  | blank r i _ h => exact .inl ⟨by have := lexes_ge h; omega, _, rfl, h⟩
  | tok l i _ hne hb hn h => exact .inr ⟨rfl, hne, hb, _, rfl, hn, h⟩
theorem lexes_end {l : List UInt8} {i : Int} (h : Lexes l i []) : l = [] ∨ ∃ r, l = 32 :: r ∧ Lexes r (i + 1) [] := by
  cases h with
  | nil => exact .inl rfl
  | blank r i _ h => exact .inr ⟨_, rfl, h⟩
/-- What 'txtFrom' says is what stands there. -/
theorem txtFrom_said : ∀ (l o : List UInt8) (i : Int), (txtFrom l o i).2 ≠ 0 → 0 ≤ i → ∃ x r, l = dbl x ++ 34 :: r ∧ (txtFrom l o i) = (o ++ x, i + (dbl x).length + 1) := by
  intro l o i
  induction l, o, i using txtFrom.induct with
  | case1 o i => intro h; exact absurd rfl h
  | case2 o i r ih =>
    intro h hi
    rw [txtFrom] at h ⊢
    obtain ⟨x, r', hr, he⟩ := ih h (by omega)
    refine ⟨34 :: x, r', by rw [hr]; rfl, ?_⟩
    rw [he, show dbl (34 :: x) = 34 :: 34 :: dbl x from rfl]
    simp
    omega
  | case3 r o i hr =>
    intro h hi
    refine ⟨[], r, rfl, ?_⟩
    rw [txtFrom.eq_def]
    split <;> simp_all [dbl]
  | case4 c r o i hc1 hc2 ih =>
    intro h hi
    have hc : c ≠ 34 := fun e => by subst e; exact hc2 rfl
    rw [txtFrom_other _ _ _ _ hc] at h ⊢
    obtain ⟨x, r', hr, he⟩ := ih h (by omega)
    refine ⟨c :: x, r', by rw [hr]; simp [dbl, hc], ?_⟩
    rw [he, show dbl (c :: x) = c :: dbl x by simp [dbl, hc]]
    simp
    omega
theorem all_takeWhile {α : Type} (q : α → Bool) : ∀ (l : List α), ∀ x ∈ l.takeWhile q, q x = true
  | [], x, h => by simp at h
  | a :: l, x, h => by
    rw [List.takeWhile] at h
    split at h
    · rename_i ha
      rcases List.mem_cons.1 h with rfl | h
      · exact ha
      · exact all_takeWhile q l x h
    · simp at h
theorem runL_said (p : Int → Bool) (l : List UInt8) : ∃ r, l = cutS l 0 (runL p l) ++ r ∧ ((cutS l 0 (runL p l)).length : Int) = runL p l ∧ (∀ x ∈ cutS l 0 (runL p l), p x.toNat = true) := by
  have e : cutS l 0 (runL p l) = l.takeWhile (fun b => p b.toNat) := by
    unfold cutS runL
    have h2 := List.prefix_iff_eq_take.1 (List.takeWhile_prefix (fun b : UInt8 => p b.toNat) (l := l))
    simp only [Int.toNat_natCast, Int.toNat_zero, List.drop_zero]
    exact h2.symm
  rw [e]
  exact ⟨l.dropWhile (fun b => p b.toNat), (List.takeWhile_append_dropWhile).symm, rfl, fun x h => all_takeWhile _ _ x h⟩
theorem find_prefix {l x : List UInt8} {ns : List (List UInt8)} (h : ns.find? (fun x => Lib.hasPrefix l x) = some x) : x ∈ ns ∧ ∃ r, l = x ++ r := by
  refine ⟨List.mem_of_find?_eq_some h, ?_⟩
  have h1 := List.find?_some h
  have h2 : x <+: l := by simpa [Lib.hasPrefix] using h1
  obtain ⟨r, hr⟩ := h2
  exact ⟨r, hr.symm⟩
/-- A token that begins a text stands there, told as 'quote' tells it; and with a blank behind it is read again. -/
theorem one_said {l x : List UInt8} {k n : Int} (h : one l = (k, x, n)) (hn : n ≠ 0) (hne : l ≠ []) :
    1 ≤ k ∧ k ≤ 5 ∧ n = (quote k x).length ∧ (∃ r, l = quote k x ++ r) ∧ ∀ r, one (quote k x ++ 32 :: r) = (k, x, n) := by
  unfold one at h
  split at h
  · obtain ⟨rfl, rfl, rfl⟩ : (1 : Int) = k ∧ _ = x ∧ _ = n := by simpa using h
    obtain ⟨r, hr, hL, hA⟩ := runL_said isDig l
    have hq : quote 1 (cutS l 0 (runL isDig l)) = cutS l 0 (runL isDig l) := rfl
    rw [hq]
    refine ⟨by omega, by omega, hL.symm, ⟨r, hr⟩, fun r' => ?_⟩
    rw [one_dig _ _ (fun e => hn (by rw [e] at hL; simpa using hL.symm)) hA (fun y r e => by simp at e; rw [← e.1]; decide), hL]
  · rename_i h1
    split at h
    · rename_i h2
      obtain ⟨rfl, h3, h4⟩ : (2 : Int) = k ∧ (txt l).1 = x ∧ (txt l).2 = n := by simpa using h
      obtain ⟨y, r, hr, he⟩ := txtFrom_said (l.drop 1) [] 1 (by rw [← h4] at hn; exact hn) (by omega)
      have hl : l = 34 :: l.drop 1 := by
        cases l with
        | nil => exact absurd rfl hne
        | cons c r => 
          have : c = 34 := u8_of_int (n := 34) (by omega) (by rw [bt_head] at h2; omega)
          subst this
          rfl
      have hxy : x = y := by rw [← h3]; unfold txt; rw [he]; simp
      have hnn : n = (quote 2 x).length := by rw [← h4, hxy]; unfold txt; rw [he]; simp [quote]; omega
      refine ⟨by omega, by omega, hnn, ⟨r, ?_⟩, fun r' => ?_⟩
      · rw [hl, hr, hxy]
        simp [quote]
      · have e := one_text x (32 :: r') (fun r' e => by cases e)
        have hq : quote 2 x ++ 32 :: r' = 34 :: dbl x ++ 34 :: 32 :: r' := by simp [quote]
        rw [hq, e, hnn]
        rfl
    · split at h
      · split at h
        · rename_i h3 y hy
          obtain ⟨rfl, rfl, rfl⟩ : (5 : Int) = k ∧ _ = x ∧ _ = n := by simpa using h
          obtain ⟨hm, r, hr⟩ := find_prefix hy
          refine ⟨by omega, by omega, rfl, ⟨r, hr⟩, fun r' => ?_⟩
          have hq : quote 5 y = y := rfl
          rw [hq]
          clear hy hr h
          simp only [enames, List.mem_cons, List.not_mem_nil, or_false] at hm
          rcases hm with rfl | rfl | rfl | rfl | rfl | rfl | rfl <;> rfl
        · obtain ⟨_, _, rfl⟩ : (0 : Int) = k ∧ x = [] ∧ (0 : Int) = n := by simpa using h
          exact absurd rfl hn
      · split at h
        · rename_i h4
          obtain ⟨rfl, rfl, rfl⟩ : (3 : Int) = k ∧ _ = x ∧ _ = n := by simpa using h
          obtain ⟨r, hr, hL, hA⟩ := runL_said isWord l
          generalize hc : cutS l 0 (runL isWord l) = y at *
          have hq : quote 3 y = y := rfl
          rw [hq]
          refine ⟨by omega, by omega, hL.symm, ⟨r, hr⟩, fun r' => ?_⟩
          have hy : y ≠ [] := fun e => hn (by rw [e] at hL; simpa using hL.symm)
          obtain ⟨c, z, rfl⟩ : ∃ c z, y = c :: z := by cases y with | nil => exact absurd rfl hy | cons c z => exact ⟨c, z, rfl⟩
          have hb : bt l 0 = bt ((c :: z) ++ 32 :: r') 0 := by rw [hr]; rfl
          have hrr : runL isWord ((c :: z) ++ 32 :: r') = (c :: z).length := by
            unfold runL
            rw [takeWhile_all _ (c :: z) (32 :: r') hA (fun y r e => by simp at e; rw [← e.1]; decide)]
          unfold one
          rw [← hb, if_neg (by assumption), if_neg (by assumption), if_neg (by assumption), if_pos h4, hrr, cutS_pre _ _ _ rfl, hL]
        · split at h
          · rename_i y hy
            obtain ⟨rfl, rfl, rfl⟩ : (4 : Int) = k ∧ _ = x ∧ _ = n := by simpa using h
            obtain ⟨hm, r, hr⟩ := find_prefix hy
            refine ⟨by omega, by omega, rfl, ⟨r, hr⟩, fun r' => ?_⟩
            have hq : quote 4 y = y := rfl
            rw [hq]
            clear hy hr h
            simp only [signs, List.mem_cons, List.not_mem_nil, or_false] at hm
            rcases hm with rfl | rfl | rfl | rfl | rfl | rfl | rfl | rfl | rfl | rfl | rfl | rfl | rfl | rfl | rfl | rfl <;> rfl
          · obtain ⟨_, _, rfl⟩ : (0 : Int) = k ∧ x = [] ∧ (0 : Int) = n := by simpa using h
            exact absurd rfl hn
theorem dbl_ge : ∀ l : List UInt8, l.length ≤ (dbl l).length
  | [] => by simp [dbl]
  | c :: r => by
    have ih := dbl_ge r
    by_cases hc : c = 34
    · subst hc
      rw [show dbl (34 :: r) = 34 :: 34 :: dbl r from rfl]
      simp
      omega
    · rw [show dbl (c :: r) = c :: dbl r by simp [dbl, hc]]
      simp
      omega
theorem quote_ge (k : Int) (x : List UInt8) : x.length ≤ (quote k x).length := by
  have := dbl_ge x
  unfold quote
  split
  · simp; omega
  · exact Nat.le_refl _
theorem fails_bd {l : List UInt8} {i p : Int} (h : Fails l i p) : i ≤ p ∧ p < i + l.length := by
  induction h with
  | blank r i p h ih => simp; omega
  | tok l i p hne hb hn h ih =>
    have := one_bd l hne
    rw [List.length_drop] at ih
    omega
  | here l i hne hb hn =>
    have : 0 < l.length := by cases l with | nil => exact absurd rfl hne | cons c r => simp
    omega
theorem tmod7 (n : Int) : -7 < n.tmod 7 ∧ n.tmod 7 < 7 := by
  have h1 := Int.tmod_lt_of_pos n (show (0 : Int) < 7 by decide)
  have h2 := Int.lt_tmod_of_pos n (show (0 : Int) < 7 by decide)
  omega
theorem tmod7p (n : Int) (h : 0 ≤ n) : 0 ≤ n.tmod 7 := Int.tmod_nonneg 7 h
end Go.LexP
