/- The plain laws of the tokens: no program in sight. -/
import Derived.Test.YtdepoohfljaogaaDoorLexPlain
set_option linter.unusedSimpArgs false
set_option linter.unusedVariables false
set_option linter.unusedSectionVars false
namespace Go.LexP
open Go.Stp

theorem lexes_det {l : List UInt8} {i : Int} {ts ts' : List Tok} (h : Lexes l i ts) (h' : Lexes l i ts') : ts = ts' := by
  induction h generalizing ts' with
  | nil i => cases h' with
    | nil => rfl
    | tok _ _ _ hne => exact absurd rfl hne
  | blank r i ts h ih => cases h' with
    | blank _ _ _ h' => exact ih h'
    | tok _ _ _ hne hb => exact absurd (by simp [bt]) hb
  | tok l i ts hne hb hn h ih => cases h' with
    | nil => exact absurd rfl hne
    | blank _ _ _ h' => exact absurd (by simp [bt]) hb
    | tok _ _ _ _ _ _ h' => rw [ih h']
theorem lexes_fails {l : List UInt8} {i p : Int} {ts : List Tok} (h : Lexes l i ts) (h' : Fails l i p) : False := by
  induction h generalizing p with
  | nil i => cases h' with
    | tok _ _ _ hne => exact absurd rfl hne
    | here _ _ hne => exact absurd rfl hne
  | blank r i ts h ih => cases h' with
    | blank _ _ _ h' => exact ih h'
    | tok _ _ _ hne hb => exact absurd (by simp [bt]) hb
    | here _ _ hne hb => exact absurd (by simp [bt]) hb
  | tok l i ts hne hb hn h ih => cases h' with
    | blank _ _ _ h' => exact absurd (by simp [bt]) hb
    | tok _ _ _ _ _ _ h' => exact ih h'
    | here _ _ _ _ hn' => exact absurd hn' hn
theorem fails_det {l : List UInt8} {i p p' : Int} (h : Fails l i p) (h' : Fails l i p') : p = p' := by
  induction h generalizing p' with
  | blank r i p h ih => cases h' with
    | blank _ _ _ h' => exact ih h'
    | tok _ _ _ hne hb => exact absurd (by simp [bt]) hb
    | here _ _ hne hb => exact absurd (by simp [bt]) hb
  | tok l i p hne hb hn h ih => cases h' with
    | blank _ _ _ h' => exact absurd (by simp [bt]) hb
    | tok _ _ _ _ _ _ h' => exact ih h'
    | here _ _ _ _ hn' => exact absurd hn' hn
  | here l i hne hb hn => cases h' with
    | blank _ _ _ h' => exact absurd (by simp [bt]) hb
    | tok _ _ _ _ _ hn' => exact absurd hn hn'
    | here => rfl

/-- What a text is, where its tokens are known. -/
theorem AllOut.ok {l : List UInt8} {v : Value} {w : World} {ts : List Tok} (h : AllOut l v w) (hl : l.length ≤ 200) (ht : Lexes l 0 ts) : ∃ sv, v = .tuple #[sv, .int .i64 0, .int .i64 0] ∧ Reads w sv 3 tokE ts := by
  rcases h with ⟨h1, _⟩ | ⟨_, ts', sv, h1, h2, h3⟩ | ⟨_, p, h1, _⟩
  · omega
  · rw [lexes_det h1 ht] at h3
    exact ⟨sv, h2, h3⟩
  · exact (lexes_fails ht h1).elim
theorem AllOut.long {l : List UInt8} {v : Value} {w : World} (h : AllOut l v w) (hl : 200 < l.length) : v = .tuple #[.slice none 0 0, .int .i64 0, .int .i64 4] := by
  rcases h with ⟨_, h1⟩ | ⟨h1, _⟩ | ⟨h1, _⟩
  · exact h1
  · omega
  · omega
theorem AllOut.fails {l : List UInt8} {v : Value} {w : World} {p : Int} (h : AllOut l v w) (hl : l.length ≤ 200) (ht : Fails l 0 p) : v = .tuple #[.slice none 0 0, .int .i64 p, .int .i64 1] := by
  rcases h with ⟨h1, _⟩ | ⟨_, ts', sv, h1, _⟩ | ⟨_, p', h1, h2⟩
  · omega
  · exact (lexes_fails h1 ht).elim
  · rw [fails_det h1 ht] at h2
    exact h2

/-! ### the example -/
def fitC : List UInt8 := [49, 32, 34, 97, 34, 34, 98, 34]
def fitT : List Tok := [⟨1, [49], 0⟩, ⟨2, [97, 34, 98], 2⟩]
/-- One token off the front, by what 'one' says. -/
theorem lexes_one {l : List UInt8} {i : Int} {k : Int} {s : List UInt8} {n : Int} {ts : List Tok} (h1 : one l = (k, s, n)) (hne : l ≠ []) (hb : bt l 0 ≠ 32) (hn : n ≠ 0) (h : Lexes (l.drop n.toNat) (i + n) ts) : Lexes l i (⟨k, s, i⟩ :: ts) := by
  have := Lexes.tok l i ts hne hb (by rw [h1]; exact hn) (by rw [h1]; exact h)
  rwa [h1] at this
theorem fit_lexes : Lexes fitC 0 fitT :=
  lexes_one (n := 1) (by decide) (by decide) (by decide) (by decide) (.blank _ _ _ (lexes_one (n := 6) (by decide) (by decide) (by decide) (by decide) (.nil _)))
end Go.LexP
