/- Cells, terms, polynomials: how they lie in memory. -/
import Derived.Test.YtlpfcclecmalhaaDoorValPlain
import Derived.Test.YtlpfcclecmalhaaDoorStpM
set_option linter.unusedSimpArgs false
set_option linter.unusedVariables false
set_option linter.unusedSectionVars false
namespace Go.ValP
open Go.Stp
/-- A cell's place: sheet, column, row. -/
structure C where
  s : Int
  c : Int
  r : Int
deriving Inhabited, DecidableEq
abbrev cL (x : C) : List Value := [.int .i64 x.s, .int .i64 x.c, .int .i64 x.r]
abbrev cV (x : C) : Value := .agg #[.int .i64 x.s, .int .i64 x.c, .int .i64 x.r]
/-- Cells as elements of a row. -/
def cellEnc : Enc C where
  sz := 3
  rel _ x cs := cs = cL x
  mono _ h := h
  len h := by rw [h]; rfl
  one h := by rw [h]; rfl
theorem cellEnc_dflt {Z : FZ} : cellEnc.rel Z default (cL default) := rfl
structure Rf where
  c : C
  ac : Bool
  ar : Bool
deriving Inhabited, DecidableEq
structure A4 where
  a : Int
  b : Int
  c : Int
  d : Int
deriving Inhabited, DecidableEq
structure T where
  n : Int
  v : List C
deriving Inhabited, DecidableEq
def termEnc : Enc T where
  sz := 2
  rel Z x cs := ∃ sv, cs = [.int .i64 x.n, sv] ∧ RdZ Z sv 3 cL x.v
  mono hz := fun ⟨sv, h1, h2⟩ => ⟨sv, h1, h2.subC hz⟩
  len := fun ⟨sv, h1, _⟩ => by rw [h1]; rfl
  one := fun ⟨sv, h1, h2⟩ => by rw [h1]; simp only [allOne, h2.one]; rfl
theorem termEnc_dflt {Z : FZ} : termEnc.rel Z default [.int .i64 0, .slice none 0 0] := ⟨_, rfl, RdZ.nil⟩
def polyEnc : Enc (List T) where
  sz := 1
  rel Z x cs := ∃ sv, cs = [sv] ∧ RdN Z sv termEnc x
  mono hz := fun ⟨sv, h1, h2⟩ => ⟨sv, h1, h2.subC hz⟩
  len := fun ⟨sv, h1, _⟩ => by rw [h1]; rfl
  one := fun ⟨sv, h1, h2⟩ => by rw [h1]; simp only [allOne, h2.one]; rfl
theorem polyEnc_dflt {Z : FZ} : polyEnc.rel Z default [.slice none 0 0] := ⟨_, rfl, RdN.nil⟩
end Go.ValP
