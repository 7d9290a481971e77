/- Formulas, results, places: how they lie in memory. -/
import Derived.Test.YtlpfcclecmalhaaDoorPolPlain
import Derived.Test.YtlpfcclecmalhaaDoorArgPlain
import Derived.Test.YtlpfcclecmalhaaDoorStpW
set_option linter.unusedSimpArgs false
set_option linter.unusedVariables false
set_option linter.unusedSectionVars false
namespace Go.ValP
open Go.Stp
/-- A formula's node. -/
structure Nd where
  k : Int
  op : Int
  v : V
  a : Rf
  b : Rf
  nm : List UInt8
  l : List Nd
instance : Inhabited Nd := ⟨⟨0, 0, default, default, default, [], []⟩⟩
/-- A value, and, of an error, where it came about. -/
structure Gt where
  v : V
  c : C
deriving Inhabited
structure Rs where
  v : V
  c : C
  l : List C
deriving Inhabited
/-- A run: the place, the cell. -/
structure Rn where
  p : List V
  c : C
deriving Inhabited
mutual
def NRel (Z : FZ) : Nd → List Value → Prop
  | ⟨k, op, v, a, b, nm, l⟩, cs => ∃ sv css, cs = [.int .i64 k, .int .i64 op, .int .i64 v.k, .int .i64 v.n, S v.s, .int .i64 a.c.s, .int .i64 a.c.c, .int .i64 a.c.r, .bool a.ac, .bool a.ar, .int .i64 b.c.s, .int .i64 b.c.c, .int .i64 b.c.r, .bool b.ac, .bool b.ar, S nm, sv] ∧
      RdZ Z sv 17 (Subtype.val (p := fun l : List Value => l.length = 17)) css ∧ NRels Z l css
def NRels (Z : FZ) : List Nd → List (Cl 17) → Prop
  | [], [] => True
  | n :: l, c :: cs => NRel Z n c.1 ∧ NRels Z l cs
  | [], _ :: _ => False
  | _ :: _, [] => False
end
theorem NRel_iff {Z : FZ} {x : Nd} {cs : List Value} : NRel Z x cs ↔ ∃ sv css, cs = [.int .i64 x.k, .int .i64 x.op, .int .i64 x.v.k, .int .i64 x.v.n, S x.v.s, .int .i64 x.a.c.s, .int .i64 x.a.c.c, .int .i64 x.a.c.r, .bool x.a.ac, .bool x.a.ar, .int .i64 x.b.c.s, .int .i64 x.b.c.c, .int .i64 x.b.c.r, .bool x.b.ac, .bool x.b.ar, S x.nm, sv] ∧
      RdZ Z sv 17 (Subtype.val (p := fun l : List Value => l.length = 17)) css ∧ NRels Z x.l css := by
  cases x
  simp only [NRel]
mutual
theorem NRel_mono {Z Z' : FZ} (hz : Z.subC Z') : ∀ {x : Nd} {cs : List Value}, NRel Z x cs → NRel Z' x cs
  | ⟨k, op, v, a, b, nm, l⟩, cs, h => by
    simp only [NRel] at h ⊢
    obtain ⟨sv, css, h1, h2, h3⟩ := h
    exact ⟨sv, css, h1, h2.subC hz, NRels_mono hz h3⟩
theorem NRels_mono {Z Z' : FZ} (hz : Z.subC Z') : ∀ {l : List Nd} {css : List (Cl 17)}, NRels Z l css → NRels Z' l css
  | [], [], _ => by simp only [NRels]
  | n :: l, c :: cs, h => by
    simp only [NRels] at h ⊢
    exact ⟨NRel_mono hz h.1, NRels_mono hz h.2⟩
  | [], _ :: _, h => by simp only [NRels] at h
  | _ :: _, [], h => by simp only [NRels] at h
end
def nodeEnc : Enc Nd where
  sz := 17
  rel Z x cs := NRel Z x cs
  mono hz h := NRel_mono hz h
  len h := by
    obtain ⟨sv, css, h1, _⟩ := NRel_iff.1 h
    rw [h1]; rfl
  one h := by
    obtain ⟨sv, css, h1, h2, _⟩ := NRel_iff.1 h
    rw [h1]
    simp only [allOne, h2.one]
    rfl
theorem NRels_el {Z : FZ} : ∀ {l : List Nd} {css : List (Cl 17)}, NRels Z l css ↔ EL nodeEnc Z css l
  | [], [] => by simp [NRels, EL]
  | n :: l, c :: cs => by
    simp only [NRels, EL, NRels_el (l := l) (css := cs)]
    rfl
  | [], _ :: _ => by simp [NRels, EL]
  | _ :: _, [] => by simp [NRels, EL]
theorem node_op {Z : FZ} {x : Nd} {cs : List Value} (h : nodeEnc.rel Z x cs) : ∃ sv, cs = [.int .i64 x.k, .int .i64 x.op, .int .i64 x.v.k, .int .i64 x.v.n, S x.v.s, .int .i64 x.a.c.s, .int .i64 x.a.c.c, .int .i64 x.a.c.r, .bool x.a.ac, .bool x.a.ar, .int .i64 x.b.c.s, .int .i64 x.b.c.c, .int .i64 x.b.c.r, .bool x.b.ac, .bool x.b.ar, S x.nm, sv] ∧ RdN Z sv nodeEnc x.l := by
  obtain ⟨sv, css, h1, h2, h3⟩ := NRel_iff.1 h
  exact ⟨sv, h1, css, h2, NRels_el.1 h3⟩
theorem node_mk {Z : FZ} {x : Nd} {cs : List Value} (h : ∃ sv, cs = [.int .i64 x.k, .int .i64 x.op, .int .i64 x.v.k, .int .i64 x.v.n, S x.v.s, .int .i64 x.a.c.s, .int .i64 x.a.c.c, .int .i64 x.a.c.r, .bool x.a.ac, .bool x.a.ar, .int .i64 x.b.c.s, .int .i64 x.b.c.c, .int .i64 x.b.c.r, .bool x.b.ac, .bool x.b.ar, S x.nm, sv] ∧ RdN Z sv nodeEnc x.l) : nodeEnc.rel Z x cs := by
  obtain ⟨sv, h1, css, h2, h3⟩ := h
  exact NRel_iff.2 ⟨sv, css, h1, h2, NRels_el.2 h3⟩
theorem nodeEnc_dflt {Z : FZ} : nodeEnc.rel Z default [.int .i64 0, .int .i64 0, .int .i64 0, .int .i64 0, S [], .int .i64 0, .int .i64 0, .int .i64 0, .bool false, .bool false, .int .i64 0, .int .i64 0, .int .i64 0, .bool false, .bool false, S [], .slice none 0 0] := node_mk ⟨_, rfl, RdN.nil⟩
abbrev gtL (x : Gt) : List Value := [.int .i64 x.v.k, .int .i64 x.v.n, S x.v.s, .int .i64 x.c.s, .int .i64 x.c.c, .int .i64 x.c.r]
/-- A place lies there. -/
def PlB (T : TypeId) (x : List V) : Obj := Cel (x.flatMap vL) T
def zeroPl : List V := List.replicate 128 ⟨0, 0, []⟩
theorem zeroPl_len : zeroPl.length = 128 := by simp [zeroPl]
end Go.ValP
