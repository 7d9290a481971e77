/- The law PolyForms, plain. -/
import Derived.Test.YtlpfcclecmalhaaDoorPlUnits
import Derived.Test.YtlpfcclecmalhaaDoorSpI
set_option linter.unusedSimpArgs false
set_option linter.unusedVariables false
set_option linter.unusedSectionVars false
namespace Go.Sp
open Go.Stp Go.ValP
theorem mget_true {κ : Type} [DecidableEq κ] {m : List (κ × Bool)} {k : κ} (h : mget m k = true) : (k, true) ∈ m := by
  unfold mget at h
  cases hk : kAt k m 0 with
  | none => rw [hk] at h; cases h
  | some q =>
    rw [hk] at h
    have h : q.2 = true := h
    have := (kAt_some hk).2
    rw [h] at this
    exact List.mem_of_getElem? this
theorem mput_new {κ ν : Type} [DecidableEq κ] {m : List (κ × ν)} {k : κ} {v : ν} (h : ∀ p ∈ m, p.1 ≠ k) : mput m k v = m ++ [(k, v)] := by
  unfold mput
  cases hk : kAt k m 0 with
  | none => rfl
  | some q => exact absurd rfl (h _ (List.mem_of_getElem? (kAt_some hk).2))
theorem polyS_one {t : T} (v : List C) (h : t = ⟨1, v⟩) : polyS [t] = termS t := by
  simp [polyS, joinS]
theorem PolyForms_tot {a : List Int} (hla : (a.length : Int) ≤ 9223372036854775807) (hba : ∀ x ∈ a, 0 ≤ x ∧ x ≤ 255) : Ok (reckonerlaw15_PolyForms a) (fun r => r = true) := by
  unfold reckonerlaw15_PolyForms
  refine Ok.ob fit15_tot fun y _ hy => Ok.bv fun z1 e1 => Ok.it (fun h => ?_) fun _ => ?_
  · rw [e1, hy] at h
    cases h
  refine Ok.ob (Make_tot hla hba) fun x _ hx => Ok.bv fun z24 e24 => Ok.it (fun h => Ok.bv fun z27 e27 => Ok.sm ?_) fun h => ?_
  · have := hx.1 (by rw [e24] at h; simpa using h)
    rw [e27, this]
    rfl
  have mx := hx.2 (by rw [e24] at h; simpa using h)
  obtain ⟨p, po⟩ := x
  simp only at mx ⊢
  clear hx h e24
  have lx := mx.len
  refine Ok.bv fun J hJ => ?_
  have hJ' : ∀ m, Ok (J m) (fun r => r = true) := by
    intro m
    rw [hJ]
    refine Ok.ob poly_Const_tot fun q1 _ h1 => Ok.ob poly_Const_tot fun q2 _ h2 => Ok.ob poly_Const_tot fun q3 _ h3 => ?_
    obtain rfl := h1.2 (by omega)
    obtain rfl := h2.2 (by omega)
    obtain rfl := h3.1 (by omega)
    refine Ok.bv fun a1 b1 => Ok.bv fun a2 b2 => Ok.bv fun a3 b3 => Ok.bv fun a4 b4 => Ok.bv fun a5 b5 => Ok.bv fun a6 b6 => Ok.bv fun a7 b7 => Ok.bv fun a8 b8 => ?_
    have g : a8 = true := by
      rw [b8, b7, b6, b5, b4, b3, b2, b1]
      simp
      omega
    subst g
    simp only [if_true]
    rw [poly_Print_eq (by simp) (by simp)]
    refine Ok.os fun q eq => Ok.bv fun a9 b9 => Ok.bv fun a10 b10 => Ok.sm ?_
    rw [b10, b9, eq]
    rfl
  clear hJ
  refine Ok.bv fun B hB => ?_
  subst hB
  refine Ok.lp (fun s : Int × Int × List (List UInt8 × Bool) => 0 ≤ s.2.1 ∧ s.2.1 ≤ p.length ∧ (∀ t ∈ p.drop s.2.1.toNat, s.1 ≤ t.v.length) ∧ s.2.2 = (p.take s.2.1.toNat).map fun t => (termS ⟨1, t.v⟩, true)) (fun s => (p.length - s.2.1).toNat) ⟨by simp, by simp, by simp, by simp⟩ (by simp only; omega) ?_
  rintro ⟨last, i, m⟩ ⟨s0, s1, s2, s3⟩ next ih
  simp only at s0 s1 s2 s3 ⊢
  refine Ok.bv fun z32 e32 => Ok.it (fun h => ?_) fun h => hJ' _
  have hlt : i < p.length := by rw [e32] at h; simpa using h
  refine Ok.ck ⟨s0, hlt⟩ (Ok.bv fun t et => ?_)
  have htm : t ∈ p := by rw [et]; exact gel_mem ⟨s0, hlt⟩
  have htd := mx.told t htm
  have one : ∀ {u : T}, Told u → Told ⟨1, u.v⟩ := fun hu => ⟨by simp only; omega, hu.l, hu.c⟩
  have hdr := drop_gel s0 hlt
  rw [← et] at hdr
  have htk := take_gel s0 hlt
  rw [← et] at htk
  have hsplit : p = p.take i.toNat ++ t :: p.drop (i + 1).toNat := by rw [← hdr, List.take_append_drop]
  have hst := mx.st.1
  rw [hsplit] at hst
  obtain ⟨_, hst2, hst3⟩ := List.pairwise_append.1 hst
  have hst2 := List.pairwise_cons.1 hst2
  rw [poly_Print_eq (by simp) (fun u hu => by rw [List.mem_singleton.1 hu]; exact one htd)]
  refine Ok.os fun s es => ?_
  rw [polyS_one t.v rfl] at es
  have hnew : ∀ q ∈ m, q.1 ≠ s := by
    intro q hq e
    rw [s3] at hq
    obtain ⟨u, hu, rfl⟩ := List.mem_map.1 hq
    simp only at e
    rw [es] at e
    have := termS_inj (one (mx.told u (List.mem_of_mem_take hu))) (one htd) e
    simp only [T.mk.injEq, true_and] at this
    have hlt2 := hst3 u hu t (by simp)
    rw [this, lessL_self] at hlt2
    omega
  refine Ok.bv fun z42 e42 => Ok.bv fun z46 e46 => Ok.bv fun z47 e47 => Ok.bv fun z51 e51 => Ok.bv fun z52 e52 => Ok.bv fun z57 e57 => Ok.bv fun z58 e58 => Ok.bv fun z64 e64 => Ok.bv fun z65 e65 => ?_
  have g42 : z42 = false := by
    rw [e42]
    cases hm : mget m s with
    | false => rfl
    | true => exact absurd rfl (hnew _ (mget_true hm))
  have hlast := s2 t (by rw [hdr]; simp)
  have hn := htd.n
  have hl := htd.l
  have g : z65 = false := by
    rw [e65, e64, e58, e57, e52, e51, e47, e46, g42]
    simp
    omega
  refine Ok.it (fun h => by rw [g] at h; cases h) fun _ => Ok.bv fun m' em => Ok.bv fun z71 e71 => ?_
  have e71' : z71 = i + 1 := (wI64 e71).2 (by omega)
  refine ih _ ⟨by simp only; omega, by simp only; omega, fun u hu => ?_, ?_⟩ (by simp only; omega)
  · simp only at hu ⊢
    rw [e71'] at hu
    have := hst2.1 u hu
    unfold lessL at this
    split at this <;> omega
  · simp only
    rw [em, mput_new hnew, s3, e71', htk, List.map_append, es]
    rfl
end Go.Sp
