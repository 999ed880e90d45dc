import Derived.Test.YtnidgkmopocdkaaA10HPlan
namespace Go.Proofs.Ytnidgkmopocdkaa.P
open Go.RowKit Go.Proofs.YtnidgkmopocdkaaW.PrintWords Go.Proofs.YtnidgkmopocdkaaW.PrintLast Go.Proofs.YtnidgkmopocdkaaW.PrintMore
set_option linter.unusedVariables false
set_option linter.unusedSimpArgs false
def okRun (lost : List S110) (most : Int) (K : Nat) : Sp → List Int → Prop
 | _, [] => True
 | s, k :: l => (0 ≤ k ∧ k < K) ∧ mayB lost most s k = true ∧ okRun lost most K (s.next k) l
def chgRun : Sp → List Int → Int
 | _, [] => 0
 | s, k :: l => chgV s k + chgRun (s.next k) l
theorem chgV_bd (s : Sp) (k : Int) : 0 ≤ chgV s k ∧ chgV s k ≤ 1 := by unfold chgV; split <;> omega
theorem fewUpTo_le {lost : List S110} {most : Int} {g : Sp → Int} {s : Sp} : ∀ (K k : Nat), k < K → mayB lost most s (k : Int) = true → fewUpTo lost most g s K ≤ chgV s (k : Int) + g (s.next (k : Int))
 | K + 1, k, hk, hm => by
  simp only [fewUpTo]
  by_cases e : k = K
  ·subst e
   rw [if_pos hm]; unfold mn; split <;> omega
  ·have := fewUpTo_le (g := g) K k (by omega) hm
   split
   ·unfold mn; split <;> omega
   ·exact this
theorem few_le {lost : List S110} {most : Int} {K : Nat} : ∀ (l : List Int) (s : Sp), okRun lost most K s l → fewF lost most K l.length s ≤ chgRun s l
 | [], s, _ => by simp [fewF, chgRun]
 | k :: l, s, h => by
  obtain ⟨⟨h0, h1⟩, h2, h3⟩ := h
  obtain ⟨n, rfl⟩ : ∃ n : Nat, k = (n : Int) := ⟨k.toNat, by omega⟩
  have ih := few_le l (s.next n) h3
  have := fewUpTo_le (g := fewF lost most K l.length) K n (by omega) h2
  simp only [fewF, chgRun, List.length_cons]
  omega
theorem fewUpTo_at {lost : List S110} {most : Int} {g : Sp → Int} {s : Sp} : ∀ (K : Nat), fewUpTo lost most g s K < farV → ∃ k, k < K ∧ mayB lost most s (k : Int) = true ∧ chgV s (k : Int) + g (s.next (k : Int)) = fewUpTo lost most g s K
 | 0, h => by simp [fewUpTo] at h
 | K + 1, h => by
  simp only [fewUpTo] at h ⊢
  split
  ·rename_i hm
   rw [if_pos hm] at h
   unfold mn at h ⊢
   split
   ·rename_i hc
    first
    | exact ⟨K, by omega, hm, rfl⟩
   ·rename_i hc
    rw [if_neg hc] at h
    first
    | (obtain ⟨k, h1, h2, h3⟩ := fewUpTo_at K h; exact ⟨k, by omega, h2, h3⟩)
  ·rename_i hm
   rw [if_neg hm] at h
   obtain ⟨k, h1, h2, h3⟩ := fewUpTo_at K h
   exact ⟨k, by omega, h2, h3⟩
theorem fewF_pos (lost : List S110) (most : Int) (K : Nat) : ∀ (r : Nat) (s : Sp), 0 ≤ fewF lost most K r s
 | 0, s => by simp [fewF]
 | r + 1, s => (fewUpTo_bd lost most _ s (fewF_pos lost most K r) K).1
def Lex : List Int → List Int → Prop
 | [], _ => True
 | _ :: _, [] => False
 | a :: l, b :: m => a < b ∨ (a = b ∧ Lex l m)
theorem ext_ok {lost : List S110} {most : Int} {K : Nat} : ∀ (r : Nat) (s : Sp) (v : Int), fewF lost most K r s = v → v < farV → (extF lost most K r s v).length = r ∧ okRun lost most K s (extF lost most K r s v) ∧ chgRun s (extF lost most K r s v) = v ∧ ∀ m : List Int, m.length = r → okRun lost most K s m → chgRun s m = v → Lex (extF lost most K r s v) m
 | 0, s, v, h, hv => by
  simp only [fewF] at h
  subst h
  refine ⟨rfl, trivial, rfl, fun m _ _ _ => ?_⟩
  simp [extF, Lex]
 | r + 1, s, v, h, hv => by
  have hu : fewUpTo lost most (fewF lost most K r) s K = v := h
  obtain ⟨k0, a0, a1, a2⟩ := fewUpTo_at K (by rw [hu]; exact hv)
  rw [hu] at a2
  have hpick0 : pickB lost most (fewF lost most K r) s v k0 = true := by unfold pickB; rw [a1, Bool.true_and, decide_eq_true_iff]; exact a2
  simp only [extF]
  cases hf : (List.range K).find? (pickB lost most (fewF lost most K r) s v) with
  | none =>
   have := List.find?_eq_none.1 hf k0 (List.mem_range.2 a0)
   exact absurd hpick0 this
  | some k =>
   rw [List.find?_range_eq_some] at hf
   obtain ⟨p1, p2, p3⟩ := hf
   have p2 : k < K := by simpa using p2
   unfold pickB at p1
   rw [Bool.and_eq_true, decide_eq_true_iff] at p1
   have hn := fewF_pos lost most K r (s.next k)
   have hc := chgV_bd s k
   obtain ⟨i1, i2, i3, i4⟩ := ext_ok (lost := lost) (most := most) (K := K) r (s.next k) (v - chgV s k) (by omega) (by omega)
   refine ⟨by simp only [List.length_cons, i1], ⟨⟨by omega, by omega⟩, p1.1, i2⟩, by simp only [chgRun]; omega, fun m hm hok hch => ?_⟩
   cases m with
   | nil => cases hm
   | cons b m =>
    obtain ⟨⟨b0, b1⟩, b2, b3⟩ := hok
    simp only [List.length_cons] at hm
    simp only [chgRun] at hch
    obtain ⟨n, rfl⟩ : ∃ n : Nat, b = (n : Int) := ⟨b.toNat, by omega⟩
    have l1 := few_le m (s.next n) b3
    rw [show m.length = r by omega] at l1
    have l2 := fewUpTo_le (g := fewF lost most K r) K n (by omega) b2
    rw [hu] at l2
    have hpn : pickB lost most (fewF lost most K r) s v n = true := by unfold pickB; rw [b2, Bool.true_and, decide_eq_true_iff]; omega
    show (k : Int) < n ∨ ((k : Int) = n ∧ _)
    by_cases e : k = n
    ·subst e
     exact .inr ⟨rfl, i4 m (by omega) b3 (by omega)⟩
    ·refine .inl ?_
     have : ¬ n < k := fun hlt => by have := p3 n hlt; simp [hpn] at this
     omega
theorem okRun_mono {lost lost' : List S110} {most most' : Int} {K : Nat} (h : ∀ s k, mayB lost' most' s k = true → mayB lost most s k = true) : ∀ (l : List Int) (s : Sp), okRun lost' most' K s l → okRun lost most K s l
 | [], s, _ => trivial
 | k :: l, s, ho => ⟨ho.1, h s k ho.2.1, okRun_mono h l _ ho.2.2⟩
end Go.Proofs.Ytnidgkmopocdkaa.P
