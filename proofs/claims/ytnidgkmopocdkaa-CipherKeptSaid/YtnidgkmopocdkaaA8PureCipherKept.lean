import Derived.Test.YtnidgkmopocdkaaA8P23
import Derived.Test.YtnidgkmopocdkaaA8HLoss
import Derived.Test.YtnidgkmopocdkaaA8HBest
import Derived.Test.YtnidgkmopocdkaaA8HBack
namespace Go.Proofs.Ytnidgkmopocdkaa.Pure
open Go.RowKit Go.Proofs.Ytnidgkmopocdkaa.P Go.Proofs.YtnidgkmopocdkaaW.PrintWords Go.Proofs.YtnidgkmopocdkaaW.PrintLast
theorem may_ne {lost : List S110} {most : Int} {s : Sp} {k : Int} (hs : 0 ≤ s.d) (h : mayB lost most s k = true) : expV (hadV lost k) s.d ≠ s.d := by
 unfold mayB at h
 unfold expV mx
 generalize hadV lost k = q at *
 simp only [Bool.not_eq_true', Bool.or_eq_false_iff, Bool.and_eq_false_iff, Bool.not_eq_false', decide_eq_true_iff, decide_eq_false_iff_not] at h
 obtain ⟨h1, _⟩ := h
 (repeat' split) <;> omega
theorem kept_ne {lost : List S110} {most : Int} {K : Nat} : ∀ (l : List Int) (s : Sp) (i : Nat) (h : i < (expFrom lost l s.d).length), 0 ≤ s.d → okRun lost most K s l → (expFrom lost l s.d)[i] ≠ s.d + i
 | [], s, i, h, _, _ => by simp [expFrom] at h
 | k :: l, s, 0, h, hs, ho => by
  simp only [expFrom, List.getElem_cons_zero]
  have := may_ne hs ho.2.1
  omega
 | k :: l, s, i + 1, h, hs, ho => by
  have e : (s.next k).d = s.d + 1 := rfl
  have := kept_ne (lost := lost) (most := most) (K := K) l (s.next k) i (by rw [expFrom_len]; rw [expFrom_len] at h; simpa using h) (by rw [e]; omega) ho.2.2
  simp only [expFrom, List.getElem_cons_succ]
  simp only [e] at this
  omega
theorem check_days {sz wd : Int} {keys : List S91} {days l : List Int} (h : checkB sz wd keys days = 0) (hl : l.length = days.length) (ha : l.all (ownB keys.length) = true) : checkB sz wd keys l = 0 := by
 unfold checkB at h ⊢
 rw [hl, ha]
 split at h
 ·cases h
 split at h
 ·cases h
 split at h
 ·cases h
 split at h
 ·cases h
 split at h
 ·cases h
 split at h
 ·cases h
 split at h
 ·cases h
 split at h
 ·cases h
 rename_i n1 n2 n3 n4 n5 n6 n7 n8
 rw [if_neg n1, if_neg n2, if_neg n3, if_neg n4, if_neg n5, if_neg n6, if_neg n7, if_neg n8]
 rfl
theorem okRun_all {lost : List S110} {most : Int} {K : Nat} : ∀ (l : List Int) (s : Sp), okRun lost most K s l → l.all (ownB K) = true
 | [], s, _ => rfl
 | k :: l, s, h => by
  rw [List.all_cons, okRun_all l _ h.2.2, Bool.and_true]
  unfold ownB
  rw [inB_iff]
  have := h.1
  omega
theorem kept_l0 (x : List Int) (hx : x.length ≤ 50) (hn : ∀ (i : Nat) (h : i < x.length), x[i] ≠ (i : Int)) : ∀ (d k i : Nat), i + d = x.length → d < k → glisterlaw04_CipherKept.l0 k x (i : Int) = some true
 | 0, k, i, hd, h => by
  obtain ⟨k, rfl, _⟩ := succ_of h
  simp only [glisterlaw04_CipherKept.l0]
  rw [if_neg (by omega)]
  rfl
 | d + 1, k, i, hd, h => by
  obtain ⟨k, rfl, _⟩ := succ_of h
  have ih := kept_l0 x hx hn d k (i + 1) (by omega) (by omega)
  have hi : i < x.length := by omega
  simp only [glisterlaw04_CipherKept.l0]
  rw [if_pos (by omega), if_pos (by omega), rd_at hi, if_neg (hn i hi), wrap_of (show -9223372036854775808 ≤ (i : Int) + 1 by omega) (by omega)]
  exact ih
theorem CipherKept : ∀ (a0_0 a0_1 : Int) (l0_2 : List S82) (l0_3 : List Int) (l1 : List S58) (a2 : Int), W64 a0_0 → W64 a0_1 → (∀ y ∈ l0_2, Wf82 y) → (∀ y ∈ l0_3, W64 y) → (∀ y ∈ l1, Wf58 y) → W8 a2 → ∃ k, glisterlaw04_CipherKept.f k a0_0 a0_1 l0_2 l0_3 l1 a2 = some true := by
 intro sz wd keys days l a _ _ _ _ _ ha
 have hb := bounds_u8 ha
 refine ⟨304, ?_⟩
 unfold glisterlaw04_CipherKept.f
 rw [lossed_f _ _ _ _ _ (by omega), Option.bind_some]
 cases hr : lossedB sz wd (keys.map toK) days (l.map toL) with
 | false => rw [if_neg (by decide)]; rfl
 | true =>
  have hc := lossed_is hr
  have hs := losses_small hc
  rw [List.length_map, List.length_map] at hs
  have ht := tmod_bd (a := a) (b := 9) hb.1 (by omega)
  rw [if_pos rfl, Book_f sz wd keys days (by omega) (by omega) (by omega), Option.bind_some, Losses_f l (by omega) (by omega), Option.bind_some, wrap_of (show -9223372036854775808 ≤ a by omega) (by omega)]
  generalize Int.tmod a 9 = most at *
  unfold cipher_Plan.f
  have hL : (keys.map toK).length = keys.length := List.length_map _
  rw [Option.bind_some, if_neg (show ¬ lossesV sz wd (keys.map toK) days (l.map toL) ≠ 0 from fun h => h hc), if_neg (show ¬ inB most 0 8 = false by rw [Bool.not_eq_false, inB_iff]; omega)]
  by_cases hf : farV ≤ fewF (l.map toL) most (keys.map toK).length days.length sp0
  ·rw [if_pos hf, if_neg (by decide), if_pos (by decide)]; rfl
  ·rw [if_neg hf]
   obtain ⟨i1, i2, i3, _⟩ := ext_ok (lost := l.map toL) (most := most) (K := (keys.map toK).length) days.length sp0 _ rfl (by omega)
   rw [show extF (l.map toL) most (keys.map toK).length days.length sp0 (fewF (l.map toL) most (keys.map toK).length days.length sp0) = planL (l.map toL) most (keys.map toK).length days.length from rfl] at i1 i2
   generalize planL (l.map toL) most (keys.map toK).length days.length = p at *
   have hc2 := losses_check hc
   have hcp := check_days hc2 i1 (okRun_all p sp0 i2)
   have hcl : lossesV sz wd (keys.map toK) p (l.map toL) = 0 := by
    unfold lossesV
    rw [if_neg (fun h => h hcp), i1, losses_all hc, List.length_map, if_neg (by omega)]
    rfl
   have E := exposed_f (k := 304) sz wd (keys.map toK) p (l.map toL) hcl (by omega)
   have hel := expFrom_len (l.map toL) p 0
   have hne := fun i h => kept_ne (lost := l.map toL) p sp0 i h (by decide) i2
   rw [show sp0.d = 0 from rfl] at hne
   generalize expFrom (l.map toL) p 0 = x at *
   rw [if_pos rfl, if_pos (show (p.length : Int) = _ by omega), Option.bind_some, list_f (l := p) (by omega), Option.bind_some, Option.bind_some, E, Option.bind_some, if_pos rfl, show ((x.length : Int) != (p.length : Int)) = false from bne_eq_false_iff_eq.2 (by omega)]
   rw [show (304 : Nat) = 303 + 1 from rfl]
   simp only [glisterlaw04_CipherKept.j0, Bool.false_eq_true, if_false]
   have e := kept_l0 x (by omega) (fun i h => by have := hne i h; omega) x.length 303 0 (by omega) (by omega)
   rw [show ((0 : Nat) : Int) = 0 from rfl] at e
   exact e
end Go.Proofs.Ytnidgkmopocdkaa.Pure
