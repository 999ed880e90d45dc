import Derived.Test.YtnidgkmopocdkaaA10P27
import Derived.Test.YtnidgkmopocdkaaA10HLoss
import Derived.Test.YtnidgkmopocdkaaA10HBest
import Derived.Test.YtnidgkmopocdkaaA10HBack
namespace Go.Proofs.Ytnidgkmopocdkaa.Pure
open Go.RowKit Go.Proofs.Ytnidgkmopocdkaa.P Go.Proofs.YtnidgkmopocdkaaW.PrintWords Go.Proofs.YtnidgkmopocdkaaW.PrintLast
theorem any_had {lost : List S58} (h : ∀ x ∈ lost, 0 ≤ x.f1) (k d : Int) : anyB k d lost = true ↔ (hadV (lost.map toL) k ≠ -1 ∧ hadV (lost.map toL) k ≤ d) := by
 have := (had_rel k lost (-1) h (.inl rfl)).2 d
 unfold hadV
 rw [this]
 simp
theorem any_more {lost : List S58} {x : S58} {k d : Int} (h : anyB k d lost = true) : anyB k d (lost ++ [x]) = true := by
 unfold P.anyB at h ⊢
 rw [List.any_append, h]; rfl
theorem had_more {l : List S58} {x : S58} (hx : ∀ y ∈ l ++ [x], 0 ≤ y.f1) (k d : Int) (h : hadV (l.map toL) k ≠ -1 ∧ hadV (l.map toL) k ≤ d) : hadV ((l ++ [x]).map toL) k ≠ -1 ∧ hadV ((l ++ [x]).map toL) k ≤ d :=
 (any_had hx k d).1 (any_more ((any_had (fun y hy => hx y (List.mem_append_left _ hy)) k d).2 h))
theorem may_more {l : List S58} {x : S58} (hx : ∀ y ∈ l ++ [x], 0 ≤ y.f1) (most : Int) (s : Sp) (k : Int) (h : mayB ((l ++ [x]).map toL) most s k = true) : mayB (l.map toL) most s k = true := by
 have hm := had_more hx k s.d
 unfold mayB at h ⊢
 generalize hadV (l.map toL) k = a at *
 generalize hadV ((l ++ [x]).map toL) k = b at *
 simp only [Bool.not_eq_true', Bool.or_eq_false_iff, Bool.and_eq_false_iff, Bool.not_eq_false', decide_eq_true_iff, decide_eq_false_iff_not] at h ⊢
 refine ⟨?_, h.2⟩
 by_cases ha : a = -1
 ·exact .inl ha
 ·refine .inr fun hd => ?_
  have := hm ⟨ha, hd⟩
  rcases h.1 with h1 | h1
  ·exact this.1 h1
  ·exact h1 this.2
theorem may_most {lost : List S110} {most few : Int} (hf : few ≤ most) (s : Sp) (k : Int) (h : mayB lost few s k = true) : mayB lost most s k = true := by
 unfold mayB at h ⊢
 generalize hadV lost k = a at *
 simp only [Bool.not_eq_true', Bool.or_eq_false_iff, decide_eq_false_iff_not] at h ⊢
 exact ⟨h.1, by omega⟩
theorem few_mono {lost lost' : List S110} {most most' : Int} {K N : Nat} (h : ∀ s k, mayB lost' most' s k = true → mayB lost most s k = true) (hf : fewF lost' most' K N sp0 < farV) : fewF lost most K N sp0 ≤ fewF lost' most' K N sp0 := by
 obtain ⟨i1, i2, i3, _⟩ := ext_ok (lost := lost') (most := most') (K := K) N sp0 _ rfl hf
 have := few_le _ sp0 (okRun_mono h _ sp0 i2)
 rw [i1] at this
 exact Int.le_trans this (Int.le_of_eq i3)
theorem exp_more {l : List S58} {x : S58} (hx : ∀ y ∈ l ++ [x], 0 ≤ y.f1) : ∀ (days : List Int) (d : Int), 0 ≤ d → ∀ (i : Nat) (h : i < (expFrom (l.map toL) days d).length) (h2 : i < (expFrom ((l ++ [x]).map toL) days d).length),
  ((expFrom (l.map toL) days d)[i] ≥ 0 → 0 ≤ (expFrom ((l ++ [x]).map toL) days d)[i] ∧ (expFrom ((l ++ [x]).map toL) days d)[i] ≤ (expFrom (l.map toL) days d)[i]) ∧ ((expFrom ((l ++ [x]).map toL) days d)[i] ≥ 0 → d + i ≤ (expFrom ((l ++ [x]).map toL) days d)[i])
 | [], d, _, i, h, _ => by simp [expFrom] at h
 | k :: days, d, hd, 0, h, h2 => by
  simp only [expFrom, List.getElem_cons_zero]
  have hm := had_more hx k (hadV (l.map toL) k)
  have r1 := (had_rel k (l ++ [x]) (-1) hx (.inl rfl)).1
  have r2 := (had_rel k l (-1) (fun y hy => hx y (List.mem_append_left _ hy)) (.inl rfl)).1
  change hadV ((l ++ [x]).map toL) k = -1 ∨ 0 ≤ hadV ((l ++ [x]).map toL) k at r1
  change hadV (l.map toL) k = -1 ∨ 0 ≤ hadV (l.map toL) k at r2
  generalize hadV (l.map toL) k = a at *
  generalize hadV ((l ++ [x]).map toL) k = b at *
  unfold expV mx
  by_cases ha : a = -1
  ·rw [if_pos ha]
   refine ⟨fun h => absurd h (by omega), ?_⟩
   (repeat' split) <;> omega
  ·have := hm ⟨ha, Int.le_refl _⟩
   rw [if_neg ha, if_neg this.1]
   (repeat' split) <;> omega
 | k :: days, d, hd, i + 1, h, h2 => by
  have := exp_more hx days (d + 1) (by omega) i (by rw [expFrom_len]; rw [expFrom_len] at h; simpa using h) (by rw [expFrom_len]; rw [expFrom_len] at h2; simpa using h2)
  simp only [expFrom, List.getElem_cons_succ]
  refine ⟨this.1, fun h => ?_⟩
  have := this.2 h
  omega
def EndOk (n e m f k g : Int) : Prop := (e = 0 ∧ ((f = 10 ∨ (f = 0 ∧ m ≥ n)) ∧ (g = 10 ∨ (g = 0 ∧ k ≥ n)))) ∨ (e = 10 ∧ f = 10 ∧ g = 10)
theorem lost_l0 (n e m f k' g : Int) (p q : List Int) (he : EndOk n e m f k' g) (hl : q.length = p.length) (hp : p.length ≤ 50)
  (hr : ∀ (i : Nat) (h : i < p.length) (h2 : i < q.length), (p[i] ≥ 0 → 0 ≤ q[i] ∧ q[i] ≤ p[i]) ∧ (q[i] ≥ 0 → (i : Int) ≤ q[i])) : ∀ (d k i : Nat), i + d = p.length → d < k → glisterlaw04_CipherLost.l0 k n e m f k' g p q (i : Int) = some true
 | 0, k, i, hd, h => by
  obtain ⟨k, rfl, _⟩ := succ_of h
  simp only [glisterlaw04_CipherLost.l0]
  rw [if_neg (by omega)]
  rcases he with ⟨rfl, h1, h2⟩ | ⟨rfl, rfl, rfl⟩
  ·rw [if_pos rfl]
   rcases h1 with rfl | ⟨rfl, h1⟩
   ·rw [if_pos rfl]
    rcases h2 with rfl | ⟨rfl, h2⟩
    ·rw [if_pos rfl]; rfl
    ·rw [if_neg (by decide), if_pos rfl, if_pos h2]; rfl
   ·rw [if_neg (by decide), if_pos rfl, if_pos h1]
    rcases h2 with rfl | ⟨rfl, h2⟩
    ·rw [if_pos rfl]; rfl
    ·rw [if_neg (by decide), if_pos rfl, if_pos h2]; rfl
  ·rw [if_neg (by decide), if_pos rfl, if_pos rfl, if_pos rfl]; rfl
 | d + 1, k, i, hd, h => by
  obtain ⟨k, rfl, _⟩ := succ_of h
  have ih := lost_l0 n e m f k' g p q he hl hp hr d k (i + 1) (by omega) (by omega)
  have hi : i < p.length := by omega
  have hi2 : i < q.length := by omega
  have hh := hr i hi hi2
  rw [show (((i + 1 : Nat)) : Int) = (i : Int) + 1 by omega] at ih
  simp only [glisterlaw04_CipherLost.l0]
  rw [if_pos (show (i : Int) < (p.length : Int) by omega), if_pos (show 0 ≤ (i : Int) by omega), rd_at hi, rd_at hi2, wrap_of (show -9223372036854775808 ≤ (i : Int) + 1 by omega) (by omega)]
  generalize p[i] = a at *
  generalize q[i] = b at *
  by_cases ha : a ≥ 0
  ·have := hh.1 ha
   have := hh.2 this.1
   rw [if_pos ha, if_pos (by omega), if_neg (by omega), if_neg (by omega), if_pos (by omega), if_neg (by omega)]
   exact ih
  ·rw [if_neg ha, if_pos (by omega)]
   by_cases hb : b ≥ 0
   ·have := hh.2 hb
    rw [if_pos hb, if_neg (by omega)]
    exact ih
   ·rw [if_neg hb]
    exact ih
theorem plan_ok {sz wd : Int} {keys : List S91} {days : List Int} {lost : List S110} {most : Int} (hc : lossesV sz wd keys days lost = 0) (hm : 0 ≤ most ∧ most ≤ 8) : cipher_Plan.f sz wd keys days lost most = some (if farV ≤ fewF lost most keys.length days.length sp0 then ([], 0, 10) else (planL lost most keys.length days.length, fewF lost most keys.length days.length sp0, 0)) := by
 unfold cipher_Plan.f
 rw [if_neg (show ¬ lossesV sz wd keys days lost ≠ 0 from fun h => h hc), if_neg (show ¬ inB most 0 8 = false by rw [Bool.not_eq_false, inB_iff]; omega)]
theorem CipherLost : ∀ (a0_0 a0_1 : Int) (l0_2 : List S82) (l0_3 : List Int) (l1 : List S58) (a2_0 a2_1 : Int) (a3 : Int) (a4 : Int), W64 a0_0 → W64 a0_1 → (∀ y ∈ l0_2, Wf82 y) → (∀ y ∈ l0_3, W64 y) → (∀ y ∈ l1, Wf58 y) → l1.length * 16 ≤ 140737488351232 → W64 a2_0 → W64 a2_1 → W8 a3 → W8 a4 → ∃ k, glisterlaw04_CipherLost.f k a0_0 a0_1 l0_2 l0_3 l1 a2_0 a2_1 a3 a4 = some true := by
 intro sz wd keys days l x0 x1 a b _ _ _ _ _ hsz _ _ ha hb
 have hab := bounds_u8 ha
 have hbb := bounds_u8 hb
 refine ⟨304, ?_⟩
 have haw : ∀ y, glisterlaw04_CipherLost.j0 304 l a b y true sz wd keys days = some true := by
  intro y
  rw [show (304 : Nat) = 303 + 1 from rfl]
  simp only [glisterlaw04_CipherLost.j0, if_true]
  rfl
 unfold glisterlaw04_CipherLost.f
 rw [Option.bind_some, if_pos (by simp; omega), Option.bind_some, Option.bind_some, if_pos (by simp; omega), Option.bind_some, List.nil_append]
 rw [lossed_f _ _ _ _ _ (by omega), Option.bind_some]
 cases hr1 : lossedB sz wd (keys.map toK) days (l.map toL) with
 | false => rw [if_neg (by decide)]; exact haw _
 | true =>
  rw [if_pos rfl, lossed_f _ _ _ _ _ (by omega), Option.bind_some]
  cases hr2 : lossedB sz wd (keys.map toK) days ((l ++ [(⟨x0, x1⟩ : S58)]).map toL) with
  | false => exact haw _
  | true =>
   have hc1 := lossed_is hr1
   have hc2 := lossed_is hr2
   have hs := losses_small hc2
   rw [List.length_map, List.length_map, List.length_append] at hs
   simp only [List.length_singleton] at hs
   have hx : ∀ y ∈ l ++ [(⟨x0, x1⟩ : S58)], 0 ≤ y.f1 := fun y hy => (losses_at hc2 (List.mem_map_of_mem hy : toL y ∈ _)).2.2.1
   have ht := tmod_bd (a := a) (b := 9) hab.1 (by omega)
   have ht2 := tmod_bd (a := b) (b := 3) hbb.1 (by omega)
   have hR := exp_more hx days 0 (Int.le_refl _)
   have hl1 := expFrom_len (l.map toL) days 0
   have hl2 := expFrom_len ((l ++ [(⟨x0, x1⟩ : S58)]).map toL) days 0
   have E1 := exposed_f (k := 303) sz wd (keys.map toK) days (l.map toL) hc1 (by omega)
   have E2 := exposed_f (k := 303) sz wd (keys.map toK) days ((l ++ [(⟨x0, x1⟩ : S58)]).map toL) hc2 (by omega)
   have M2 := may_more hx
   rw [show (304 : Nat) = 303 + 1 from rfl]
   simp only [glisterlaw04_CipherLost.j0, Bool.not_true, Bool.false_eq_true, if_false]
   rw [wrap_of (show -9223372036854775808 ≤ a by omega) (by omega), wrap_of (show -9223372036854775808 ≤ b by omega) (by omega)]
   generalize Int.tmod a 9 = most at *
   generalize Int.tmod b 3 = less at *
   rw [wrap_of (show -9223372036854775808 ≤ most - less by omega) (by omega)]
   have hfew : 0 ≤ mx 0 (most - less) ∧ mx 0 (most - less) ≤ most := by unfold mx; split <;> omega
   generalize mx 0 (most - less) = few at *
   have P1 := plan_ok (most := most) hc1 (by omega)
   have P2 := plan_ok (most := most) hc2 (by omega)
   have P3 := plan_ok (most := few) hc1 (by omega)
   have Q2 := few_mono (K := (keys.map toK).length) (N := days.length) (M2 most)
   have Q3 := few_mono (lost := l.map toL) (lost' := l.map toL) (most := most) (most' := few) (K := (keys.map toK).length) (N := days.length) (fun s k h => may_most hfew.2 s k h)
   rw [Book_f sz wd keys days (by omega) (by omega) (by omega), Option.bind_some, Losses_f l (by omega) (by omega), Option.bind_some, P1, Option.bind_some, Option.bind_some, Losses_f (l ++ [(⟨x0, x1⟩ : S58)]) (by rw [List.length_append]; simp; omega) (by rw [List.length_append]; simp; omega), Option.bind_some, P2, Option.bind_some, Option.bind_some, Option.bind_some, P3, Option.bind_some, Option.bind_some, Option.bind_some, E1, Option.bind_some, Option.bind_some, Option.bind_some, E2, Option.bind_some, if_pos rfl, if_pos rfl]
   generalize expFrom (l.map toL) days 0 = p at *
   generalize expFrom ((l ++ [(⟨x0, x1⟩ : S58)]).map toL) days 0 = q at *
   rw [if_pos (show (p.length : Int) = _ by omega), show ((q.length : Int) != (p.length : Int)) = false from bne_eq_false_iff_eq.2 (by omega)]
   rw [show (303 : Nat) = 302 + 1 from rfl]
   simp only [glisterlaw04_CipherLost.j1, Bool.false_eq_true, if_false]
   generalize fewF (l.map toL) most (keys.map toK).length days.length sp0 = F1 at *
   generalize fewF ((l ++ [(⟨x0, x1⟩ : S58)]).map toL) most (keys.map toK).length days.length sp0 = F2 at *
   generalize fewF (l.map toL) few (keys.map toK).length days.length sp0 = F3 at *
   have fin : ∀ n e m f k g, EndOk n e m f k g → glisterlaw04_CipherLost.l0 302 n e m f k g p q 0 = some true := by
    intro n e m f k g he
    have e := lost_l0 n e m f k g p q he (by omega) (by omega) (fun i h h2 => by have := hR i h h2; omega) p.length 302 0 (by omega) (by omega)
    rw [show ((0 : Nat) : Int) = 0 from rfl] at e
    exact e
   clear hR E1 E2 P1 P2 P3 M2
   by_cases h1 : farV ≤ F1
   ·have h2 : farV ≤ F2 := by
     by_cases h : F2 < farV
     ·have := Q2 h; omega
     ·omega
    have h3 : farV ≤ F3 := by
     by_cases h : F3 < farV
     ·have := Q3 h; omega
     ·omega
    rw [if_pos h1, if_pos h2, if_pos h3]
    exact fin _ _ _ _ _ _ (.inr ⟨rfl, rfl, rfl⟩)
   ·rw [if_neg h1]
    by_cases h2 : farV ≤ F2
    ·rw [if_pos h2]
     by_cases h3 : farV ≤ F3
     ·rw [if_pos h3]
      exact fin _ _ _ _ _ _ (.inl ⟨rfl, .inl rfl, .inl rfl⟩)
     ·rw [if_neg h3]
      exact fin _ _ _ _ _ _ (.inl ⟨rfl, .inl rfl, .inr ⟨rfl, Q3 (by omega)⟩⟩)
    ·rw [if_neg h2]
     by_cases h3 : farV ≤ F3
     ·rw [if_pos h3]
      exact fin _ _ _ _ _ _ (.inl ⟨rfl, .inr ⟨rfl, Q2 (by omega)⟩, .inl rfl⟩)
     ·rw [if_neg h3]
      exact fin _ _ _ _ _ _ (.inl ⟨rfl, .inr ⟨rfl, Q2 (by omega)⟩, .inr ⟨rfl, Q3 (by omega)⟩⟩)
end Go.Proofs.Ytnidgkmopocdkaa.Pure
