import Derived.Test.YtnidgkmopocdkaaA5P20
import Derived.Test.YtnidgkmopocdkaaA5HBack
namespace Go.Proofs.Ytnidgkmopocdkaa.Pure
open Go.RowKit Go.Proofs.Ytnidgkmopocdkaa.P Go.Proofs.YtnidgkmopocdkaaW.PrintWords Go.Proofs.YtnidgkmopocdkaaW.PrintLast
theorem back_l0 (sz wd : Int) (keys : List S82) (days l : List Int) (hl : l.length ≤ 10) : ∀ (d k i : Nat), i + d = l.length → d + 60 < k → glisterlaw04_CipherBack.l0 k l (keptL wd l l.length) (keptL wd l i) (i : Int) sz wd keys days = some true
 | 0, k, i, hd, h => by
  obtain ⟨k, rfl, _⟩ := succ_of h
  obtain rfl : i = l.length := by omega
  simp only [glisterlaw04_CipherBack.l0]
  have := keptL_le wd l l.length
  rw [if_neg (by omega), Same_refl _ (by omega) (by omega), Option.bind_some, if_pos rfl]
  rfl
 | d + 1, k, i, hd, h => by
  obtain ⟨k, rfl, _⟩ := succ_of h
  have ih := back_l0 sz wd keys days l hl d k (i + 1) (by omega) (by omega)
  have hi : i < l.length := by omega
  have := keptL_le wd l i
  rw [keptL_succ wd l i hi, show (((i + 1 : Nat)) : Int) = (i : Int) + 1 by omega] at ih
  simp only [glisterlaw04_CipherBack.l0]
  rw [if_pos (by omega), if_pos (by omega), rd_at hi, wrap_of (show -9223372036854775808 ≤ (i : Int) + 1 by omega) (by omega)]
  by_cases hw : wd ≤ l[i]
  ·rw [if_pos hw] at ih
   rw [if_neg (by omega)]
   exact ih
  ·rw [if_neg hw] at ih
   rw [if_pos (by omega), if_pos (by omega)]
   exact ih
theorem CipherBack : ∀ (a0_0 a0_1 : Int) (l0_2 : List S82) (l0_3 : List Int) (l1 : List Int) (a2 : Int), W64 a0_0 → W64 a0_1 → (∀ y ∈ l0_2, Wf82 y) → (∀ y ∈ l0_3, W64 y) → (∀ y ∈ l1, W64 y) → W8 a2 → ∃ k, glisterlaw04_CipherBack.f k a0_0 a0_1 l0_2 l0_3 l1 a2 = some true := by
 intro sz wd keys days l a _ _ _ _ _ ha
 have hb := bounds_u8 ha
 refine ⟨304, ?_⟩
 unfold glisterlaw04_CipherBack.f
 rw [ready_f _ _ _ _ _ (by omega), Option.bind_some]
 cases hr : readyB sz wd (keys.map toK) days l with
 | false => rw [if_neg (by decide)]; rfl
 | true =>
  obtain ⟨hc, hl, hp⟩ := ready_is hr
  have g := good_of hc
  have hk : keys.length ≤ 5 := by have := g.k5; rw [List.length_map] at this; exact this
  have hdn : days.length ≤ 8 := g.d8
  have hd := dayOf_bd hb.1 hb.2 g.d0
  have hdb : dayB days.length (dayOf days.length a) = true := (dayB_iff (by omega)).2 hd
  have F := fine_of hc hl hp hd.1 hd.2
  have hcl := codeL_len sz (rd_T91 (keys.map toK) (rd days (dayOf days.length a))) (indV (keys.map toK).length days (dayOf days.length a)) l
  have hlen := F.ln
  have E1 := code_ok (k := 304) hc hdb hl hp (by omega)
  have E2 := dec_ok (k := 304) (l := codeL sz (rd_T91 (keys.map toK) (rd days (dayOf days.length a))) (indV (keys.map toK).length days (dayOf days.length a)) l) hc hdb (by omega) (by omega)
  rw [dec_back F] at E2
  generalize codeL sz (rd_T91 (keys.map toK) (rd days (dayOf days.length a))) (indV (keys.map toK).length days (dayOf days.length a)) l = c at *
  rw [if_pos rfl, if_neg (show ¬ (days.length : Int) = 0 by have := g.d0; omega), Book_f sz wd keys days (by omega) (by omega) (by omega), Option.bind_some, list_f (by omega), Option.bind_some, show Int.tmod (wrap64 a) (days.length : Int) = dayOf days.length a from rfl, E1, Option.bind_some, Option.bind_some, list_f (l := c) (by omega), Option.bind_some, E2, Option.bind_some, Option.bind_some, list_f (l := l) (by omega), Option.bind_some, E1, Option.bind_some, if_pos rfl, if_pos rfl, if_pos rfl]
  rw [if_pos (show (c.length : Int) = _ by rw [wrap_of (by omega) (by omega)]; omega), Same_refl l (by omega) (by omega), Option.bind_some, if_pos rfl, Same_refl c (by omega) (by omega), Option.bind_some]
  rw [show (304 : Nat) = 303 + 1 from rfl]
  simp only [glisterlaw04_CipherBack.j0, Bool.not_true, Bool.false_eq_true, if_false]
  have e := back_l0 sz wd keys days l (by omega) l.length 303 0 (by omega) (by omega)
  rw [show keptL wd l 0 = [] from rfl, show ((0 : Nat) : Int) = 0 from rfl] at e
  exact e
end Go.Proofs.Ytnidgkmopocdkaa.Pure
