import Derived.Test.YtnidgkmopocdkaaA4HMod
import Derived.Test.YtnidgkmopocdkaaA4P14
import Derived.Test.YtnidgkmopocdkaaA4P7
namespace Go.Proofs.Ytnidgkmopocdkaa.P
open Go.RowKit Go.Proofs.YtnidgkmopocdkaaW.PrintWords Go.Proofs.YtnidgkmopocdkaaW.PrintLast Go.Proofs.YtnidgkmopocdkaaW.PrintMore
set_option linter.unusedVariables false
set_option linter.unusedSimpArgs false
def innerL (l : List Int) : List Int := (l.take (l.length - 1)).drop 1
def plainL (sz : Int) (y : S91) (l : List Int) : List Int := turnL (decodeV sz y.f0 y.f1 y.f2) (innerL l) (innerL l).length
def decV (sz wd : Int) (y : S91) (ind : Int) (l : List Int) : List Int × List Int × Int :=
 if l.length < 2 then ([], [], 4) else if 12 < l.length then ([], [], 4) else if l.all (plainB sz) = false then ([], [], 4)
 else if rd l 0 ≠ ind then ([], [], 8)
 else if rd l ((l.length : Int) - 1) ≠ Int.tmod (sumFrom (l.take (l.length - 1)) 0 0) sz then ([], [], 11)
 else (plainL sz y l, keptL wd (plainL sz y l) (plainL sz y l).length, 0)
theorem take_small {sz : Int} {l : List Int} (h0 : 13 ≤ sz) (h1 : sz ≤ 41) (hl : l.length ≤ 20) (hp : l.all (plainB sz) = true) (n : Nat) : Small (l.take n) := by
 refine ⟨by have := List.length_take_le n l; have := List.length_take_le' n l; omega, fun x hx => ?_⟩
 have := (plainB_iff h0 h1).1 (List.all_eq_true.1 hp x (List.mem_of_mem_take hx))
 omega
theorem dec_ok {k : Nat} {sz wd : Int} {keys : List S91} {days l : List Int} {day : Int} (h : checkB sz wd keys days = 0) (hd : dayB days.length day = true) (hl : l.length ≤ 100) (hk : 150 < k) : cipher_Decode.f k sz wd keys days day l = some (decV sz wd (rd_T91 keys (rd days day)) (indV keys.length days day) l) := by
 have g := good_of h
 have hd' := (dayB_iff (by have := g.d8; omega)).1 hd
 have ho := g.ds _ (rd_mem hd'.1 hd'.2)
 have hz : ¬ sz = 0 := by have := g.s0; omega
 obtain ⟨k, rfl, _⟩ := succ_of hk
 unfold cipher_Decode.f cipher_CheckBook.f
 rw [h, Option.bind_some, if_pos rfl, day_f, Option.bind_some, if_pos hd, within_f, Option.bind_some, wrap_of (by omega) (by omega)]
 unfold decV
 by_cases h2 : l.length < 2
 ·rw [if_neg (show ¬ inB ((l.length : Int) - 1) 1 11 = true by rw [inB_iff]; omega), if_pos h2]
  simp only [cipher_Decode.j0, if_true]
 rw [if_neg h2]
 by_cases h12 : 12 < l.length
 ·rw [if_neg (show ¬ inB ((l.length : Int) - 1) 1 11 = true by rw [inB_iff]; omega), if_pos h12]
  simp only [cipher_Decode.j0, if_true]
 rw [if_neg h12, if_pos (show inB ((l.length : Int) - 1) 1 11 = true by rw [inB_iff]; omega)]
 unfold cipher_all_plain.f
 rw [Option.bind_some, show (l.all fun n => inB n 0 (wrap64 (sz - 1))) = l.all (plainB sz) from rfl]
 cases hp : l.all (plainB sz) with
 | false => simp only [cipher_Decode.j0, Bool.not_false, if_true]
 | true =>
  simp only [cipher_Decode.j0, Bool.not_true, Bool.false_eq_true, if_false, Bool.true_eq_false]
  rw [if_pos (by omega), ind_f _ _ _ _ _ hd'.1 hd'.2 g.k0, Option.bind_some]
  by_cases hi : rd l 0 = indV keys.length days day
  ·rw [if_pos hi, if_neg (show ¬ (rd l 0 ≠ indV keys.length days day) from fun c => c hi), if_pos (by omega), if_pos (by omega), if_pos (by omega)]
   have hn : ((l.length : Int) - 1).toNat = l.length - 1 := by omega
   rw [hn, check_f _ _ _ _ _ (take_small g.s0 g.s1 (by omega) hp _) hz (by have := List.length_take_le (l.length - 1) l; omega), Option.bind_some]
   by_cases hc : rd l ((l.length : Int) - 1) = Int.tmod (sumFrom (l.take (l.length - 1)) 0 0) sz
   ·rw [if_pos hc, if_neg (show ¬ (rd l ((l.length : Int) - 1) ≠ Int.tmod (sumFrom (l.take (l.length - 1)) 0 0) sz) from fun c => c hc), if_pos hd'.1, if_pos hd'.2, if_pos ho.1, if_pos ho.2, if_pos (by omega)]
    unfold cipher_turned_decode.f
    have hL : (innerL l).length ≤ 100 := by unfold innerL; rw [List.length_drop]; have := List.length_take_le (l.length - 1) l; omega
    rw [show (l.take (l.length - 1)).drop 1 = innerL l from rfl, if_neg (by have := g.s0; omega), if_neg (by have := g.s1; omega), if_neg (by omega), Option.bind_some]
    unfold cipher_words.f
    rw [if_neg (by rw [turnL_length]; omega), Option.bind_some]
    rfl
   ·rw [if_neg hc, if_pos hc]
  ·rw [if_neg hi, if_pos hi]
theorem dec_bad {k : Nat} {sz wd : Int} {keys : List S91} {days l : List Int} {day : Int} (h : ¬ checkB sz wd keys days = 0) : cipher_Decode.f k sz wd keys days day l = some ([], [], checkB sz wd keys days) := by
 unfold cipher_Decode.f cipher_CheckBook.f
 rw [Option.bind_some, if_neg h]
theorem dec_day {k : Nat} {sz wd : Int} {keys : List S91} {days l : List Int} {day : Int} (h : checkB sz wd keys days = 0) (hd : dayB days.length day = false) : cipher_Decode.f k sz wd keys days day l = some ([], [], 2) := by
 unfold cipher_Decode.f cipher_CheckBook.f
 rw [Option.bind_some, if_pos h, day_f, Option.bind_some, if_neg (by rw [hd]; decide)]
theorem inner_at {l : List Int} {i : Nat} (h : i + 2 < l.length) : (innerL l).getD i 0 = rd l ((i : Int) + 1) := by
 unfold innerL
 rw [show ((i : Int) + 1) = ((i + 1 : Nat) : Int) by omega, rd_at (show i + 1 < l.length by omega), List.getD_eq_getElem?_getD, List.getElem?_drop, List.getElem?_take_of_lt (by omega), Nat.add_comm 1 i, List.getElem?_eq_getElem (by omega)]
 rfl
theorem inner_len (l : List Int) : (innerL l).length = l.length - 2 := by
 unfold innerL
 rw [List.length_drop, List.length_take]; omega
theorem decR_l0 {sz wd : Int} {keys : List S82} {days l : List Int} {day : Int} (h : checkB sz wd (keys.map toK) days = 0) (hd : dayB days.length day = true) (hl : l.length ≤ 12) (hl2 : 2 ≤ l.length) (hp : l.all (plainB sz) = true) : ∀ (d k i : Nat), i + d = l.length - 2 → d + 60 < k →
  glisterref04_Decode.l0 k day l ((l.length : Int) - 1) (turnL (decodeV sz (toK (rd_T82 keys (rd days day))).f0 (toK (rd_T82 keys (rd days day))).f1 (toK (rd_T82 keys (rd days day))).f2) (innerL l) i) (keptL wd (turnL (decodeV sz (toK (rd_T82 keys (rd days day))).f0 (toK (rd_T82 keys (rd days day))).f1 (toK (rd_T82 keys (rd days day))).f2) (innerL l) i) i) ((i : Int) + 1) sz wd keys days = some (plainL sz (toK (rd_T82 keys (rd days day))) l, keptL wd (plainL sz (toK (rd_T82 keys (rd days day))) l) (plainL sz (toK (rd_T82 keys (rd days day))) l).length, 0)
 | 0, k, i, hd', hk => by
  obtain ⟨k, rfl, _⟩ := succ_of hk
  simp only [glisterref04_Decode.l0]
  rw [if_neg (by omega)]
  have e : (plainL sz (toK (rd_T82 keys (rd days day))) l).length = i := by unfold plainL; rw [turnL_length, inner_len]; omega
  rw [e]
  unfold plainL
  rw [inner_len, show l.length - 2 = i by omega]
 | d + 1, k, i, hd', hk => by
  have g := good_of h
  have hdd := (dayB_iff (by have := g.d8; omega)).1 hd
  have ho := g.ds _ (rd_mem hdd.1 hdd.2)
  have hL : (keys.map toK).length = keys.length := List.length_map _
  have hy : KeyOk sz (toK (rd_T82 keys (rd days day))) := by
   rw [← rd91_map keys ho.1 (by omega)]; exact g.ks _ (rd91_mem ho.1 ho.2)
  have hm := (plainB_iff g.s0 g.s1).1 (List.all_eq_true.1 hp (rd l ((i : Int) + 1)) (rd_mem (by omega) (by omega)))
  have ih := decR_l0 h hd hl hl2 hp d (k - 1) (i + 1) (by omega) (by omega)
  obtain ⟨k, rfl, _⟩ := succ_of hk
  simp only [glisterref04_Decode.l0]
  rw [if_pos (by omega), if_pos hdd.1, if_pos hdd.2, if_pos ho.1, if_pos (by omega), if_pos (by omega), if_pos (by omega), wrap_of (show -9223372036854775808 ≤ (i : Int) + 1 - 1 by omega) (by omega), show (i : Int) + 1 - 1 = (i : Int) by omega, Means_f g.pr hy hm (by omega) (by omega), Option.bind_some, if_pos (by rw [turnL_length]; omega), Option.bind_some, wrap_of (show -9223372036854775808 ≤ (i : Int) + 1 + 1 by omega) (by omega)]
  rw [show k + 1 - 1 = k by omega, turnL_succ, show (((i + 1 : Nat)) : Int) + 1 = (i : Int) + 1 + 1 by omega, inner_at (by omega)] at ih
  have hlen := turnL_length (decodeV sz (toK (rd_T82 keys (rd days day))).f0 (toK (rd_T82 keys (rd days day))).f1 (toK (rd_T82 keys (rd days day))).f2) (innerL l) i
  have hkl := keptL_le wd (turnL (decodeV sz (toK (rd_T82 keys (rd days day))).f0 (toK (rd_T82 keys (rd days day))).f1 (toK (rd_T82 keys (rd days day))).f2) (innerL l) i) i
  have hkeep : ∀ (t : List Int) (v : Int), t.length = i → keptL wd (t ++ [v]) (i + 1) = if wd ≤ v then keptL wd t i else keptL wd t i ++ [v] := by
   intro t v ht
   subst ht
   unfold keptL
   rw [List.take_of_length_le (by simp), List.take_of_length_le (Nat.le_refl _), List.filter_append]
   by_cases hw : wd ≤ v <;> simp [hw, List.filter_cons]
  rw [hkeep _ _ hlen] at ih
  show (if decodeV sz (toK (rd_T82 keys (rd days day))).f0 (toK (rd_T82 keys (rd days day))).f1 (toK (rd_T82 keys (rd days day))).f2 (rd l ((i : Int) + 1)) (i : Int) < wd then _ else _) = _
  by_cases hw : wd ≤ decodeV sz (toK (rd_T82 keys (rd days day))).f0 (toK (rd_T82 keys (rd days day))).f1 (toK (rd_T82 keys (rd days day))).f2 (rd l ((i : Int) + 1)) (i : Int)
  ·rw [if_pos hw] at ih
   rw [if_neg (by omega)]
   exact ih
  ·rw [if_neg hw] at ih
   rw [if_pos (by omega), if_pos (by omega)]
   exact ih
theorem decR_ok {k : Nat} {sz wd : Int} {keys : List S82} {days l : List Int} {day : Int} (h : checkB sz wd (keys.map toK) days = 0) (hd : dayB days.length day = true) (hl : l.length ≤ 100) (hk : 150 < k) : glisterref04_Decode.f k sz wd keys days day l = some (decV sz wd (rd_T91 (keys.map toK) (rd days day)) (indV (keys.map toK).length days day) l) := by
 have g := good_of h
 have hd' := (dayB_iff (by have := g.d8; omega)).1 hd
 have ho := g.ds _ (rd_mem hd'.1 hd'.2)
 have hL : (keys.map toK).length = keys.length := List.length_map _
 have hz : ¬ sz = 0 := by have := g.s0; omega
 obtain ⟨k, rfl, _⟩ := succ_of hk
 unfold glisterref04_Decode.f decV
 rw [wrap_of (by omega) (by omega)]
 by_cases h2 : l.length < 2
 ·rw [if_pos (by omega), if_pos h2]
  simp only [glisterref04_Decode.j0, if_true]
 rw [if_neg (by omega), if_neg h2]
 by_cases h12 : 12 < l.length
 ·rw [if_pos (by omega), if_pos h12]
  simp only [glisterref04_Decode.j0, if_true]
 rw [if_neg (by omega), if_neg h12, Plain_f _ _ _ _ _ (by omega) (by omega), Option.bind_some]
 cases hp : l.all (plainB sz) with
 | false => simp only [glisterref04_Decode.j0, Bool.not_false, if_true]
 | true =>
  simp only [glisterref04_Decode.j0, Bool.not_true, Bool.false_eq_true, if_false, Bool.true_eq_false]
  rw [if_pos (by omega), indR_f _ _ _ _ _ hd'.1 hd'.2 (by have := g.k0; omega), Option.bind_some, hL]
  by_cases hi : rd l 0 = indV keys.length days day
  ·rw [if_pos hi, if_neg (show ¬ (rd l 0 ≠ indV keys.length days day) from fun c => c hi), if_pos (by omega), if_pos (by omega), if_pos (by omega)]
   have hn : ((l.length : Int) - 1).toNat = l.length - 1 := by omega
   rw [hn, checkR_f _ _ _ _ _ (take_small g.s0 g.s1 (by omega) hp _) (by have := g.s0; omega) g.s1 (by have := List.length_take_le (l.length - 1) l; omega), Option.bind_some]
   by_cases hc : rd l ((l.length : Int) - 1) = Int.tmod (sumFrom (l.take (l.length - 1)) 0 0) sz
   ·rw [if_pos hc, if_neg (show ¬ (rd l ((l.length : Int) - 1) ≠ Int.tmod (sumFrom (l.take (l.length - 1)) 0 0) sz) from fun c => c hc), rd91_map keys ho.1 (by omega)]
    have := decR_l0 h hd (by omega) (by omega) hp (l.length - 2) k 0 (by omega) (by omega)
    simpa [turnL, keptL] using this
   ·rw [if_neg hc, if_pos hc]
  ·rw [if_neg hi, if_pos hi]
theorem plainL_len (sz : Int) (y : S91) (l : List Int) : (plainL sz y l).length = l.length - 2 := by unfold plainL; rw [turnL_length, inner_len]
theorem decV_len (sz wd : Int) (y : S91) (ind : Int) (l : List Int) : (decV sz wd y ind l).1.length ≤ 10 ∧ (decV sz wd y ind l).2.1.length ≤ 10 := by
 unfold decV
 have h1 := plainL_len sz y l
 have h2 := keptL_le wd (plainL sz y l) (plainL sz y l).length
 split
 ·simp
 split
 ·simp
 split
 ·simp
 split
 ·simp
 split
 ·simp
 ·simp only; omega
end Go.Proofs.Ytnidgkmopocdkaa.P
