import Derived.Test.YtnidgkmopocdkaaA7HMod
import Derived.Test.YtnidgkmopocdkaaA7P14
import Derived.Test.YtnidgkmopocdkaaA7P0
import Derived.Test.YtnidgkmopocdkaaA7P5
namespace Go.Proofs.Ytnidgkmopocdkaa.P
open Go.RowKit Go.Proofs.YtnidgkmopocdkaaW.PrintWords Go.Proofs.YtnidgkmopocdkaaW.PrintLast Go.Proofs.YtnidgkmopocdkaaW.PrintMore
set_option linter.unusedVariables false
set_option linter.unusedSimpArgs false
def innerL (l : List Int) : List Int := (l.take (l.length - 1)).drop 1
def plainL (sz : Int) (y : S91) (l : List Int) : List Int := turnL (decodeV sz y.f0 y.f1 y.f2) (innerL l) (innerL l).length
def decV (sz wd : Int) (y : S91) (ind : Int) (l : List Int) : List Int × List Int × Int :=
 if l.length < 2 then ([], [], 4) else if 12 < l.length then ([], [], 4) else if l.all (plainB sz) = false then ([], [], 4)
 else if rd l 0 ≠ ind then ([], [], 8)
 else if rd l ((l.length : Int) - 1) ≠ Int.tmod (sumFrom (l.take (l.length - 1)) 0 0) sz then ([], [], 11)
 else (plainL sz y l, keptL wd (plainL sz y l) (plainL sz y l).length, 0)
theorem take_small {sz : Int} {l : List Int} (h0 : 13 ≤ sz) (h1 : sz ≤ 41) (hl : l.length ≤ 20) (hp : l.all (plainB sz) = true) (n : Nat) : Small (l.take n) := by
 refine ⟨by have := List.length_take_le n l; have := List.length_take_le' n l; omega, fun x hx => ?_⟩
 have := (plainB_iff h0 h1).1 (List.all_eq_true.1 hp x (List.mem_of_mem_take hx))
 omega
theorem dec_ok {k : Nat} {sz wd : Int} {keys : List S91} {days l : List Int} {day : Int} (h : checkB sz wd keys days = 0) (hd : dayB days.length day = true) (hl : l.length ≤ 100) (hk : 150 < k) : cipher_Decode.f k sz wd keys days day l = some (decV sz wd (rd_T91 keys (rd days day)) (indV keys.length days day) l) := by
 have g := good_of h
 have hd' := (dayB_iff (by have := g.d8; omega)).1 hd
 have ho := g.ds _ (rd_mem hd'.1 hd'.2)
 have hz : ¬ sz = 0 := by have := g.s0; omega
 obtain ⟨k, rfl, _⟩ := succ_of hk
 unfold cipher_Decode.f cipher_CheckBook.f
 rw [h, Option.bind_some, if_pos rfl, day_f, Option.bind_some, if_pos hd, within_f, Option.bind_some, wrap_of (by omega) (by omega)]
 unfold decV
 by_cases h2 : l.length < 2
 ·rw [if_neg (show ¬ inB ((l.length : Int) - 1) 1 11 = true by rw [inB_iff]; omega), if_pos h2]
  simp only [cipher_Decode.j0, if_true]
 rw [if_neg h2]
 by_cases h12 : 12 < l.length
 ·rw [if_neg (show ¬ inB ((l.length : Int) - 1) 1 11 = true by rw [inB_iff]; omega), if_pos h12]
  simp only [cipher_Decode.j0, if_true]
 rw [if_neg h12, if_pos (show inB ((l.length : Int) - 1) 1 11 = true by rw [inB_iff]; omega)]
 unfold cipher_all_plain.f
 rw [Option.bind_some, show (l.all fun n => inB n 0 (wrap64 (sz - 1))) = l.all (plainB sz) from rfl]
 cases hp : l.all (plainB sz) with
 | false => simp only [cipher_Decode.j0, Bool.not_false, if_true]
 | true =>
  simp only [cipher_Decode.j0, Bool.not_true, Bool.false_eq_true, if_false, Bool.true_eq_false]
  rw [if_pos (by omega), ind_f _ _ _ _ _ hd'.1 hd'.2 g.k0, Option.bind_some]
  by_cases hi : rd l 0 = indV keys.length days day
  ·rw [if_pos hi, if_neg (show ¬ (rd l 0 ≠ indV keys.length days day) from fun c => c hi), if_pos (by omega), if_pos (by omega), if_pos (by omega)]
   have hn : ((l.length : Int) - 1).toNat = l.length - 1 := by omega
   rw [hn, check_f _ _ _ _ _ (take_small g.s0 g.s1 (by omega) hp _) hz (by have := List.length_take_le (l.length - 1) l; omega), Option.bind_some]
   by_cases hc : rd l ((l.length : Int) - 1) = Int.tmod (sumFrom (l.take (l.length - 1)) 0 0) sz
   ·rw [if_pos hc, if_neg (show ¬ (rd l ((l.length : Int) - 1) ≠ Int.tmod (sumFrom (l.take (l.length - 1)) 0 0) sz) from fun c => c hc), if_pos hd'.1, if_pos hd'.2, if_pos ho.1, if_pos ho.2, if_pos (by omega)]
    unfold cipher_turned_decode.f
    have hL : (innerL l).length ≤ 100 := by unfold innerL; rw [List.length_drop]; have := List.length_take_le (l.length - 1) l; omega
    rw [show (l.take (l.length - 1)).drop 1 = innerL l from rfl, if_neg (by have := g.s0; omega), if_neg (by have := g.s1; omega), if_neg (by omega), Option.bind_some]
    unfold cipher_words.f
    rw [if_neg (by rw [turnL_length]; omega), Option.bind_some]
    rfl
   ·rw [if_neg hc, if_pos hc]
  ·rw [if_neg hi, if_pos hi]
end Go.Proofs.Ytnidgkmopocdkaa.P
