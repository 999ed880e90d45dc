import Derived.Test.YtnidgkmopocdkaaA7HPure
import Derived.Test.YtnidgkmopocdkaaA7P5
namespace Go.Proofs.Ytnidgkmopocdkaa.P
open Go.RowKit Go.Proofs.YtnidgkmopocdkaaW.PrintWords Go.Proofs.YtnidgkmopocdkaaW.PrintLast Go.Proofs.YtnidgkmopocdkaaW.PrintMore
set_option linter.unusedVariables false
set_option linter.unusedSimpArgs false
theorem tmod_pos {a b : Int} (h : 0 ≤ a) : Int.tmod a b = a % b := Int.tmod_eq_emod_of_nonneg h
theorem tmod_bd {a b : Int} (h : 0 ≤ a) (hb : 0 < b) : 0 ≤ Int.tmod a b ∧ Int.tmod a b < b := by
 rw [tmod_pos h]; exact ⟨Int.emod_nonneg _ (by omega), Int.emod_lt_of_pos _ hb⟩
structure GoodB (sz wd : Int) (keys : List S91) (days : List Int) : Prop where
 k5 : keys.length ≤ 5
 d8 : days.length ≤ 8
 s0 : 13 ≤ sz
 s1 : sz ≤ 41
 pr : primeB sz = true
 w0 : 1 ≤ wd
 w1 : wd ≤ sz
 k0 : keys.length ≠ 0
 d0 : days.length ≠ 0
 ks : ∀ y ∈ keys, 1 ≤ y.f0 ∧ y.f0 ≤ sz - 1 ∧ 0 ≤ y.f1 ∧ y.f1 ≤ sz - 1 ∧ 0 ≤ y.f2 ∧ y.f2 ≤ sz - 1
 ds : ∀ n ∈ days, 0 ≤ n ∧ n < keys.length
theorem good_of {sz wd : Int} {keys : List S91} {days : List Int} (h : checkB sz wd keys days = 0) : GoodB sz wd keys days := by
 unfold checkB at h
 split at h
 ·cases h
 split at h
 ·cases h
 split at h
 ·cases h
 rename_i h3
 split at h
 ·cases h
 rename_i h4
 split at h
 ·cases h
 rename_i h5
 split at h
 ·cases h
 split at h
 ·cases h
 split at h
 ·cases h
 rename_i h8
 split at h
 ·cases h
 rename_i h9
 have e3 := inB_iff.1 (eq_true_of_ne_false h3)
 have e5 := inB_iff.1 (eq_true_of_ne_false h5)
 refine ⟨by omega, by omega, e3.1, e3.2, eq_true_of_ne_false h4, e5.1, e5.2, by assumption, by assumption, fun y hy => ?_, fun n hn => ?_⟩
 ·have := List.all_eq_true.1 (eq_true_of_ne_false h8) y hy
  unfold keyB at this
  rw [Bool.and_eq_true, Bool.and_eq_true, inB_iff, inB_iff, inB_iff] at this
  omega
 ·have := List.all_eq_true.1 (eq_true_of_ne_false h9) n hn
  unfold ownB at this
  rw [inB_iff] at this
  omega
theorem rd91_mem {keys : List S91} {i : Int} (h0 : 0 ≤ i) (h1 : i < keys.length) : rd_T91 keys i ∈ keys := by
 obtain ⟨n, rfl⟩ : ∃ n : Nat, i = (n : Int) := ⟨i.toNat, by omega⟩
 rw [rd91_at (by omega)]; exact List.getElem_mem _
theorem plainB_iff {sz n : Int} (h0 : 13 ≤ sz) (h1 : sz ≤ 41) : plainB sz n = true ↔ 0 ≤ n ∧ n < sz := by
 unfold plainB
 rw [wrap_of (by omega) (by omega), inB_iff]; omega
theorem codeV_eq {sz : Int} {y : S91} {n i : Int} (h0 : 13 ≤ sz) (h1 : sz ≤ 41) (hy : 1 ≤ y.f0 ∧ y.f0 ≤ sz - 1 ∧ 0 ≤ y.f1 ∧ y.f1 ≤ sz - 1 ∧ 0 ≤ y.f2 ∧ y.f2 ≤ sz - 1) (hn : 0 ≤ n ∧ n < sz) (hi : 0 ≤ i ∧ i ≤ 1000) : codeV sz y.f0 y.f1 y.f2 n i = (y.f0 * n + y.f1 + i * y.f2) % sz ∧ 0 ≤ codeV sz y.f0 y.f1 y.f2 n i ∧ codeV sz y.f0 y.f1 y.f2 n i < sz := by
 have a0 : 0 ≤ y.f0 * n := Int.mul_nonneg (by omega) hn.1
 have a1 : y.f0 * n ≤ 40 * 40 := Int.mul_le_mul (by omega) (by omega) (by omega) (by omega)
 have b0 : 0 ≤ i * y.f2 := Int.mul_nonneg hi.1 (by omega)
 have b1 : i * y.f2 ≤ 1000 * 40 := Int.mul_le_mul hi.2 (by omega) (by omega) (by omega)
 have e : codeV sz y.f0 y.f1 y.f2 n i = (y.f0 * n + y.f1 + i * y.f2) % sz := by
  unfold codeV
  rw [wrap_of (show -9223372036854775808 ≤ y.f0 * n by omega) (by omega), wrap_of (show -9223372036854775808 ≤ y.f0 * n + y.f1 by omega) (by omega), wrap_of (show -9223372036854775808 ≤ i * y.f2 by omega) (by omega), wrap_of (by omega) (by omega), tmod_pos (by omega)]
 exact ⟨e, by rw [e]; exact Int.emod_nonneg _ (by omega), by rw [e]; exact Int.emod_lt_of_pos _ (by omega)⟩
def indV (nk : Nat) (days : List Int) (day : Int) : Int := Int.tmod (wrap64 (rd days day + day)) (nk : Int)
def bodyL (sz : Int) (y : S91) (ind : Int) (l : List Int) : List Int := [ind] ++ turnL (codeV sz y.f0 y.f1 y.f2) l l.length
def codeL (sz : Int) (y : S91) (ind : Int) (l : List Int) : List Int := bodyL sz y ind l ++ [Int.tmod (sumFrom (bodyL sz y ind l) 0 0) sz]
theorem ind_bd {sz wd : Int} {keys : List S91} {days : List Int} (g : GoodB sz wd keys days) {day : Int} (h0 : 0 ≤ day) (h1 : day < days.length) : 0 ≤ indV keys.length days day ∧ indV keys.length days day < keys.length := by
 have hd := g.ds _ (rd_mem h0 h1)
 have := g.d8; have := g.k5; have := g.k0
 unfold indV
 rw [wrap_of (by omega) (by omega)]
 exact tmod_bd (by omega) (by omega)
theorem turnL_mem {cd : Int → Int → Int} {l : List Int} {k : Nat} {x : Int} (h : x ∈ turnL cd l k) : ∃ i : Nat, i < k ∧ x = cd (l.getD i 0) (i : Int) := by
 unfold turnL at h
 rw [List.mem_map] at h
 obtain ⟨i, hi, rfl⟩ := h
 exact ⟨i, List.mem_range.1 hi, rfl⟩
theorem body_small {sz wd : Int} {keys : List S91} {days l : List Int} (g : GoodB sz wd keys days) {y : S91} (hy : y ∈ keys) {ind : Int} (hi : 0 ≤ ind ∧ ind < keys.length) (hl : l.length ≤ 20) (hp : l.all (plainB sz) = true) : Small (bodyL sz y ind l) := by
 refine ⟨by simp [bodyL, turnL_length]; omega, fun x hx => ?_⟩
 unfold bodyL at hx
 rcases List.mem_append.1 hx with h | h
 ·simp at h; subst h; have := g.k5; omega
 ·obtain ⟨i, hi', rfl⟩ := turnL_mem h
  have hm : l.getD i 0 ∈ l := by rw [List.getD_eq_getElem?_getD, List.getElem?_eq_getElem hi']; exact List.getElem_mem _
  have := codeV_eq (i := (i : Int)) g.s0 g.s1 (g.ks y hy) ((plainB_iff g.s0 g.s1).1 (List.all_eq_true.1 hp _ hm)) (by omega)
  have := g.s1
  omega
theorem ind_f (sz wd : Int) (keys : List S91) (days : List Int) (day : Int) (h0 : 0 ≤ day) (h1 : day < days.length) (hk : keys.length ≠ 0) : cipher_Book_indicator.f sz wd keys days day = some (indV keys.length days day) := by
 unfold cipher_Book_indicator.f indV
 rw [if_pos h0, if_pos h1, if_neg (by omega)]
def dayB (nd : Nat) (day : Int) : Bool := inB day 0 (wrap64 ((nd : Int) - 1))
theorem day_f (sz wd : Int) (keys : List S91) (days : List Int) (day : Int) : cipher_Book_day.f sz wd keys days day = some (dayB days.length day) := by
 unfold cipher_Book_day.f dayB
 rw [within_f]; rfl
theorem dayB_iff {nd : Nat} {day : Int} (h : nd ≤ 1000) : dayB nd day = true ↔ 0 ≤ day ∧ day < nd := by
 unfold dayB
 rw [wrap_of (by omega) (by omega), inB_iff]; omega
theorem code_ok {k : Nat} {sz wd : Int} {keys : List S91} {days l : List Int} {day : Int} (h : checkB sz wd keys days = 0) (hd : dayB days.length day = true) (hl : l.length ≤ 10) (hp : l.all (plainB sz) = true) (hk : 50 < k) : cipher_Code.f k sz wd keys days day l = some (codeL sz (rd_T91 keys (rd days day)) (indV keys.length days day) l, 0) := by
 have g := good_of h
 have hd' := (dayB_iff (by have := g.d8; omega)).1 hd
 have ho := g.ds _ (rd_mem hd'.1 hd'.2)
 have hz : ¬ sz = 0 := by have := g.s0; omega
 unfold cipher_Code.f cipher_CheckBook.f
 rw [h, Option.bind_some, if_pos rfl, day_f, Option.bind_some, if_pos hd, if_neg (by omega)]
 unfold cipher_all_plain.f
 rw [Option.bind_some, show (l.all fun n => inB n 0 (wrap64 (sz - 1))) = l.all (plainB sz) from rfl, if_pos hp, ind_f _ _ _ _ _ hd'.1 hd'.2 g.k0, Option.bind_some, Option.bind_some, if_pos hd'.1, if_pos hd'.2, if_pos ho.1, if_pos ho.2]
 unfold cipher_turned_code.f
 rw [if_neg hz, if_neg (by omega), Option.bind_some, if_pos (by rw [turnL_length]; simp; omega), Option.bind_some]
 have hs := body_small g (rd91_mem ho.1 ho.2) (ind_bd g hd'.1 hd'.2) (by omega) hp
 rw [show [indV keys.length days day] ++ turnL (codeV sz (rd_T91 keys (rd days day)).f0 (rd_T91 keys (rd days day)).f1 (rd_T91 keys (rd days day)).f2) l l.length = bodyL sz (rd_T91 keys (rd days day)) (indV keys.length days day) l from rfl, check_f _ _ _ _ _ hs hz (by simp [bodyL, turnL_length]; omega), Option.bind_some, if_pos (by simp [bodyL, turnL_length]; omega)]
 rfl
end Go.Proofs.Ytnidgkmopocdkaa.P
