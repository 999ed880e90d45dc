import Derived.Test.YtnidgkmopocdkaaA13HPure
import Derived.Test.YtnidgkmopocdkaaA13P5
namespace Go.Proofs.Ytnidgkmopocdkaa.P
open Go.RowKit Go.Proofs.YtnidgkmopocdkaaW.PrintWords Go.Proofs.YtnidgkmopocdkaaW.PrintLast Go.Proofs.YtnidgkmopocdkaaW.PrintMore
set_option linter.unusedVariables false
set_option linter.unusedSimpArgs false
theorem tmod_pos {a b : Int} (h : 0 ≤ a) : Int.tmod a b = a % b := Int.tmod_eq_emod_of_nonneg h
theorem tmod_bd {a b : Int} (h : 0 ≤ a) (hb : 0 < b) : 0 ≤ Int.tmod a b ∧ Int.tmod a b < b := by
 rw [tmod_pos h]; exact ⟨Int.emod_nonneg _ (by omega), Int.emod_lt_of_pos _ hb⟩
structure GoodB (sz wd : Int) (keys : List S91) (days : List Int) : Prop where
 k5 : keys.length ≤ 5
 d8 : days.length ≤ 8
 s0 : 13 ≤ sz
 s1 : sz ≤ 41
 pr : primeB sz = true
 w0 : 1 ≤ wd
 w1 : wd ≤ sz
 k0 : keys.length ≠ 0
 d0 : days.length ≠ 0
 ks : ∀ y ∈ keys, 1 ≤ y.f0 ∧ y.f0 ≤ sz - 1 ∧ 0 ≤ y.f1 ∧ y.f1 ≤ sz - 1 ∧ 0 ≤ y.f2 ∧ y.f2 ≤ sz - 1
 ds : ∀ n ∈ days, 0 ≤ n ∧ n < keys.length
theorem good_of {sz wd : Int} {keys : List S91} {days : List Int} (h : checkB sz wd keys days = 0) : GoodB sz wd keys days := by
 unfold checkB at h
 split at h
 ·cases h
 split at h
 ·cases h
 split at h
 ·cases h
 rename_i h3
 split at h
 ·cases h
 rename_i h4
 split at h
 ·cases h
 rename_i h5
 split at h
 ·cases h
 split at h
 ·cases h
 split at h
 ·cases h
 rename_i h8
 split at h
 ·cases h
 rename_i h9
 have e3 := inB_iff.1 (eq_true_of_ne_false h3)
 have e5 := inB_iff.1 (eq_true_of_ne_false h5)
 refine ⟨by omega, by omega, e3.1, e3.2, eq_true_of_ne_false h4, e5.1, e5.2, by assumption, by assumption, fun y hy => ?_, fun n hn => ?_⟩
 ·have := List.all_eq_true.1 (eq_true_of_ne_false h8) y hy
  unfold keyB at this
  rw [Bool.and_eq_true, Bool.and_eq_true, inB_iff, inB_iff, inB_iff] at this
  omega
 ·have := List.all_eq_true.1 (eq_true_of_ne_false h9) n hn
  unfold ownB at this
  rw [inB_iff] at this
  omega
theorem plainB_iff {sz n : Int} (h0 : 13 ≤ sz) (h1 : sz ≤ 41) : plainB sz n = true ↔ 0 ≤ n ∧ n < sz := by
 unfold plainB
 rw [wrap_of (by omega) (by omega), inB_iff]; omega
theorem codeV_eq {sz : Int} {y : S91} {n i : Int} (h0 : 13 ≤ sz) (h1 : sz ≤ 41) (hy : 1 ≤ y.f0 ∧ y.f0 ≤ sz - 1 ∧ 0 ≤ y.f1 ∧ y.f1 ≤ sz - 1 ∧ 0 ≤ y.f2 ∧ y.f2 ≤ sz - 1) (hn : 0 ≤ n ∧ n < sz) (hi : 0 ≤ i ∧ i ≤ 1000) : codeV sz y.f0 y.f1 y.f2 n i = (y.f0 * n + y.f1 + i * y.f2) % sz ∧ 0 ≤ codeV sz y.f0 y.f1 y.f2 n i ∧ codeV sz y.f0 y.f1 y.f2 n i < sz := by
 have a0 : 0 ≤ y.f0 * n := Int.mul_nonneg (by omega) hn.1
 have a1 : y.f0 * n ≤ 40 * 40 := Int.mul_le_mul (by omega) (by omega) (by omega) (by omega)
 have b0 : 0 ≤ i * y.f2 := Int.mul_nonneg hi.1 (by omega)
 have b1 : i * y.f2 ≤ 1000 * 40 := Int.mul_le_mul hi.2 (by omega) (by omega) (by omega)
 have e : codeV sz y.f0 y.f1 y.f2 n i = (y.f0 * n + y.f1 + i * y.f2) % sz := by
  unfold codeV
  rw [wrap_of (show -9223372036854775808 ≤ y.f0 * n by omega) (by omega), wrap_of (show -9223372036854775808 ≤ y.f0 * n + y.f1 by omega) (by omega), wrap_of (show -9223372036854775808 ≤ i * y.f2 by omega) (by omega), wrap_of (by omega) (by omega), tmod_pos (by omega)]
 exact ⟨e, by rw [e]; exact Int.emod_nonneg _ (by omega), by rw [e]; exact Int.emod_lt_of_pos _ (by omega)⟩
end Go.Proofs.Ytnidgkmopocdkaa.P
