import Derived.Test.YtnidgkmopocdkaaA13HPure2
import Derived.Test.YtnidgkmopocdkaaA13HTurn2
import Derived.Test.YtnidgkmopocdkaaA13HWords
import Derived.Test.YtnidgkmopocdkaaA13P6
namespace Go.Proofs.Ytnidgkmopocdkaa.P
open Go.RowKit Go.Proofs.YtnidgkmopocdkaaW.PrintWords Go.Proofs.YtnidgkmopocdkaaW.PrintLast Go.Proofs.YtnidgkmopocdkaaW.PrintMore
set_option linter.unusedVariables false
set_option linter.unusedSimpArgs false
theorem dec_mod {sz f0 f1 f2 c i v q : Int} (hinv : f0 * v = 1 + sz * q) : (f0 * ((((c + (sz - f1) % sz + i * (sz - f2)) % sz) * v) % sz) + f1 + i * f2) % sz = c % sz := by
 have e1 := Int.emod_add_mul_ediv (sz - f1) sz
 generalize (sz - f1) % sz = r1 at *
 generalize (sz - f1) / sz = q1 at *
 have e2 := Int.emod_add_mul_ediv (c + r1 + i * (sz - f2)) sz
 generalize (c + r1 + i * (sz - f2)) % sz = r2 at *
 generalize (c + r1 + i * (sz - f2)) / sz = q2 at *
 have e3 := Int.emod_add_mul_ediv (r2 * v) sz
 generalize (r2 * v) % sz = r3 at *
 generalize (r2 * v) / sz = q3 at *
 have : f0 * r3 + f1 + i * f2 = c + sz * (1 - q1 + i - q2 + q * r2 - f0 * q3) := by grind
 rw [this, Int.add_mul_emod_self_left]
theorem small_dvd {sz d q : Int} (h : d = sz * q) (h1 : -sz < d) (h2 : d < sz) : d = 0 := by
 by_cases hq : q = 0
 ·subst hq; omega
 ·have : 0 < sz := by omega
  rcases Int.lt_or_gt_of_ne hq with h' | h'
  ·have := Int.mul_le_mul_of_nonneg_left (show q ≤ -1 by omega) (show 0 ≤ sz by omega)
   omega
  ·have := Int.mul_le_mul_of_nonneg_left (show 1 ≤ q by omega) (show 0 ≤ sz by omega)
   omega
theorem code_inj {sz f0 v q r n1 n2 : Int} (hinv : f0 * v = 1 + sz * q) (h1 : 0 ≤ n1 ∧ n1 < sz) (h2 : 0 ≤ n2 ∧ n2 < sz) (h : (f0 * n1 + r) % sz = (f0 * n2 + r) % sz) : n1 = n2 := by
 have e1 := Int.emod_add_mul_ediv (f0 * n1 + r) sz
 have e2 := Int.emod_add_mul_ediv (f0 * n2 + r) sz
 rw [h] at e1
 generalize (f0 * n2 + r) % sz = m at *
 generalize (f0 * n1 + r) / sz = q1 at *
 generalize (f0 * n2 + r) / sz = q2 at *
 have : n1 - n2 = sz * (v * (q1 - q2) - q * (n1 - n2)) := by grind
 have := small_dvd this (by omega) (by omega)
 omega
def invT : Bool := ([13, 17, 19, 23, 29, 31, 37, 41] : List Nat).all fun p => (List.range p).all fun m => m == 0 || (((m : Int) * invV p m) % (p : Int) == 1 && (decide (0 ≤ invV p m) && decide (invV p m < p)))
theorem invT_ok : invT = true := by kernel_rfl
theorem prime_mem {sz : Int} (h : primeB sz = true) : ∃ p : Nat, p ∈ ([13, 17, 19, 23, 29, 31, 37, 41] : List Nat) ∧ sz = (p : Int) := by
 unfold primeB at h
 simp at h
 rcases h with h | h | h | h | h | h | h | h <;> subst h
 ·exact ⟨13, by simp, rfl⟩
 ·exact ⟨17, by simp, rfl⟩
 ·exact ⟨19, by simp, rfl⟩
 ·exact ⟨23, by simp, rfl⟩
 ·exact ⟨29, by simp, rfl⟩
 ·exact ⟨31, by simp, rfl⟩
 ·exact ⟨37, by simp, rfl⟩
 ·exact ⟨41, by simp, rfl⟩
theorem inv_ok {sz n : Int} (h : primeB sz = true) (h0 : 1 ≤ n) (h1 : n < sz) : (n * invV sz n) % sz = 1 ∧ 0 ≤ invV sz n ∧ invV sz n < sz := by
 obtain ⟨p, hp, rfl⟩ := prime_mem h
 obtain ⟨m, rfl⟩ : ∃ m : Nat, n = (m : Int) := ⟨n.toNat, by omega⟩
 have := List.all_eq_true.1 (List.all_eq_true.1 (show ([13, 17, 19, 23, 29, 31, 37, 41] : List Nat).all _ = true from invT_ok) p hp) m (List.mem_range.2 (by omega))
 rw [Bool.or_eq_true, Bool.and_eq_true, Bool.and_eq_true, beq_iff_eq, beq_iff_eq, decide_eq_true_iff, decide_eq_true_iff] at this
 rcases this with h | h
 ·omega
 ·exact h
theorem inv_q {sz n : Int} (h : primeB sz = true) (h0 : 1 ≤ n) (h1 : n < sz) : n * invV sz n = 1 + sz * ((n * invV sz n) / sz) := by
 have := Int.emod_add_mul_ediv (n * invV sz n) sz
 rw [(inv_ok h h0 h1).1] at this
 exact this.symm
def KeyOk (sz : Int) (y : S91) : Prop := 1 ≤ y.f0 ∧ y.f0 ≤ sz - 1 ∧ 0 ≤ y.f1 ∧ y.f1 ≤ sz - 1 ∧ 0 ≤ y.f2 ∧ y.f2 ≤ sz - 1
theorem decodeV_eq {sz : Int} {y : S91} {n i : Int} (h : primeB sz = true) (hy : KeyOk sz y) (hn : 0 ≤ n ∧ n < sz) (hi : 0 ≤ i ∧ i ≤ 1000) : decodeV sz y.f0 y.f1 y.f2 n i = (((n + (sz - y.f1) % sz + i * (sz - y.f2)) % sz) * invV sz y.f0) % sz ∧ 0 ≤ decodeV sz y.f0 y.f1 y.f2 n i ∧ decodeV sz y.f0 y.f1 y.f2 n i < sz := by
 have hp := prime_in h
 obtain ⟨k0, k1, k2, k3, k4, k5⟩ := hy
 have hv := (inv_ok h k0 (by omega)).2
 have b0 : 0 ≤ i * (sz - y.f2) := Int.mul_nonneg hi.1 (by omega)
 have b1 : i * (sz - y.f2) ≤ 1000 * 41 := Int.mul_le_mul hi.2 (by omega) (by omega) (by omega)
 have r0 := Int.emod_nonneg (sz - y.f1) (show sz ≠ 0 by omega)
 have r1 := Int.emod_lt_of_pos (sz - y.f1) (show 0 < sz by omega)
 have l0 := Int.emod_nonneg (n + (sz - y.f1) % sz + i * (sz - y.f2)) (show sz ≠ 0 by omega)
 have l1 := Int.emod_lt_of_pos (n + (sz - y.f1) % sz + i * (sz - y.f2)) (show 0 < sz by omega)
 have m0 := Int.mul_nonneg l0 hv.1
 have m1 : (n + (sz - y.f1) % sz + i * (sz - y.f2)) % sz * invV sz y.f0 ≤ 41 * 41 := Int.mul_le_mul (by omega) (by omega) (by omega) (by omega)
 have e : decodeV sz y.f0 y.f1 y.f2 n i = (((n + (sz - y.f1) % sz + i * (sz - y.f2)) % sz) * invV sz y.f0) % sz := by
  unfold decodeV
  rw [wrap_of (show -9223372036854775808 ≤ sz - y.f1 by omega) (by omega), wrap_of (show -9223372036854775808 ≤ sz - y.f2 by omega) (by omega), tmod_pos (show 0 ≤ sz - y.f1 by omega), wrap_of (show -9223372036854775808 ≤ n + (sz - y.f1) % sz by omega) (by omega), wrap_of (show -9223372036854775808 ≤ i * (sz - y.f2) by omega) (by omega), wrap_of (show -9223372036854775808 ≤ n + (sz - y.f1) % sz + i * (sz - y.f2) by omega) (by omega), tmod_pos (show 0 ≤ n + (sz - y.f1) % sz + i * (sz - y.f2) by omega), wrap_of (by omega) (by omega), tmod_pos m0]
 exact ⟨e, by rw [e]; exact Int.emod_nonneg _ (by omega), by rw [e]; exact Int.emod_lt_of_pos _ (by omega)⟩
theorem code_dec {sz : Int} {y : S91} {n i : Int} (h : primeB sz = true) (hy : KeyOk sz y) (hn : 0 ≤ n ∧ n < sz) (hi : 0 ≤ i ∧ i ≤ 1000) : codeV sz y.f0 y.f1 y.f2 (decodeV sz y.f0 y.f1 y.f2 n i) i = n := by
 have hp := prime_in h
 obtain ⟨e, d0, d1⟩ := decodeV_eq h hy hn hi
 rw [(codeV_eq hp.1 hp.2 hy ⟨d0, d1⟩ hi).1, e, dec_mod (inv_q h hy.1 (by have := hy.2.1; omega))]
 exact Int.emod_eq_of_lt hn.1 hn.2
theorem codeV_inj {sz : Int} {y : S91} {n m i : Int} (h : primeB sz = true) (hy : KeyOk sz y) (hn : 0 ≤ n ∧ n < sz) (hm : 0 ≤ m ∧ m < sz) (hi : 0 ≤ i ∧ i ≤ 1000) (he : codeV sz y.f0 y.f1 y.f2 n i = codeV sz y.f0 y.f1 y.f2 m i) : n = m := by
 have hp := prime_in h
 rw [(codeV_eq hp.1 hp.2 hy hn hi).1, (codeV_eq hp.1 hp.2 hy hm hi).1, Int.add_assoc, Int.add_assoc] at he
 exact code_inj (inv_q h hy.1 (by have := hy.2.1; omega)) hn hm he
theorem codeOf_f (sz wd : Int) (keys : List S82) (days : List Int) (y : S82) (n i : Int) (hz : sz ≠ 0) : glisterref04_CodeOf.f sz wd keys days y.f0 y.f1 y.f2 n i = some (codeV sz y.f0 y.f1 y.f2 n i) := by
 unfold glisterref04_CodeOf.f codeV
 rw [if_neg hz]
theorem Means_l0 {sz wd : Int} {keys : List S82} {days : List Int} {y : S82} {n i : Int} (h : primeB sz = true) (hy : KeyOk sz (toK y)) (hn : 0 ≤ n ∧ n < sz) (hi : 0 ≤ i ∧ i ≤ 1000) : ∀ (d k : Nat) (m : Int), 0 ≤ m → m + d = decodeV sz y.f0 y.f1 y.f2 n i → d < k → glisterref04_Means.l0 k n i m sz wd keys days y.f0 y.f1 y.f2 = some (decodeV sz y.f0 y.f1 y.f2 n i)
 | 0, k, m, h0, h1, hk => by
  obtain ⟨k, rfl, _⟩ := succ_of hk
  have hd := (decodeV_eq (y := toK y) h hy hn hi).2
  have hc := code_dec (y := toK y) h hy hn hi
  have hp := prime_in h
  simp only [toK] at hd hc
  simp only [glisterref04_Means.l0]
  rw [if_pos (by omega), codeOf_f _ _ _ _ _ _ _ (by omega), Option.bind_some, show m = decodeV sz y.f0 y.f1 y.f2 n i by omega, if_pos hc]
 | d + 1, k, m, h0, h1, hk => by
  obtain ⟨k, rfl, _⟩ := succ_of hk
  have hd := (decodeV_eq (y := toK y) h hy hn hi).2
  have hc := code_dec (y := toK y) h hy hn hi
  have hp := prime_in h
  simp only [toK] at hd hc
  simp only [glisterref04_Means.l0]
  rw [if_pos (by omega), codeOf_f _ _ _ _ _ _ _ (by omega), Option.bind_some, if_neg (fun e => by
   have := codeV_inj (y := toK y) (n := m) (m := decodeV sz y.f0 y.f1 y.f2 n i) h hy (by omega) hd hi (by simp only [toK]; rw [hc]; exact e)
   omega), wrap_of (by omega) (by omega)]
  exact Means_l0 h hy hn hi d k (m + 1) (by omega) (by omega) (by omega)
theorem Means_f {k : Nat} {sz wd : Int} {keys : List S82} {days : List Int} {y : S82} {n i : Int} (h : primeB sz = true) (hy : KeyOk sz (toK y)) (hn : 0 ≤ n ∧ n < sz) (hi : 0 ≤ i ∧ i ≤ 1000) (hk : 50 < k) : glisterref04_Means.f k sz wd keys days y.f0 y.f1 y.f2 n i = some (decodeV sz y.f0 y.f1 y.f2 n i) := by
 unfold glisterref04_Means.f
 have hd := (decodeV_eq (y := toK y) h hy hn hi).2
 have hp := prime_in h
 simp only [toK] at hd
 exact Means_l0 h hy hn hi (decodeV sz y.f0 y.f1 y.f2 n i).toNat k 0 (by omega) (by omega) (by omega)
end Go.Proofs.Ytnidgkmopocdkaa.P
