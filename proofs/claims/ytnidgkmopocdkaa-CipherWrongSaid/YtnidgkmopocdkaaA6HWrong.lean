import Derived.Test.YtnidgkmopocdkaaA6HBack
namespace Go.Proofs.Ytnidgkmopocdkaa.P
open Go.RowKit Go.Proofs.YtnidgkmopocdkaaW.PrintWords Go.Proofs.YtnidgkmopocdkaaW.PrintLast Go.Proofs.YtnidgkmopocdkaaW.PrintMore
set_option linter.unusedVariables false
set_option linter.unusedSimpArgs false
def wsum (c : Nat → Int) : List Int → Nat → Int
 | [], _ => 0
 | x :: l, j => c j * x + wsum c l (j + 1)
theorem wsum_append (c : Nat → Int) (b : List Int) : ∀ (a : List Int) (j : Nat), wsum c (a ++ b) j = wsum c a j + wsum c b (j + a.length)
 | [], j => by simp [wsum]
 | x :: a, j => by
  simp only [List.cons_append, wsum, List.length_cons]
  rw [wsum_append c b a (j + 1), show j + 1 + a.length = j + (a.length + 1) by omega]; omega
theorem wsum_set (c : Nat → Int) (v : Int) : ∀ (l : List Int) (i j : Nat) (h : i < l.length), wsum c (l.set i v) j = wsum c l j + c (j + i) * (v - l[i])
 | x :: l, 0, j, h => by
  simp only [List.set_cons_zero, wsum, Nat.add_zero, List.getElem_cons_zero]
  rw [Int.mul_sub]; omega
 | x :: l, i + 1, j, h => by
  simp only [List.set_cons_succ, wsum, List.getElem_cons_succ]
  rw [wsum_set c v l i (j + 1) (by simpa using h), show j + 1 + i = j + (i + 1) by omega]; omega
theorem wsum_congr {c c' : Nat → Int} : ∀ (l : List Int) (j : Nat), (∀ i, j ≤ i → i < j + l.length → c i = c' i) → wsum c l j = wsum c' l j
 | [], j, h => rfl
 | x :: l, j, h => by
  simp only [wsum]
  rw [h j (Nat.le_refl _) (by simp), wsum_congr l (j + 1) (fun i h1 h2 => h i (by omega) (by simp at *; omega))]
theorem sumFrom_w : ∀ (l : List Int) (j : Nat) (acc : Int), sumFrom l (j : Int) acc = acc + wsum (fun i => (i : Int) + 1) l j
 | [], j, acc => by simp [sumFrom, wsum]
 | x :: l, j, acc => by
  simp only [sumFrom, wsum]
  have := sumFrom_w l (j + 1) (acc + ((j : Int) + 1) * x)
  rw [show ((j + 1 : Nat) : Int) = (j : Int) + 1 by omega] at this
  rw [this]; omega
def wt (last : Nat) (j : Nat) : Int := if j = last then -1 else (j : Int) + 1
theorem chk_w {x : List Int} {n : Nat} (h : x.length = n + 1) : wsum (wt n) x 0 = sumFrom (x.take n) 0 0 - rd x (n : Int) := by
 have e : x = x.take n ++ [rd x (n : Int)] := by
  rw [rd_at (by omega), List.take_append_getElem]
  rw [List.take_of_length_le (by omega)]
 have l1 : (x.take n).length = n := by rw [List.length_take]; omega
 have s : sumFrom (x.take n) 0 0 = 0 + wsum (fun i => (i : Int) + 1) (x.take n) 0 := sumFrom_w (x.take n) 0 0
 rw [s]
 conv => lhs; rw [e]
 rw [wsum_append, l1, wsum_congr (c := wt n) (c' := fun i => (i : Int) + 1) (x.take n) 0 (fun i h1 h2 => by unfold wt; rw [if_neg (by omega)])]
 simp only [wsum, Nat.zero_add]
 unfold wt
 rw [if_pos rfl]; omega
theorem prod_ne {sz a b q : Int} (hp : primeB sz = true) (ha0 : a ≠ 0) (ha : -sz < a ∧ a < sz) (hb : -sz < b ∧ b < sz) (h : a * b = sz * q) : b = 0 := by
 by_cases hs : 0 < a
 ·have := inv_q hp (show 1 ≤ a by omega) ha.2
  generalize invV sz a = v at *
  generalize a * v / sz = q2 at *
  have : b = sz * (v * q - q2 * b) := by grind
  exact small_dvd this hb.1 hb.2
 ·have := inv_q hp (show 1 ≤ -a by omega) (by omega)
  generalize invV sz (-a) = v at *
  generalize -a * v / sz = q2 at *
  have : b = sz * (-(v * q) - q2 * b) := by grind
  exact small_dvd this hb.1 hb.2
theorem decV_zero {sz wd : Int} {y : S91} {ind : Int} {x : List Int} (h : (decV sz wd y ind x).2.2 = 0) : 2 ≤ x.length ∧ rd x 0 = ind ∧ rd x ((x.length : Int) - 1) = Int.tmod (sumFrom (x.take (x.length - 1)) 0 0) sz := by
 unfold decV at h
 split at h
 ·cases h
 split at h
 ·cases h
 split at h
 ·cases h
 split at h
 ·cases h
 rename_i h1
 split at h
 ·cases h
 rename_i h2
 exact ⟨by omega, Classical.not_not.1 h1, Classical.not_not.1 h2⟩
theorem decV_err {sz wd : Int} {y : S91} {ind : Int} {x : List Int} (h : (decV sz wd y ind x).2.2 ≠ 0) : (decV sz wd y ind x).1 = [] ∧ (decV sz wd y ind x).2.1 = [] := by
 unfold decV at h ⊢
 split
 ·exact ⟨rfl, rfl⟩
 rename_i n1
 split
 ·exact ⟨rfl, rfl⟩
 rename_i n2
 split
 ·exact ⟨rfl, rfl⟩
 rename_i n3
 split
 ·exact ⟨rfl, rfl⟩
 rename_i n4
 split
 ·exact ⟨rfl, rfl⟩
 rename_i n5
 rw [if_neg n1, if_neg n2, if_neg n3, if_neg n4, if_neg n5] at h
 exact absurd rfl h
theorem chk_dvd {sz wd : Int} {y : S91} {ind : Int} {x : List Int} {n : Nat} (hn : x.length = n + 1) (hz : 0 < sz) (hx : ∀ v ∈ x, 0 ≤ v) (h : (decV sz wd y ind x).2.2 = 0) : rd x 0 = ind ∧ ∃ q, wsum (wt n) x 0 = sz * q := by
 obtain ⟨h1, h2, h3⟩ := decV_zero h
 refine ⟨h2, sumFrom (x.take n) 0 0 / sz, ?_⟩
 rw [chk_w hn]
 rw [hn, show ((n + 1 : Nat) : Int) - 1 = (n : Int) by omega, show n + 1 - 1 = n by omega, tmod_pos (sumFrom_pos _ _ _ (by omega) (by omega) (fun v hv => hx v (List.mem_of_mem_take hv)))] at h3
 have := Int.emod_add_mul_ediv (sumFrom (x.take n) 0 0) sz
 omega
theorem Fine.pos {sz : Int} {y : S91} {ind : Int} {l : List Int} (h : Fine sz y ind l) {i : Nat} (hi : i < (codeL sz y ind l).length) : 0 ≤ (codeL sz y ind l)[i] ∧ (codeL sz y ind l)[i] < sz := h.all _ (List.getElem_mem hi)
theorem code_w {sz wd : Int} {y : S91} {ind : Int} {l : List Int} (h : Fine sz y ind l) : ∃ q, wsum (wt (l.length + 1)) (codeL sz y ind l) 0 = sz * q :=
 (chk_dvd (wd := wd) (codeL_len sz y ind l) (by have := h.sz; omega) (fun v hv => (h.all v hv).1) (by rw [dec_back h])).2
theorem wrong_one {sz wd : Int} {y : S91} {ind : Int} {l : List Int} (h : Fine sz y ind l) {i : Nat} (hi : i < (codeL sz y ind l).length) {v : Int} (hv : 0 ≤ v ∧ v < sz) (hne : v ≠ (codeL sz y ind l)[i]) : (decV sz wd y ind ((codeL sz y ind l).set i v)).2.2 ≠ 0 := by
 intro he
 have hlen := codeL_len sz y ind l
 obtain ⟨h1, q1, h2⟩ := chk_dvd (n := l.length + 1) (by rw [List.length_set, hlen]) (by have := h.sz; omega) (fun w hw => by
  rcases List.mem_or_eq_of_mem_set hw with h' | h'
  ·exact (h.all w h').1
  ·omega) he
 obtain ⟨q2, h3⟩ := code_w (wd := wd) h
 rw [wsum_set _ _ _ _ _ hi, h3, Nat.zero_add] at h2
 have hp := h.pos hi
 have hl := h.ln
 have hs := h.sz
 have : v - (codeL sz y ind l)[i] = 0 := prod_ne (q := q1 - q2) h.pr (a := wt (l.length + 1) i) (by unfold wt; split <;> omega) (by unfold wt; split <;> omega) (by omega) (by rw [Int.mul_sub sz]; omega)
 omega
theorem wrong_two {sz wd : Int} {y : S91} {ind : Int} {l : List Int} (h : Fine sz y ind l) {i k : Nat} (hi : i < (codeL sz y ind l).length) (hk : k < (codeL sz y ind l).length) (hne : (codeL sz y ind l)[i] ≠ (codeL sz y ind l)[k]) : (decV sz wd y ind (((codeL sz y ind l).set i (codeL sz y ind l)[k]).set k (codeL sz y ind l)[i])).2.2 ≠ 0 := by
 intro he
 have hlen := codeL_len sz y ind l
 have hik : i ≠ k := fun e => by subst e; exact hne rfl
 have pi := h.pos hi
 have pk := h.pos hk
 obtain ⟨h1, q1, h2⟩ := chk_dvd (n := l.length + 1) (by rw [List.length_set, List.length_set, hlen]) (by have := h.sz; omega) (fun w hw => by
  rcases List.mem_or_eq_of_mem_set hw with h' | h'
  ·rcases List.mem_or_eq_of_mem_set h' with h' | h'
   ·exact (h.all w h').1
   ·omega
  ·omega) he
 obtain ⟨q2, h3⟩ := code_w (wd := wd) h
 rw [wsum_set _ _ _ _ _ (by rw [List.length_set]; exact hk), wsum_set _ _ _ _ _ hi, h3, Nat.zero_add, Nat.zero_add, List.getElem_set_ne hik] at h2
 have hl := h.ln
 have hs := h.sz
 generalize (codeL sz y ind l)[i] = a at *
 generalize (codeL sz y ind l)[k] = b at *
 have e : (wt (l.length + 1) i - wt (l.length + 1) k) * (b - a) = sz * (q1 - q2) := by grind
 have : b - a = 0 := prod_ne (q := q1 - q2) h.pr (a := wt (l.length + 1) i - wt (l.length + 1) k) (by unfold wt; split <;> split <;> omega) (by unfold wt; split <;> split <;> omega) (by omega) e
 omega
end Go.Proofs.Ytnidgkmopocdkaa.P
