import Derived.Test.YtnidgkmopocdkaaA7HDec
namespace Go.Proofs.Ytnidgkmopocdkaa.P
open Go.RowKit Go.Proofs.YtnidgkmopocdkaaW.PrintWords Go.Proofs.YtnidgkmopocdkaaW.PrintLast Go.Proofs.YtnidgkmopocdkaaW.PrintMore
set_option linter.unusedVariables false
set_option linter.unusedSimpArgs false
theorem turnL_at {cd : Int → Int → Int} {l : List Int} {k i : Nat} (h : i < k) : (turnL cd l k)[i]'(by rw [turnL_length]; exact h) = cd (l.getD i 0) (i : Int) := by simp [turnL]
theorem getD_at' {l : List Int} {i : Nat} (h : i < l.length) : l.getD i 0 = l[i] := by rw [List.getD_eq_getElem?_getD, List.getElem?_eq_getElem h]; rfl
def readyB (sz wd : Int) (keys : List S91) (days l : List Int) : Bool := decide (keys.length ≤ 8) && (decide (days.length ≤ 11) && (decide (checkB sz wd keys days = 0) && (decide (l.length ≤ 10) && l.all (plainB sz))))
theorem ready_f {k : Nat} (sz wd : Int) (keys : List S82) (days l : List Int) (hk : 50 < k) : glisterlaw04_ready.f k sz wd keys days l = some (readyB sz wd (keys.map toK) days l) := by
 unfold glisterlaw04_ready.f glisterlaw04_Thin.f readyB
 rw [List.length_map]
 by_cases h1 : keys.length ≤ 8
 ·rw [if_pos (show (keys.length : Int) ≤ 8 by omega), Option.bind_some]
  by_cases h2 : days.length ≤ 11
  ·rw [if_pos (show decide ((days.length : Int) ≤ 11) = true from decide_eq_true (by omega)), fault_f _ _ _ _ hk, Option.bind_some]
   by_cases h3 : checkB sz wd (keys.map toK) days = 0
   ·rw [if_pos h3]
    by_cases h4 : l.length ≤ 10
    ·rw [if_pos (show (l.length : Int) ≤ 10 by omega), Plain_f _ _ _ _ _ (by omega) (by omega), Option.bind_some]
     simp [h1, h2, h3, h4]
    ·rw [if_neg (show ¬ (l.length : Int) ≤ 10 by omega)]; simp [h4]
   ·rw [if_neg h3]; simp [h3]
  ·rw [if_neg (show ¬ decide ((days.length : Int) ≤ 11) = true by rw [decide_eq_true_iff]; omega)]; simp [h2]
 ·rw [if_neg (show ¬ (keys.length : Int) ≤ 8 by omega), Option.bind_some, if_neg (by decide)]; simp [h1]
theorem ready_is {sz wd : Int} {keys : List S91} {days l : List Int} (h : readyB sz wd keys days l = true) : checkB sz wd keys days = 0 ∧ l.length ≤ 10 ∧ l.all (plainB sz) = true := by
 unfold readyB at h
 simp only [Bool.and_eq_true, decide_eq_true_iff] at h
 exact ⟨h.2.2.1, h.2.2.2.1, h.2.2.2.2⟩
def dayOf (nd : Nat) (a : Int) : Int := Int.tmod (wrap64 a) (nd : Int)
theorem dayOf_bd {nd : Nat} {a : Int} (h0 : 0 ≤ a) (h1 : a ≤ 255) (hn : nd ≠ 0) : 0 ≤ dayOf nd a ∧ dayOf nd a < nd := by
 unfold dayOf
 rw [wrap_of (by omega) (by omega)]
 exact tmod_bd h0 (by omega)
theorem codeL_len (sz : Int) (y : S91) (ind : Int) (l : List Int) : (codeL sz y ind l).length = l.length + 2 := by simp [codeL, bodyL, turnL_length]
theorem bodyL_len (sz : Int) (y : S91) (ind : Int) (l : List Int) : (bodyL sz y ind l).length = l.length + 1 := by simp [bodyL, turnL_length]
theorem codeL_take (sz : Int) (y : S91) (ind : Int) (l : List Int) : (codeL sz y ind l).take (l.length + 1) = bodyL sz y ind l := by
 unfold codeL
 rw [← bodyL_len sz y ind l, List.take_left]
theorem codeL_inner (sz : Int) (y : S91) (ind : Int) (l : List Int) : innerL (codeL sz y ind l) = turnL (codeV sz y.f0 y.f1 y.f2) l l.length := by
 unfold innerL
 rw [codeL_len, show l.length + 2 - 1 = l.length + 1 by omega, codeL_take]
 rfl
theorem codeL_first (sz : Int) (y : S91) (ind : Int) (l : List Int) : rd (codeL sz y ind l) 0 = ind := rfl
theorem codeL_last (sz : Int) (y : S91) (ind : Int) (l : List Int) : rd (codeL sz y ind l) ((l.length : Int) + 1) = Int.tmod (sumFrom (bodyL sz y ind l) 0 0) sz := by
 rw [show (l.length : Int) + 1 = ((l.length + 1 : Nat) : Int) by omega, rd_at (by rw [codeL_len]; omega)]
 unfold codeL
 rw [List.getElem_append_right (by rw [bodyL_len]; omega)]
 simp [bodyL_len]
structure Fine (sz : Int) (y : S91) (ind : Int) (l : List Int) : Prop where
 pr : primeB sz = true
 ky : KeyOk sz y
 i0 : 0 ≤ ind
 i1 : ind < 6
 ln : l.length ≤ 10
 pl : l.all (plainB sz) = true
theorem Fine.sz {sz : Int} {y : S91} {ind : Int} {l : List Int} (h : Fine sz y ind l) : 13 ≤ sz ∧ sz ≤ 41 := prime_in h.pr
theorem Fine.at {sz : Int} {y : S91} {ind : Int} {l : List Int} (h : Fine sz y ind l) {i : Nat} (hi : i < l.length) : 0 ≤ l[i] ∧ l[i] < sz := (plainB_iff h.sz.1 h.sz.2).1 (List.all_eq_true.1 h.pl _ (List.getElem_mem hi))
theorem fine_of {sz wd : Int} {keys : List S91} {days l : List Int} {day : Int} (h : checkB sz wd keys days = 0) (hl : l.length ≤ 10) (hp : l.all (plainB sz) = true) (h0 : 0 ≤ day) (h1 : day < days.length) : Fine sz (rd_T91 keys (rd days day)) (indV keys.length days day) l := by
 have g := good_of h
 have ho := g.ds _ (rd_mem h0 h1)
 have hi := ind_bd g h0 h1
 exact ⟨g.pr, g.ks _ (rd91_mem ho.1 ho.2), hi.1, by have := g.k5; omega, hl, hp⟩
theorem Fine.code {sz : Int} {y : S91} {ind : Int} {l : List Int} (h : Fine sz y ind l) {i : Nat} (hi : i < l.length) : 0 ≤ codeV sz y.f0 y.f1 y.f2 (l.getD i 0) (i : Int) ∧ codeV sz y.f0 y.f1 y.f2 (l.getD i 0) (i : Int) < sz := by
 have := h.ln
 rw [getD_at' hi]
 exact (codeV_eq h.sz.1 h.sz.2 h.ky (h.at hi) (by omega)).2
theorem Fine.body {sz : Int} {y : S91} {ind : Int} {l : List Int} (h : Fine sz y ind l) : ∀ x ∈ bodyL sz y ind l, 0 ≤ x ∧ x < sz := by
 intro x hx
 unfold bodyL at hx
 rcases List.mem_append.1 hx with h' | h'
 ·simp at h'; subst h'; have := h.i0; have := h.i1; have := h.sz; omega
 ·obtain ⟨i, hi, rfl⟩ := turnL_mem h'
  exact h.code hi
theorem sumFrom_pos : ∀ (l : List Int) (i acc : Int), 0 ≤ i → 0 ≤ acc → (∀ x ∈ l, 0 ≤ x) → 0 ≤ sumFrom l i acc
 | [], i, acc, _, h, _ => h
 | x :: l, i, acc, hi, h, hx => sumFrom_pos l (i + 1) _ (by omega) (by have := Int.mul_nonneg (show 0 ≤ i + 1 by omega) (hx x (by simp)); omega) (fun y hy => hx y (by simp [hy]))
theorem Fine.chk {sz : Int} {y : S91} {ind : Int} {l : List Int} (h : Fine sz y ind l) : 0 ≤ Int.tmod (sumFrom (bodyL sz y ind l) 0 0) sz ∧ Int.tmod (sumFrom (bodyL sz y ind l) 0 0) sz < sz :=
 tmod_bd (sumFrom_pos _ _ _ (by omega) (by omega) (fun x hx => (h.body x hx).1)) (by have := h.sz; omega)
theorem Fine.all {sz : Int} {y : S91} {ind : Int} {l : List Int} (h : Fine sz y ind l) : ∀ x ∈ codeL sz y ind l, 0 ≤ x ∧ x < sz := by
 intro x hx
 unfold codeL at hx
 rcases List.mem_append.1 hx with h' | h'
 ·exact h.body x h'
 ·simp at h'; subst h'; exact h.chk
theorem all_plain {sz : Int} (h0 : 13 ≤ sz) (h1 : sz ≤ 41) {l : List Int} (h : ∀ x ∈ l, 0 ≤ x ∧ x < sz) : l.all (plainB sz) = true := List.all_eq_true.2 fun x hx => (plainB_iff h0 h1).2 (h x hx)
theorem Fine.plain {sz : Int} {y : S91} {ind : Int} {l : List Int} (h : Fine sz y ind l) : plainL sz y (codeL sz y ind l) = l := by
 unfold plainL
 rw [codeL_inner, turnL_length]
 refine List.ext_getElem (by rw [turnL_length]) fun i h1 h2 => ?_
 rw [turnL_length] at h1
 have := h.ln
 rw [turnL_at h1, getD_at' (by rw [turnL_length]; exact h1), turnL_at h1, getD_at' h2, dec_code h.pr h.ky (h.at h2) (by omega)]
theorem dec_back {sz wd : Int} {y : S91} {ind : Int} {l : List Int} (h : Fine sz y ind l) : decV sz wd y ind (codeL sz y ind l) = (l, keptL wd l l.length, 0) := by
 unfold decV
 have hl := codeL_len sz y ind l
 have := h.ln
 rw [if_neg (by omega), if_neg (by omega), if_neg (by rw [all_plain h.sz.1 h.sz.2 h.all]; decide), if_neg (fun c => c (codeL_first _ _ _ _)), hl, show ((l.length + 2 : Nat) : Int) - 1 = (l.length : Int) + 1 by omega, codeL_last, show l.length + 2 - 1 = l.length + 1 by omega, codeL_take, if_neg (fun c => c rfl), h.plain]
end Go.Proofs.Ytnidgkmopocdkaa.P
