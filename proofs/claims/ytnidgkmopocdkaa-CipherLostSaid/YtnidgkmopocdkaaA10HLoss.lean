import Derived.Test.YtnidgkmopocdkaaA10HPure2
import Derived.Test.YtnidgkmopocdkaaA10HPlan
import Derived.Test.YtnidgkmopocdkaaA10P8
import Derived.Test.YtnidgkmopocdkaaA10P15
import Derived.Test.YtnidgkmopocdkaaA10P17
namespace Go.Proofs.Ytnidgkmopocdkaa.P
open Go.RowKit Go.Proofs.YtnidgkmopocdkaaW.PrintWords Go.Proofs.YtnidgkmopocdkaaW.PrintLast Go.Proofs.YtnidgkmopocdkaaW.PrintMore
set_option linter.unusedVariables false
set_option linter.unusedSimpArgs false
def toL (y : S58) : S110 := ⟨y.f0, y.f1⟩
theorem rd58_at {l : List S58} {i : Nat} (h : i < l.length) : rd_T58 l (i : Int) = l[i] := by simp [rd_T58, List.getD, List.getElem?_eq_getElem h]
theorem Losses_l0 (l : List S58) (hl : l.length ≤ 1000) : ∀ (d k i : Nat) (acc : List S110), i + d = l.length → d < k → acc.length = i → glisterlaw04_Losses.l0 k l acc (i : Int) = some (acc ++ (l.drop i).map toL)
 | 0, k, i, acc, hd, h, ha => by
  obtain ⟨k, rfl, _⟩ := succ_of h
  simp only [glisterlaw04_Losses.l0]
  rw [if_neg (by omega), List.drop_eq_nil_of_le (by omega)]
  simp
 | d + 1, k, i, acc, hd, h, ha => by
  obtain ⟨k, rfl, _⟩ := succ_of h
  simp only [glisterlaw04_Losses.l0]
  rw [if_pos (by omega), if_pos (by omega), if_pos (by omega), wrap_of (by omega) (by omega)]
  have := Losses_l0 l hl d k (i + 1) (acc ++ [⟨(rd_T58 l i).f0, (rd_T58 l i).f1⟩]) (by omega) (by omega) (by simp [ha])
  rw [show (((i + 1 : Nat)) : Int) = (i : Int) + 1 by omega] at this
  rw [this, drop_at (show i < l.length by omega), rd58_at (by omega)]
  simp only [toL, List.map_cons, List.append_assoc, List.singleton_append]
theorem Losses_f {k : Nat} (l : List S58) (hl : l.length ≤ 1000) (h : l.length < k) : glisterlaw04_Losses.f k l = some (l.map toL) := by
 unfold glisterlaw04_Losses.f
 have := Losses_l0 l hl l.length k 0 [] (by omega) h rfl
 simpa using this
theorem LossFault_l0 (sz wd : Int) (keys : List S82) (days : List Int) (l : List S58) (hl : l.length ≤ 1000) : ∀ (d k i : Nat), i + d = l.length → d < k → glisterref04_LossFault.l0 k l (i : Int) sz wd keys days = some (if (l.drop i).all (fun y => lossB keys.length days.length (toL y)) = true then 0 else 2)
 | 0, k, i, hd', h => by
  obtain ⟨k, rfl, _⟩ := succ_of h
  simp only [glisterref04_LossFault.l0]
  rw [if_neg (by omega), List.drop_eq_nil_of_le (by omega)]
  simp
 | d + 1, k, i, hd', h => by
  obtain ⟨k, rfl, _⟩ := succ_of h
  simp only [glisterref04_LossFault.l0]
  rw [if_pos (by omega), if_pos (by omega), rd58_at (by omega), In_f, In_f, wrap_of (show -9223372036854775808 ≤ (i : Int) + 1 by omega) (by omega)]
  have := LossFault_l0 sz wd keys days l hl d k (i + 1) (by omega) (by omega)
  rw [show (((i + 1 : Nat)) : Int) = (i : Int) + 1 by omega] at this
  simp only [Option.bind_some]
  rw [this, drop_at (show i < l.length by omega), List.all_cons, show lossB keys.length days.length (toL l[i]) = (inB l[i].f0 0 (wrap64 ((keys.length : Int) - 1)) && inB l[i].f1 0 (wrap64 ((days.length : Int) - 1))) from rfl]
  cases inB l[i].f0 0 (wrap64 ((keys.length : Int) - 1)) <;> cases inB l[i].f1 0 (wrap64 ((days.length : Int) - 1)) <;> simp
theorem lossy_f {k : Nat} (sz wd : Int) (keys : List S82) (days : List Int) (l : List S58) (hl : l.length ≤ 1000) (h : l.length < k) (hk : 50 < k) : glisterlaw04_lossy.f k sz wd keys days l = some (lossesV sz wd (keys.map toK) days (l.map toL)) := by
 unfold glisterlaw04_lossy.f lossesV glisterref04_LossFault.f
 rw [fault_f _ _ _ _ hk, Option.bind_some, List.length_map, List.length_map]
 by_cases hc : checkB sz wd (keys.map toK) days = 0
 ·rw [if_pos hc, if_neg (show ¬ checkB sz wd (keys.map toK) days ≠ 0 from fun h => h hc)]
  by_cases h6 : 6 < l.length
  ·rw [if_pos (by omega), if_pos h6]; rfl
  ·have := LossFault_l0 sz wd keys days l hl l.length k 0 (by omega) h
   rw [List.drop_zero] at this
   rw [if_neg (by omega), if_neg h6, show ((0 : Int)) = ((0 : Nat) : Int) from rfl, this, Option.bind_some, List.all_map]
   rfl
 ·rw [if_neg hc, if_pos hc]
def anyB (key d : Int) (l : List S58) : Bool := l.any fun x => decide (x.f0 = key) && decide (x.f1 ≤ d)
theorem had_rel (key : Int) : ∀ (l : List S58) (first : Int), (∀ x ∈ l, 0 ≤ x.f1) → (first = -1 ∨ 0 ≤ first) → (hadFrom key (l.map toL) first = -1 ∨ 0 ≤ hadFrom key (l.map toL) first) ∧ ∀ d, (hadFrom key (l.map toL) first ≠ -1 ∧ hadFrom key (l.map toL) first ≤ d) ↔ ((first ≠ -1 ∧ first ≤ d) ∨ anyB key d l = true)
 | [], first, _, hf => ⟨hf, fun d => by simp [hadFrom, anyB]⟩
 | x :: l, first, hx, hf => by
  have h0 := hx x (by simp)
  obtain ⟨i1, i2⟩ := had_rel key l (if x.f0 = key then (if first = -1 then x.f1 else if x.f1 < first then x.f1 else first) else first) (fun y hy => hx y (by simp [hy])) (by split <;> first | (split <;> first | omega ) | omega)
  refine ⟨i1, fun d => ?_⟩
  show (hadFrom key (l.map toL) (if x.f0 = key then (if first = -1 then x.f1 else if x.f1 < first then x.f1 else first) else first) ≠ -1 ∧ hadFrom key (l.map toL) (if x.f0 = key then (if first = -1 then x.f1 else if x.f1 < first then x.f1 else first) else first) ≤ d) ↔ _
  rw [i2 d]
  unfold anyB
  rw [List.any_cons, Bool.or_eq_true, Bool.and_eq_true, decide_eq_true_iff, decide_eq_true_iff]
  by_cases h1 : x.f0 = key
  ·rw [if_pos h1]
   generalize (l.any fun x => decide (x.f0 = key) && decide (x.f1 ≤ d)) = b
   by_cases h2 : first = -1
   ·rw [if_pos h2]; cases b <;> simp <;> omega
   ·rw [if_neg h2]
    by_cases h3 : x.f1 < first
    ·rw [if_pos h3]; cases b <;> simp <;> omega
    ·rw [if_neg h3]; cases b <;> simp <;> omega
  ·rw [if_neg h1]; simp [h1]
def expV (h d : Int) : Int := if h = -1 then -1 else mx h d
def expFrom (lost : List S110) : List Int → Int → List Int
 | [], _ => []
 | n :: l, i => expV (hadV lost n) i :: expFrom lost l (i + 1)
theorem expFrom_len (lost : List S110) : ∀ (l : List Int) (i : Int), (expFrom lost l i).length = l.length
 | [], _ => rfl
 | n :: l, i => by simp [expFrom, expFrom_len lost l (i + 1)]
theorem hadk_f {k : Nat} (l : List S110) (key : Int) (hm : l.length ≤ 1000) (h : l.length < k) : cipher_had.f k l key = some (hadV l key) := by
 unfold cipher_had.f hadV
 have := had_l0 l key hm l.length 0 (-1) k (by omega) h
 simpa using this
theorem exposed_l0 (lost : List S110) (days : List Int) (hm : lost.length ≤ 50) (hd : days.length ≤ 50) : ∀ (n k i : Nat) (acc : List Int), i + n = days.length → n + 60 < k → acc.length = i → cipher_Exposed.l0 k lost acc days (days.length : Int) (i : Int) = some (acc ++ expFrom lost (days.drop i) (i : Int), 0)
 | 0, k, i, acc, hd', h, ha => by
  obtain ⟨k, rfl, _⟩ := succ_of h
  simp only [cipher_Exposed.l0]
  rw [if_neg (by omega), List.drop_eq_nil_of_le (by omega)]
  simp [expFrom]
 | n + 1, k, i, acc, hd', h, ha => by
  obtain ⟨k, rfl, _⟩ := succ_of h
  simp only [cipher_Exposed.l0]
  have := exposed_l0 lost days hm hd n k (i + 1) (acc ++ [expV (hadV lost days[i]) (i : Int)]) (by omega) (by omega) (by simp [ha])
  rw [show (((i + 1 : Nat)) : Int) = (i : Int) + 1 by omega] at this
  rw [if_pos (by omega), if_pos (by omega), if_pos (by omega), rd_at (by omega), hadk_f _ _ (by omega) (by omega), Option.bind_some, wrap_of (by omega) (by omega), drop_at (show i < days.length by omega)]
  unfold expV at this
  by_cases h1 : hadV lost days[i] = -1
  ·rw [if_pos h1] at this
   rw [if_pos h1, if_pos (by omega), h1, this]
   simp [expFrom, expV, h1]
  ·rw [if_neg h1] at this
   rw [if_neg h1, if_pos (by omega), this]
   simp [expFrom, expV, h1]
theorem exposed_f {k : Nat} (sz wd : Int) (keys : List S91) (days : List Int) (lost : List S110) (h : lossesV sz wd keys days lost = 0) (hk : 100 < k) : cipher_Exposed.f k sz wd keys days lost = some (expFrom lost days 0, 0) := by
 have hs := losses_small h
 unfold cipher_Exposed.f
 rw [losses_f, Option.bind_some, if_pos h]
 have e1 := exposed_l0 lost days (by omega) (by omega) days.length k 0 [] (by omega) (by omega) rfl
 rw [List.drop_zero, List.nil_append, show ((0 : Nat) : Int) = 0 from rfl] at e1
 exact e1
def lossedB (sz wd : Int) (keys : List S91) (days : List Int) (lost : List S110) : Bool := decide (keys.length ≤ 8) && (decide (days.length ≤ 11) && (decide (lost.length ≤ 9) && decide (lossesV sz wd keys days lost = 0)))
theorem lossed_f {k : Nat} (sz wd : Int) (keys : List S82) (days : List Int) (l : List S58) (hk : 50 < k) : glisterlaw04_lossed.f k sz wd keys days l = some (lossedB sz wd (keys.map toK) days (l.map toL)) := by
 unfold glisterlaw04_lossed.f glisterlaw04_Thin.f lossedB
 rw [List.length_map, List.length_map]
 by_cases h1 : keys.length ≤ 8
 ·rw [if_pos (show (keys.length : Int) ≤ 8 by omega), Option.bind_some]
  by_cases h2 : days.length ≤ 11
  ·rw [if_pos (show decide ((days.length : Int) ≤ 11) = true from decide_eq_true (by omega))]
   by_cases h3 : l.length ≤ 9
   ·rw [if_pos (show (l.length : Int) ≤ 9 by omega), lossy_f _ _ _ _ _ (by omega) (by omega) hk, Option.bind_some]
    simp only [h1, h2, h3, decide_true, Bool.true_and]
    by_cases h4 : lossesV sz wd (keys.map toK) days (l.map toL) = 0
    ·rw [decide_eq_true h4, h4]; rfl
    ·rw [decide_eq_false h4, beq_eq_false_iff_ne.2 h4]
   ·rw [if_neg (show ¬ (l.length : Int) ≤ 9 by omega)]; simp [h3]
  ·rw [if_neg (show ¬ decide ((days.length : Int) ≤ 11) = true by rw [decide_eq_true_iff]; omega)]; simp [h2]
 ·rw [if_neg (show ¬ (keys.length : Int) ≤ 8 by omega), Option.bind_some, if_neg (by decide)]; simp [h1]
theorem lossed_is {sz wd : Int} {keys : List S91} {days : List Int} {lost : List S110} (h : lossedB sz wd keys days lost = true) : lossesV sz wd keys days lost = 0 := by
 unfold lossedB at h
 simp only [Bool.and_eq_true, decide_eq_true_iff] at h
 exact h.2.2.2
theorem losses_all {sz wd : Int} {keys : List S91} {days : List Int} {lost : List S110} (h : lossesV sz wd keys days lost = 0) : lost.all (lossB keys.length days.length) = true := by
 unfold lossesV at h
 split at h
 ·rename_i h1; exact absurd h h1
 split at h
 ·cases h
 split at h
 ·assumption
 ·cases h
theorem losses_at {sz wd : Int} {keys : List S91} {days : List Int} {lost : List S110} (h : lossesV sz wd keys days lost = 0) {x : S110} (hx : x ∈ lost) : 0 ≤ x.f0 ∧ x.f0 ≤ (keys.length : Int) - 1 ∧ 0 ≤ x.f1 ∧ x.f1 ≤ (days.length : Int) - 1 := by
 have := List.all_eq_true.1 (losses_all h) x hx
 have hs := losses_small h
 unfold lossB at this
 rw [Bool.and_eq_true, inB_iff, inB_iff, wrap_of (show -9223372036854775808 ≤ (days.length : Int) - 1 by omega) (by omega), wrap_of (show -9223372036854775808 ≤ (keys.length : Int) - 1 by omega) (by omega)] at this
 omega
end Go.Proofs.Ytnidgkmopocdkaa.P
