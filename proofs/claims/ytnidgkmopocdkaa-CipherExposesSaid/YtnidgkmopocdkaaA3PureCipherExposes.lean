import Derived.Test.YtnidgkmopocdkaaA3P19
import Derived.Test.YtnidgkmopocdkaaA3HPure
import Derived.Test.YtnidgkmopocdkaaA3P0
import Derived.Test.YtnidgkmopocdkaaA3P4
namespace Go.Proofs.Ytnidgkmopocdkaa.Pure
open Go.RowKit Go.Proofs.Ytnidgkmopocdkaa.P Go.Proofs.YtnidgkmopocdkaaW.PrintWords Go.Proofs.YtnidgkmopocdkaaW.PrintLast Go.Proofs.YtnidgkmopocdkaaW.PrintMore
def toL (y : S58) : S110 := ⟨y.f0, y.f1⟩
theorem rd58_at {l : List S58} {i : Nat} (h : i < l.length) : rd_T58 l (i : Int) = l[i] := by simp [rd_T58, List.getD, List.getElem?_eq_getElem h]
theorem Losses_l0 (l : List S58) (hl : l.length ≤ 1000) : ∀ (d k i : Nat) (acc : List S110), i + d = l.length → d < k → acc.length = i → glisterlaw04_Losses.l0 k l acc (i : Int) = some (acc ++ (l.drop i).map toL)
 | 0, k, i, acc, hd, h, ha => by
  obtain ⟨k, rfl, _⟩ := succ_of h
  simp only [glisterlaw04_Losses.l0]
  rw [if_neg (by omega), List.drop_eq_nil_of_le (by omega)]
  simp
 | d + 1, k, i, acc, hd, h, ha => by
  obtain ⟨k, rfl, _⟩ := succ_of h
  simp only [glisterlaw04_Losses.l0]
  rw [if_pos (by omega), if_pos (by omega), if_pos (by omega), wrap_of (by omega) (by omega)]
  have := Losses_l0 l hl d k (i + 1) (acc ++ [⟨(rd_T58 l i).f0, (rd_T58 l i).f1⟩]) (by omega) (by omega) (by simp [ha])
  rw [show (((i + 1 : Nat)) : Int) = (i : Int) + 1 by omega] at this
  rw [this, drop_at (show i < l.length by omega), rd58_at (by omega)]
  simp only [toL, List.map_cons, List.append_assoc, List.singleton_append]
theorem Losses_f {k : Nat} (l : List S58) (hl : l.length ≤ 1000) (h : l.length < k) : glisterlaw04_Losses.f k l = some (l.map toL) := by
 unfold glisterlaw04_Losses.f
 have := Losses_l0 l hl l.length k 0 [] (by omega) h rfl
 simpa using this
theorem LossFault_l0 (sz wd : Int) (keys : List S82) (days : List Int) (l : List S58) (hl : l.length ≤ 1000) : ∀ (d k i : Nat), i + d = l.length → d < k → glisterref04_LossFault.l0 k l (i : Int) sz wd keys days = some (if (l.drop i).all (fun y => lossB keys.length days.length (toL y)) = true then 0 else 2)
 | 0, k, i, hd', h => by
  obtain ⟨k, rfl, _⟩ := succ_of h
  simp only [glisterref04_LossFault.l0]
  rw [if_neg (by omega), List.drop_eq_nil_of_le (by omega)]
  simp
 | d + 1, k, i, hd', h => by
  obtain ⟨k, rfl, _⟩ := succ_of h
  simp only [glisterref04_LossFault.l0]
  rw [if_pos (by omega), if_pos (by omega), rd58_at (by omega), In_f, In_f, wrap_of (show -9223372036854775808 ≤ (i : Int) + 1 by omega) (by omega)]
  have := LossFault_l0 sz wd keys days l hl d k (i + 1) (by omega) (by omega)
  rw [show (((i + 1 : Nat)) : Int) = (i : Int) + 1 by omega] at this
  simp only [Option.bind_some]
  rw [this, drop_at (show i < l.length by omega), List.all_cons, show lossB keys.length days.length (toL l[i]) = (inB l[i].f0 0 (wrap64 ((keys.length : Int) - 1)) && inB l[i].f1 0 (wrap64 ((days.length : Int) - 1))) from rfl]
  cases inB l[i].f0 0 (wrap64 ((keys.length : Int) - 1)) <;> cases inB l[i].f1 0 (wrap64 ((days.length : Int) - 1)) <;> simp
theorem lossy_f {k : Nat} (sz wd : Int) (keys : List S82) (days : List Int) (l : List S58) (hl : l.length ≤ 1000) (h : l.length < k) (hk : 50 < k) : glisterlaw04_lossy.f k sz wd keys days l = some (lossesV sz wd (keys.map toK) days (l.map toL)) := by
 unfold glisterlaw04_lossy.f lossesV glisterref04_LossFault.f
 rw [fault_f _ _ _ _ hk, Option.bind_some, List.length_map, List.length_map]
 by_cases hc : checkB sz wd (keys.map toK) days = 0
 ·rw [if_pos hc, if_neg (show ¬ checkB sz wd (keys.map toK) days ≠ 0 from fun h => h hc)]
  by_cases h6 : 6 < l.length
  ·rw [if_pos (by omega), if_pos h6]; rfl
  ·have := LossFault_l0 sz wd keys days l hl l.length k 0 (by omega) h
   rw [List.drop_zero] at this
   rw [if_neg (by omega), if_neg h6, show ((0 : Int)) = ((0 : Nat) : Int) from rfl, this, Option.bind_some, List.all_map]
   rfl
 ·rw [if_neg hc, if_pos hc]
def anyB (key d : Int) (l : List S58) : Bool := l.any fun x => decide (x.f0 = key) && decide (x.f1 ≤ d)
theorem Had_l0 (l : List S58) (key d : Int) (hl : l.length ≤ 1000) : ∀ (n k i : Nat), i + n = l.length → n < k → glisterref04_Had.l0 k l key d (i : Int) = some (anyB key d (l.drop i))
 | 0, k, i, hd', h => by
  obtain ⟨k, rfl, _⟩ := succ_of h
  simp only [glisterref04_Had.l0]
  rw [if_neg (by omega), List.drop_eq_nil_of_le (by omega)]
  rfl
 | n + 1, k, i, hd', h => by
  obtain ⟨k, rfl, _⟩ := succ_of h
  simp only [glisterref04_Had.l0]
  have := Had_l0 l key d hl n k (i + 1) (by omega) (by omega)
  rw [show (((i + 1 : Nat)) : Int) = (i : Int) + 1 by omega] at this
  rw [if_pos (by omega), if_pos (by omega), rd58_at (by omega), wrap_of (by omega) (by omega), this, drop_at (show i < l.length by omega)]
  unfold anyB
  rw [List.any_cons]
  by_cases h1 : l[i].f0 = key
  ·rw [if_pos h1]
   by_cases h2 : l[i].f1 ≤ d
   ·rw [if_pos h2]; simp [h1, h2]
   ·rw [if_neg h2]; simp [h2]
  ·rw [if_neg h1]; simp [h1]
theorem Had_f {k : Nat} (l : List S58) (key d : Int) (hl : l.length ≤ 1000) (h : l.length < k) : glisterref04_Had.f k l key d = some (anyB key d l) := by
 unfold glisterref04_Had.f
 have := Had_l0 l key d hl l.length k 0 (by omega) h
 simpa using this
theorem had_rel (key : Int) : ∀ (l : List S58) (first : Int), (∀ x ∈ l, 0 ≤ x.f1) → (first = -1 ∨ 0 ≤ first) → (hadFrom key (l.map toL) first = -1 ∨ 0 ≤ hadFrom key (l.map toL) first) ∧ ∀ d, (hadFrom key (l.map toL) first ≠ -1 ∧ hadFrom key (l.map toL) first ≤ d) ↔ ((first ≠ -1 ∧ first ≤ d) ∨ anyB key d l = true)
 | [], first, _, hf => ⟨hf, fun d => by simp [hadFrom, anyB]⟩
 | x :: l, first, hx, hf => by
  have h0 := hx x (by simp)
  obtain ⟨i1, i2⟩ := had_rel key l (if x.f0 = key then (if first = -1 then x.f1 else if x.f1 < first then x.f1 else first) else first) (fun y hy => hx y (by simp [hy])) (by split <;> first | (split <;> first | omega ) | omega)
  refine ⟨i1, fun d => ?_⟩
  show (hadFrom key (l.map toL) (if x.f0 = key then (if first = -1 then x.f1 else if x.f1 < first then x.f1 else first) else first) ≠ -1 ∧ hadFrom key (l.map toL) (if x.f0 = key then (if first = -1 then x.f1 else if x.f1 < first then x.f1 else first) else first) ≤ d) ↔ _
  rw [i2 d]
  unfold anyB
  rw [List.any_cons, Bool.or_eq_true, Bool.and_eq_true, decide_eq_true_iff, decide_eq_true_iff]
  by_cases h1 : x.f0 = key
  ·rw [if_pos h1]
   generalize (l.any fun x => decide (x.f0 = key) && decide (x.f1 ≤ d)) = b
   by_cases h2 : first = -1
   ·rw [if_pos h2]; cases b <;> simp <;> omega
   ·rw [if_neg h2]
    by_cases h3 : x.f1 < first
    ·rw [if_pos h3]; cases b <;> simp <;> omega
    ·rw [if_neg h3]; cases b <;> simp <;> omega
  ·rw [if_neg h1]; simp [h1]
def expV (h d : Int) : Int := if h = -1 then -1 else mx h d
def expFrom (lost : List S110) : List Int → Int → List Int
 | [], _ => []
 | n :: l, i => expV (hadV lost n) i :: expFrom lost l (i + 1)
theorem expFrom_len (lost : List S110) : ∀ (l : List Int) (i : Int), (expFrom lost l i).length = l.length
 | [], _ => rfl
 | n :: l, i => by simp [expFrom, expFrom_len lost l (i + 1)]
theorem hadk_f {k : Nat} (l : List S110) (key : Int) (hm : l.length ≤ 1000) (h : l.length < k) : cipher_had.f k l key = some (hadV l key) := by
 unfold cipher_had.f hadV
 have := had_l0 l key hm l.length 0 (-1) k (by omega) h
 simpa using this
theorem exposed_l0 (lost : List S110) (days : List Int) (hm : lost.length ≤ 50) (hd : days.length ≤ 50) : ∀ (n k i : Nat) (acc : List Int), i + n = days.length → n + 60 < k → acc.length = i → cipher_Exposed.l0 k lost acc days (days.length : Int) (i : Int) = some (acc ++ expFrom lost (days.drop i) (i : Int), 0)
 | 0, k, i, acc, hd', h, ha => by
  obtain ⟨k, rfl, _⟩ := succ_of h
  simp only [cipher_Exposed.l0]
  rw [if_neg (by omega), List.drop_eq_nil_of_le (by omega)]
  simp [expFrom]
 | n + 1, k, i, acc, hd', h, ha => by
  obtain ⟨k, rfl, _⟩ := succ_of h
  simp only [cipher_Exposed.l0]
  have := exposed_l0 lost days hm hd n k (i + 1) (acc ++ [expV (hadV lost days[i]) (i : Int)]) (by omega) (by omega) (by simp [ha])
  rw [show (((i + 1 : Nat)) : Int) = (i : Int) + 1 by omega] at this
  rw [if_pos (by omega), if_pos (by omega), if_pos (by omega), rd_at (by omega), hadk_f _ _ (by omega) (by omega), Option.bind_some, wrap_of (by omega) (by omega), drop_at (show i < days.length by omega)]
  unfold expV at this
  by_cases h1 : hadV lost days[i] = -1
  ·rw [if_pos h1] at this
   rw [if_pos h1, if_pos (by omega), h1, this]
   simp [expFrom, expV, h1]
  ·rw [if_neg h1] at this
   rw [if_neg h1, if_pos (by omega), this]
   simp [expFrom, expV, h1]
def fromV (h nd x8 : Int) : Int := if h = -1 then -1 else if mx h (x8 + 1) ≤ nd - 1 then mx h (x8 + 1) else -1
theorem exposedR_l1 (sz wd : Int) (keys : List S82) (days : List Int) (lost : List S58) (hm : lost.length ≤ 50) (hd : days.length ≤ 50) (hx : ∀ x ∈ lost, 0 ≤ x.f1) (acc : List Int) (i : Nat) (hi : i < days.length) (hacc : acc.length ≤ 50) (v : Option (List Int)) : ∀ (n k : Nat) (x8 : Int), x8 + 1 = (i : Int) + n → x8 ≤ (days.length : Int) - 1 → n + 60 < k →
  (∀ k', k' + n + 1 = k → glisterref04_Exposed.l0 k' lost (acc ++ [fromV (hadV (lost.map toL) days[i]) days.length ((i : Int) - 1)]) ((i : Int) + 1) sz wd keys days = v) →
  glisterref04_Exposed.l1 k lost acc (i : Int) (fromV (hadV (lost.map toL) days[i]) days.length x8) x8 sz wd keys days = v
 | 0, k, x8, h0, h1, hk, hv => by
  obtain ⟨k, rfl, _⟩ := succ_of hk
  simp only [glisterref04_Exposed.l1]
  rw [if_neg (by omega), if_pos (by omega), wrap_of (by omega) (by omega), show x8 = (i : Int) - 1 by omega]
  exact hv k (by omega)
 | n + 1, k, x8, h0, h1, hk, hv => by
  obtain ⟨k, rfl, _⟩ := succ_of hk
  simp only [glisterref04_Exposed.l1]
  have ih := exposedR_l1 sz wd keys days lost hm hd hx acc i hi hacc v n k (x8 - 1) (by omega) (by omega) (by omega) (fun k' hk' => hv k' (by omega))
  rw [if_pos (by omega), if_pos (by omega), if_pos (by omega), rd_at hi, Had_f _ _ _ (by omega) (by omega), Option.bind_some, wrap_of (by omega) (by omega)]
  obtain ⟨r1, r2⟩ := had_rel days[i] lost (-1) hx (.inl rfl)
  have r3 := r2 x8
  have hh : hadFrom days[i] (lost.map toL) (-1) = hadV (lost.map toL) days[i] := rfl
  rw [hh] at r1 r3
  generalize hadV (lost.map toL) days[i] = q at *
  by_cases hb : anyB days[i] x8 lost = true
  ·rw [if_pos hb]
   have := r3.2 (.inr hb)
   rw [show fromV q days.length (x8 - 1) = x8 from by unfold fromV mx; rw [if_neg this.1]; (repeat' split) <;> omega] at ih
   exact ih
  ·rw [if_neg hb]
   have : ¬ (q ≠ -1 ∧ q ≤ x8) := fun hc => by rcases r3.1 hc with h | h; exact h.1 rfl; exact hb h
   rw [show fromV q days.length (x8 - 1) = fromV q days.length x8 from by unfold fromV mx; by_cases hq : q = -1 <;> simp only [hq, if_true, if_false]; (repeat' split) <;> omega] at ih
   exact ih
theorem had_le {key nd : Int} {lost : List S58} (hx : ∀ x ∈ lost, 0 ≤ x.f1) (hy : ∀ x ∈ lost, x.f1 ≤ nd - 1) (h : hadV (lost.map toL) key ≠ -1) : 0 ≤ hadV (lost.map toL) key ∧ hadV (lost.map toL) key ≤ nd - 1 := by
 obtain ⟨r1, r2⟩ := had_rel key lost (-1) hx (.inl rfl)
 have hh : hadFrom key (lost.map toL) (-1) = hadV (lost.map toL) key := rfl
 rw [hh] at r1 r2
 have a := (r2 (hadV (lost.map toL) key)).1 ⟨h, Int.le_refl _⟩
 rcases a with a | a
 ·exact absurd rfl a.1
 ·unfold anyB at a
  rw [List.any_eq_true] at a
  obtain ⟨x, hm, hb⟩ := a
  rw [Bool.and_eq_true, decide_eq_true_iff, decide_eq_true_iff] at hb
  have := (r2 x.f1).2 (.inr (by unfold anyB; rw [List.any_eq_true]; exact ⟨x, hm, by simp [hb.1]⟩))
  have := hy x hm
  omega
theorem exposedR_l0 (sz wd : Int) (keys : List S82) (days : List Int) (lost : List S58) (hm : lost.length ≤ 50) (hd : days.length ≤ 50) (hx : ∀ x ∈ lost, 0 ≤ x.f1) (hy : ∀ x ∈ lost, x.f1 ≤ (days.length : Int) - 1) : ∀ (n k i : Nat) (acc : List Int), i + n = days.length → n * 60 + 130 < k → acc.length = i → glisterref04_Exposed.l0 k lost acc (i : Int) sz wd keys days = some (acc ++ expFrom (lost.map toL) (days.drop i) (i : Int))
 | 0, k, i, acc, hd', h, ha => by
  obtain ⟨k, rfl, _⟩ := succ_of h
  simp only [glisterref04_Exposed.l0]
  rw [if_neg (by omega), List.drop_eq_nil_of_le (by omega)]
  simp [expFrom]
 | n + 1, k, i, acc, hd', h, ha => by
  obtain ⟨k, rfl, _⟩ := succ_of h
  simp only [glisterref04_Exposed.l0]
  have hi : i < days.length := by omega
  rw [if_pos (by omega), wrap_of (by omega) (by omega)]
  have hq : hadV (lost.map toL) days[i] = -1 ∨ (0 ≤ hadV (lost.map toL) days[i] ∧ hadV (lost.map toL) days[i] ≤ (days.length : Int) - 1) := by
   by_cases h1 : hadV (lost.map toL) days[i] = -1
   ·exact .inl h1
   ·exact .inr (had_le hx hy h1)
  have e0 : fromV (hadV (lost.map toL) days[i]) days.length ((days.length : Int) - 1) = -1 := by
   unfold fromV mx
   generalize hadV (lost.map toL) days[i] = q at *
   (repeat' split) <;> omega
  have e1 : fromV (hadV (lost.map toL) days[i]) days.length ((i : Int) - 1) = expV (hadV (lost.map toL) days[i]) (i : Int) := by
   unfold fromV expV mx
   generalize hadV (lost.map toL) days[i] = q at *
   (repeat' split) <;> omega
  have := exposedR_l1 sz wd keys days lost hm hd hx acc i hi (by omega) (some (acc ++ expFrom (lost.map toL) (days.drop i) (i : Int))) (days.length - i) k ((days.length : Int) - 1) (by omega) (by omega) (by omega) (fun k' hk' => by
   have ih := exposedR_l0 sz wd keys days lost hm hd hx hy n k' (i + 1) (acc ++ [expV (hadV (lost.map toL) days[i]) (i : Int)]) (by omega) (by omega) (by simp [ha])
   rw [show (((i + 1 : Nat)) : Int) = (i : Int) + 1 by omega] at ih
   rw [e1, ih, drop_at hi]
   simp [expFrom])
  rw [e0] at this
  exact this
theorem CipherExposes : ∀ (a0_0 a0_1 : Int) (l0_2 : List S82) (l0_3 : List Int) (l1 : List S58), W64 a0_0 → W64 a0_1 → (∀ y ∈ l0_2, Wf82 y) → (∀ y ∈ l0_3, W64 y) → (∀ y ∈ l1, Wf58 y) → ∃ k, glisterlaw04_CipherExposes.f k a0_0 a0_1 l0_2 l0_3 l1 = some true := by
 intro sz wd keys days l _ _ _ _ _
 refine ⟨2001, ?_⟩
 have haw : glisterlaw04_CipherExposes.j0 2001 l true sz wd keys days = some true := by
  rw [show (2001 : Nat) = 2000 + 1 from rfl]
  simp only [glisterlaw04_CipherExposes.j0, if_pos]
  rfl
 unfold glisterlaw04_CipherExposes.f glisterlaw04_Thin.f
 by_cases h1 : keys.length ≤ 8
 ·rw [if_pos (by omega), Option.bind_some]
  by_cases h2 : days.length ≤ 11
  ·rw [if_pos (decide_eq_true (by omega))]
   by_cases h3 : 9 < l.length
   ·rw [show decide ((l.length : Int) > 9) = true from decide_eq_true (by omega)]; exact haw
   rw [show decide ((l.length : Int) > 9) = false from decide_eq_false (by omega), show (2001 : Nat) = 2000 + 1 from rfl]
   simp only [glisterlaw04_CipherExposes.j0, Bool.false_eq_true, if_false]
   rw [Book_f sz wd keys days (by omega) (by omega) (by omega)]
   simp only [Option.bind_some]
   rw [Losses_f l (by omega) (by omega)]
   simp only [Option.bind_some]
   unfold cipher_Exposed.f
   rw [losses_f, Option.bind_some]
   by_cases hc : lossesV sz wd (keys.map toK) days (l.map toL) = 0
   ·have hs := losses_small hc
    have hl : ∀ x ∈ l, 0 ≤ x.f1 ∧ x.f1 ≤ (days.length : Int) - 1 := by
     intro x hx
     have hcc := hc
     unfold lossesV at hcc
     split at hcc
     ·rename_i hn; exact absurd hcc hn
     split at hcc
     ·cases hcc
     split at hcc
     ·rename_i ha
      have := List.all_eq_true.1 ha (toL x) (List.mem_map_of_mem hx)
      unfold lossB at this
      rw [Bool.and_eq_true, inB_iff, inB_iff, wrap_of (show -9223372036854775808 ≤ (days.length : Int) - 1 by omega) (by omega)] at this
      exact this.2
     ·cases hcc
    have e1 := exposed_l0 (l.map toL) days (by rw [List.length_map]; omega) (by omega) days.length 2000 0 [] (by omega) (by omega) rfl
    have e2 := exposedR_l0 sz wd keys days l (by omega) (by omega) (fun x hx => (hl x hx).1) (fun x hx => (hl x hx).2) days.length 2000 0 [] (by omega) (by omega) rfl
    rw [List.drop_zero, List.nil_append] at e1 e2
    have e1' : cipher_Exposed.l0 2000 (l.map toL) [] days (days.length : Int) 0 = some (expFrom (l.map toL) days 0, 0) := e1
    have e2' : glisterref04_Exposed.l0 2000 l [] 0 sz wd keys days = some (expFrom (l.map toL) days 0) := e2
    rw [if_pos hc, e1', Option.bind_some, lossy_f _ _ _ _ _ (by omega) (by omega) (by omega), Option.bind_some, hc, if_pos rfl, if_pos rfl]
    unfold glisterref04_Exposed.f
    rw [e2', Option.bind_some, Same_refl _ (by rw [expFrom_len]; omega) (by rw [expFrom_len]; omega), Option.bind_some, if_pos rfl]
    rfl
   ·rw [if_neg hc, Option.bind_some, lossy_f _ _ _ _ _ (by omega) (by omega) (by omega), Option.bind_some, if_neg hc, if_pos rfl]
    rfl
  ·rw [if_neg (by rw [decide_eq_true_iff]; omega)]; exact haw
 ·rw [if_neg (by omega), Option.bind_some, if_neg (by decide)]; exact haw
end Go.Proofs.Ytnidgkmopocdkaa.Pure
