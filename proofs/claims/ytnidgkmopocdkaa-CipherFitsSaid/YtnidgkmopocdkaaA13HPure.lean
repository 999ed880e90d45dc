import Derived.Test.YtnidgkmopocdkaaA13P13
import Derived.Test.YtnidgkmopocdkaaA13P17
import Derived.Test.YtnidgkmopocdkaaA13HAwake
import Derived.Test.YtnidgkmopocdkaaA13HRow
namespace Go.Proofs.Ytnidgkmopocdkaa.P
open Go.RowKit Go.Proofs.YtnidgkmopocdkaaW.PrintWords Go.Proofs.YtnidgkmopocdkaaW.PrintLast Go.Proofs.YtnidgkmopocdkaaW.PrintMore
set_option linter.unusedVariables false
set_option linter.unusedSimpArgs false
def toK (y : S82) : S91 := ⟨y.f0, y.f1, y.f2⟩
theorem succ_of {k n : Nat} (h : n < k) : ∃ j, k = j + 1 ∧ n ≤ j := ⟨k - 1, by omega, by omega⟩
theorem rd_at {l : List Int} {i : Nat} (h : i < l.length) : rd l (i : Int) = l[i] := by simp [rd, List.getD, List.getElem?_eq_getElem h]
theorem rd82_at {l : List S82} {i : Nat} (h : i < l.length) : rd_T82 l (i : Int) = l[i] := by simp [rd_T82, List.getD, List.getElem?_eq_getElem h]
theorem drop_at {α : Type} {l : List α} {i : Nat} (h : i < l.length) : l.drop i = l[i] :: l.drop (i + 1) := List.drop_eq_getElem_cons h
theorem rd_mem {l : List Int} {i : Int} (h0 : 0 ≤ i) (h1 : i < l.length) : rd l i ∈ l := by
 obtain ⟨n, rfl⟩ : ∃ n : Nat, i = (n : Int) := ⟨i.toNat, by omega⟩
 rw [rd_at (by omega)]; exact List.getElem_mem _
theorem In_f (n lo hi : Int) : glisterref04_In.f n lo hi = some (inB n lo hi) := by
 unfold glisterref04_In.f inB
 by_cases h : lo ≤ n
 ·rw [if_pos h]; simp [h]
 ·rw [if_neg h]; simp [h]
theorem list_f {l : List Int} (h : l.length < 17592186044416) : glisterlaw04_list.f l = some l := by
 unfold glisterlaw04_list.f
 simp [h]
theorem Book_l0 (sz wd a b : Int) (keys : List S82) (days dd : List Int) (hk : keys.length ≤ 1000) : ∀ (d k i : Nat) (acc : List S91), i + d = keys.length → d < k → acc.length = i → glisterlaw04_Book.l0 k (i : Int) sz wd keys days a b acc dd = some (a, b, acc ++ (keys.drop i).map toK, dd)
 | 0, k, i, acc, hd, h, ha => by
  obtain ⟨k, rfl, _⟩ := succ_of h
  simp only [glisterlaw04_Book.l0]
  rw [if_neg (by omega), List.drop_eq_nil_of_le (by omega)]
  simp
 | d + 1, k, i, acc, hd, h, ha => by
  obtain ⟨k, rfl, _⟩ := succ_of h
  simp only [glisterlaw04_Book.l0]
  rw [if_pos (by omega), if_pos (by omega)]
  unfold glisterlaw04_Key.f
  simp only [Option.bind_some]
  rw [if_pos (by omega), wrap_of (by omega) (by omega)]
  have := Book_l0 sz wd a b keys days dd hk d k (i + 1) (acc ++ [⟨(rd_T82 keys i).f0, (rd_T82 keys i).f1, (rd_T82 keys i).f2⟩]) (by omega) (by omega) (by simp [ha])
  rw [show ((i : Int) + 1) = ((i + 1 : Nat) : Int) by omega, this, drop_at (show i < keys.length by omega), rd82_at (by omega)]
  simp only [toK, List.map_cons, List.append_assoc, List.singleton_append]
theorem Book_f {k : Nat} (sz wd : Int) (keys : List S82) (days : List Int) (hk : keys.length ≤ 1000) (hd : days.length ≤ 1000) (h : keys.length < k) : glisterlaw04_Book.f k sz wd keys days = some (sz, wd, keys.map toK, days) := by
 unfold glisterlaw04_Book.f
 rw [list_f (by omega), Option.bind_some]
 have := Book_l0 sz wd sz wd keys days days hk keys.length k 0 [] (by omega) h rfl
 simpa using this
theorem primes_is (n : Int) : primesL.contains n = primeB n := by
 unfold primesL primeB
 simp
theorem IsKey_f (sz wd : Int) (keys : List S82) (days : List Int) (y : S82) (h0 : 0 ≤ sz) (h1 : sz ≤ 41) : glisterref04_IsKey.f sz wd keys days y.f0 y.f1 y.f2 = some (keyB sz (toK y)) := by
 unfold glisterref04_IsKey.f keyB toK
 rw [wrap_of (by omega) (by omega), In_f, In_f, In_f]
 simp only [Option.bind_some]
 cases inB y.f0 1 (sz - 1) <;> cases inB y.f1 0 (sz - 1) <;> simp
theorem Fault_l1 (sz wd : Int) (keys : List S82) (days : List Int) (hk : keys.length ≤ 5) (hd : days.length ≤ 8) : ∀ (d k i : Nat), i + d = days.length → d < k → glisterref04_Fault.l1 k (i : Int) sz wd keys days = some (if (days.drop i).all (ownB keys.length) = false then 1 else 0)
 | 0, k, i, hd', h => by
  obtain ⟨k, rfl, _⟩ := succ_of h
  simp only [glisterref04_Fault.l1]
  rw [if_neg (by omega), List.drop_eq_nil_of_le (by omega)]
  simp
 | d + 1, k, i, hd', h => by
  obtain ⟨k, rfl, _⟩ := succ_of h
  simp only [glisterref04_Fault.l1]
  rw [if_pos (by omega), if_pos (by omega), In_f, Option.bind_some, wrap_of (by omega) (by omega), wrap_of (by omega) (by omega), show ((i : Int) + 1) = ((i + 1 : Nat) : Int) by omega, Fault_l1 sz wd keys days hk hd d k (i + 1) (by omega) (by omega), drop_at (show i < days.length by omega), rd_at (by omega), List.all_cons]
  show (if ownB keys.length days[i] = true then _ else _) = _
  cases ownB keys.length days[i] <;> simp
theorem Fault_l0 (sz wd : Int) (keys : List S82) (days : List Int) (hk : keys.length ≤ 5) (hd : days.length ≤ 8) (h0 : 0 ≤ sz) (h1 : sz ≤ 41) : ∀ (d k i : Nat), i + d = keys.length → d + 20 < k → glisterref04_Fault.l0 k (i : Int) sz wd keys days = some (if (keys.drop i).all (fun y => keyB sz (toK y)) = false then 1 else if days.all (ownB keys.length) = false then 1 else 0)
 | 0, k, i, hd', h => by
  obtain ⟨k, rfl, _⟩ := succ_of h
  simp only [glisterref04_Fault.l0]
  rw [if_neg (by omega), List.drop_eq_nil_of_le (by omega)]
  have := Fault_l1 sz wd keys days hk hd days.length k 0 (by omega) (by omega)
  simpa using this
 | d + 1, k, i, hd', h => by
  obtain ⟨k, rfl, _⟩ := succ_of h
  simp only [glisterref04_Fault.l0]
  rw [if_pos (by omega), if_pos (by omega), IsKey_f _ _ _ _ _ h0 h1, Option.bind_some, wrap_of (by omega) (by omega), show ((i : Int) + 1) = ((i + 1 : Nat) : Int) by omega, Fault_l0 sz wd keys days hk hd h0 h1 d k (i + 1) (by omega) (by omega), drop_at (show i < keys.length by omega), rd82_at (by omega), List.all_cons]
  cases keyB sz (toK keys[i]) <;> simp
theorem prime_in {sz : Int} (h : primeB sz = true) : 13 ≤ sz ∧ sz ≤ 41 := by unfold primeB at h; simp at h; omega
theorem Fault_f {k : Nat} (sz wd : Int) (keys : List S82) (days : List Int) (hk : 50 < k) : glisterref04_Fault.f k sz wd keys days = some (checkB sz wd (keys.map toK) days) := by
 unfold glisterref04_Fault.f checkB
 obtain ⟨k, rfl, _⟩ := succ_of hk
 rw [List.length_map]
 by_cases h5 : 5 < keys.length
 ·rw [if_pos (by omega), if_pos h5]
  simp only [glisterref04_Fault.j0, if_pos]
 rw [if_neg (by omega), if_neg h5]
 by_cases h8 : 8 < days.length
 ·rw [if_pos h8, show decide ((days.length : Int) > 8) = true from decide_eq_true (by omega)]
  simp only [glisterref04_Fault.j0, if_pos]
 rw [if_neg h8, show decide ((days.length : Int) > 8) = false from decide_eq_false (by omega)]
 simp only [glisterref04_Fault.j0, Bool.false_eq_true, if_false]
 unfold glisterref04_Prime.f
 rw [primes_is, Option.bind_some]
 obtain ⟨k, rfl, _⟩ := succ_of (show 20 < k by omega)
 simp only [glisterref04_Fault.j1]
 by_cases hp : primeB sz = true
 ·have := prime_in hp
  rw [if_pos hp, if_neg (show ¬ inB sz 13 41 = false by rw [Bool.not_eq_false, inB_iff]; exact this), if_neg (show ¬ primeB sz = false by rw [hp]; decide), In_f, Option.bind_some]
  by_cases hw : inB wd 1 sz = true
  ·rw [if_pos hw, if_neg (show ¬ inB wd 1 sz = false by rw [hw]; decide)]
   by_cases hk0 : keys.length = 0
   ·rw [if_pos (show (keys.length : Int) = 0 by omega), if_pos hk0]; rfl
   ·rw [if_neg (show ¬ (keys.length : Int) = 0 by omega), if_neg hk0]
    by_cases hd0 : days.length = 0
    ·rw [if_pos hd0, if_pos (show ((days.length : Int) == 0) = true by rw [hd0]; rfl)]
    ·rw [if_neg hd0, if_neg (show ¬ ((days.length : Int) == 0) = true by rw [beq_iff_eq]; omega)]
     have := Fault_l0 sz wd keys days (by omega) (by omega) (by omega) (by omega) keys.length k 0 (by omega) (by omega)
     rw [List.drop_zero] at this
     rw [show ((0 : Int)) = ((0 : Nat) : Int) from rfl, this, List.all_map]
     rfl
  ·rw [if_neg hw, if_pos (show inB wd 1 sz = false from Bool.eq_false_iff.2 hw)]; rfl
 ·have hp' : primeB sz = false := Bool.eq_false_iff.2 hp
  rw [if_neg hp]
  simp [hp']
theorem fault_f {k : Nat} (sz wd : Int) (keys : List S82) (days : List Int) (hk : 50 < k) : glisterlaw04_fault.f k sz wd keys days = some (checkB sz wd (keys.map toK) days) := by
 unfold glisterlaw04_fault.f
 rw [Fault_f _ _ _ _ hk]; rfl
theorem Plain_l0 (sz wd : Int) (keys : List S82) (days l : List Int) (hl : l.length ≤ 1000) : ∀ (d k i : Nat), i + d = l.length → d < k → glisterref04_Plain.l0 k l (i : Int) sz wd keys days = some ((l.drop i).all (plainB sz))
 | 0, k, i, hd', h => by
  obtain ⟨k, rfl, _⟩ := succ_of h
  simp only [glisterref04_Plain.l0]
  rw [if_neg (by omega), List.drop_eq_nil_of_le (by omega)]
  simp
 | d + 1, k, i, hd', h => by
  obtain ⟨k, rfl, _⟩ := succ_of h
  simp only [glisterref04_Plain.l0]
  rw [if_pos (by omega), if_pos (by omega), In_f, Option.bind_some, wrap_of (show -9223372036854775808 ≤ (i : Int) + 1 by omega) (by omega), show ((i : Int) + 1) = ((i + 1 : Nat) : Int) by omega, Plain_l0 sz wd keys days l hl d k (i + 1) (by omega) (by omega), drop_at (show i < l.length by omega), rd_at (by omega), List.all_cons]
  show (if plainB sz l[i] = true then _ else _) = _
  cases plainB sz l[i] <;> simp
theorem Plain_f {k : Nat} (sz wd : Int) (keys : List S82) (days l : List Int) (hl : l.length ≤ 1000) (h : l.length < k) : glisterref04_Plain.f k sz wd keys days l = some (l.all (plainB sz)) := by
 unfold glisterref04_Plain.f
 have := Plain_l0 sz wd keys days l hl l.length k 0 (by omega) h
 simpa using this
theorem Same_l0 (a b : List Int) (hl : a.length ≤ 1000) (hab : a.length = b.length) : ∀ (d k i : Nat), i + d = a.length → d < k → glisterref04_Same.l0 k a b (i : Int) = some (decide (a.drop i = b.drop i))
 | 0, k, i, hd', h => by
  obtain ⟨k, rfl, _⟩ := succ_of h
  simp only [glisterref04_Same.l0]
  rw [if_neg (by omega), List.drop_eq_nil_of_le (by omega), List.drop_eq_nil_of_le (by omega)]
  simp
 | d + 1, k, i, hd', h => by
  obtain ⟨k, rfl, _⟩ := succ_of h
  simp only [glisterref04_Same.l0]
  rw [if_pos (by omega), if_pos (by omega), if_pos (by omega), wrap_of (by omega) (by omega), show ((i : Int) + 1) = ((i + 1 : Nat) : Int) by omega, Same_l0 a b hl hab d k (i + 1) (by omega) (by omega), drop_at (show i < a.length by omega), drop_at (show i < b.length by omega), rd_at (by omega), rd_at (by omega)]
  by_cases h : a[i] = b[i]
  ·rw [if_pos h, h]; simp only [List.cons.injEq, true_and]
  ·rw [if_neg h, decide_eq_false (fun e => h (List.cons.inj e).1)]
theorem Same_f {k : Nat} (a b : List Int) (hl : a.length ≤ 1000) (h : a.length < k) : glisterref04_Same.f k a b = some (decide (a = b)) := by
 unfold glisterref04_Same.f
 by_cases hab : a.length = b.length
 ·rw [if_pos (by omega)]
  have := Same_l0 a b hl hab a.length k 0 (by omega) h
  simpa using this
 ·rw [if_neg (by omega)]
  rw [decide_eq_false (fun e => hab (by rw [e]))]
theorem Same_refl {k : Nat} (a : List Int) (hl : a.length ≤ 1000) (h : a.length < k) : glisterref04_Same.f k a a = some true := by rw [Same_f a a hl h]; simp
end Go.Proofs.Ytnidgkmopocdkaa.P
