import Derived.Test.YtnidgkmopocdkaaA12HGuess
import Derived.Test.YtnidgkmopocdkaaA12P17
namespace Go.Proofs.Ytnidgkmopocdkaa.P
open Go.RowKit Go.Proofs.YtnidgkmopocdkaaW.PrintWords Go.Proofs.YtnidgkmopocdkaaW.PrintLast Go.Proofs.YtnidgkmopocdkaaW.PrintMore
set_option linter.unusedVariables false
set_option linter.unusedSimpArgs false
theorem AskFault_l0 (sz wd : Int) (keys : List S82) (days codes : List Int) (gs : List S85) (hz : 13 ≤ sz ∧ sz ≤ 41) (hg : gs.length ≤ 1000) : ∀ (d k i : Nat), i + d = gs.length → d < k → glisterref04_AskFault.l0 k codes gs (i : Int) sz wd keys days = some (if (gs.drop i).all (fun g => fineB sz codes.length (toG g)) = false then 2 else 0)
 | 0, k, i, hd, h => by
  obtain ⟨k, rfl, _⟩ := succ_of h
  simp only [glisterref04_AskFault.l0]
  rw [if_neg (by omega), List.drop_eq_nil_of_le (by omega)]
  simp
 | d + 1, k, i, hd, h => by
  obtain ⟨k, rfl, _⟩ := succ_of h
  have hi : i < gs.length := by omega
  simp only [glisterref04_AskFault.l0]
  have := AskFault_l0 sz wd keys days codes gs hz hg d k (i + 1) (by omega) (by omega)
  rw [show (((i + 1 : Nat)) : Int) = (i : Int) + 1 by omega] at this
  rw [if_pos (by omega), if_pos (by omega), rd85_at hi, In_f, In_f, wrap_of (show -9223372036854775808 ≤ (i : Int) + 1 by omega) (by omega)]
  simp only [Option.bind_some]
  rw [this, drop_at hi, List.all_cons, show fineB sz codes.length (toG gs[i]) = (inB gs[i].f0 0 (wrap64 ((codes.length : Int) - 1)) && inB gs[i].f1 0 (wrap64 (sz - 1))) from rfl]
  cases inB gs[i].f0 0 (wrap64 ((codes.length : Int) - 1)) <;> cases inB gs[i].f1 0 (wrap64 (sz - 1)) <;> simp
theorem asked_f {k : Nat} (sz wd : Int) (keys : List S82) (days codes : List Int) (gs : List S85) (hc : codes.length ≤ 100) (hg : gs.length ≤ 100) (hk : 150 < k) : glisterlaw04_asked.f k sz wd keys days codes gs = some (askedV sz wd (keys.map toK) days codes (gs.map toG)) := by
 unfold glisterlaw04_asked.f askedV glisterref04_AskFault.f
 rw [fault_f _ _ _ _ (by omega), Option.bind_some]
 by_cases h0 : checkB sz wd (keys.map toK) days = 0
 ·have g := good_of h0
  rw [if_pos h0, if_neg (show ¬ checkB sz wd (keys.map toK) days ≠ 0 from fun h => h h0)]
  obtain ⟨k, rfl, _⟩ := succ_of hk
  by_cases h1 : 10 < codes.length
  ·rw [if_pos (by omega), if_pos h1]
   simp only [glisterref04_AskFault.j0, if_true, Option.bind_some]
  rw [if_neg (by omega), if_neg h1, List.length_map]
  by_cases h2 : 6 < gs.length
  ·rw [show decide ((gs.length : Int) > 6) = true from decide_eq_true (by omega), if_pos h2]
   simp only [glisterref04_AskFault.j0, if_true, Option.bind_some]
  rw [show decide ((gs.length : Int) > 6) = false from decide_eq_false (by omega), if_neg h2]
  simp only [glisterref04_AskFault.j0, Bool.false_eq_true, if_false]
  rw [Plain_f _ _ _ _ _ (by omega) (by omega), Option.bind_some]
  cases hp : codes.all (plainB sz) with
  | false => simp
  | true =>
   have := AskFault_l0 sz wd keys days codes gs ⟨g.s0, g.s1⟩ (by omega) gs.length k 0 (by omega) (by omega)
   rw [List.drop_zero, show ((0 : Nat) : Int) = 0 from rfl] at this
   rw [if_pos rfl, this, Option.bind_some, List.all_map]
   rfl
 ·rw [if_neg h0, if_pos h0]
theorem flatMap_len {α β : Type} {f g : α → List β} : ∀ l : List α, (∀ x ∈ l, (f x).length ≤ (g x).length) → (l.flatMap f).length ≤ (l.flatMap g).length
 | [], _ => by simp
 | a :: l, h => by
  have h1 := flatMap_len (f := f) (g := g) l (fun x hx => h x (by simp [hx]))
  have h2 := h a (by simp)
  rw [List.flatMap_cons, List.flatMap_cons, List.length_append, List.length_append]
  omega
theorem flatMap_const {α β : Type} {f : α → List β} {n : Nat} : ∀ l : List α, (∀ x ∈ l, (f x).length = n) → (l.flatMap f).length = l.length * n
 | [], _ => by simp
 | a :: l, h => by
  rw [List.flatMap_cons, List.length_append, h a (by simp), flatMap_const l (fun x hx => h x (by simp [hx])), List.length_cons, Nat.add_mul]
  omega
theorem row_nil (sz : Int) (codes : List Int) (m s : Nat) : (rowS sz codes [] m s).length = sz.toNat := by
 unfold rowS pickL addsV
 have e : ∀ l : List S91, l.filter (fun k => ([] : List S88).all (agreeB sz codes k)) = l := fun l => List.filter_eq_self.2 (fun _ _ => rfl)
 rw [e, List.length_map, List.length_map, List.length_range]
theorem keys_all (sz : Int) (codes : List Int) : (keysL sz codes []).length = (sz - 1).toNat * (sz.toNat * sz.toNat) := by
 unfold keysL
 rw [flatMap_const (n := sz.toNat * sz.toNat) _ (fun m _ => ?_), List.length_range]
 unfold rowM
 rw [flatMap_const (n := sz.toNat) _ (fun s _ => row_nil sz codes m s), List.length_range]
theorem row_more {sz : Int} (h0 : 1 ≤ sz) (codes : List Int) (gs : List S88) (g : S88) (m s : Nat) : (rowS sz codes (gs ++ [g]) m s).length ≤ (rowS sz codes gs m s).length := by
 cases gs with
 | nil =>
  rw [row_nil]
  unfold rowS pickL addsV
  refine Nat.le_trans (List.length_filter_le _ _) ?_
  simp
  omega
 | cons h t =>
  unfold rowS pickL
  rw [show addsV sz codes (h :: t ++ [g]) ((m : Int) + 1) (s : Int) = addsV sz codes (h :: t) ((m : Int) + 1) (s : Int) from rfl, ← List.countP_eq_length_filter, ← List.countP_eq_length_filter]
  refine List.countP_mono_left (fun x _ hx => ?_)
  rw [List.all_append, Bool.and_eq_true] at hx
  exact hx.1
theorem keys_more {sz : Int} (h0 : 1 ≤ sz) (codes : List Int) (gs : List S88) (g : S88) : (keysL sz codes (gs ++ [g])).length ≤ (keysL sz codes gs).length := by
 unfold keysL rowM
 exact flatMap_len _ (fun m _ => flatMap_len _ (fun s _ => row_more h0 codes gs g m s))
theorem keys_most {sz : Int} (h0 : 1 ≤ sz) (codes : List Int) (gs : List S88) : (keysL sz codes gs).length ≤ (keysL sz codes []).length := by
 have : ∀ (n : Nat) (gs : List S88), gs.length = n → (keysL sz codes gs).length ≤ (keysL sz codes []).length := by
  intro n
  induction n with
  | zero => intro gs h; rw [List.eq_nil_of_length_eq_zero h]; exact Nat.le_refl _
  | succ n ih =>
   intro gs h
   have hne : gs ≠ [] := by rintro rfl; cases h
   rw [← List.dropLast_concat_getLast hne]
   exact Nat.le_trans (keys_more h0 codes _ _) (ih _ (by rw [List.length_dropLast]; omega))
 exact this _ gs rfl
theorem poss_all {sz : Int} {codes : List Int} (h : AskG sz codes []) {i : Int} (h0 : 0 ≤ i) (h1 : i < codes.length) : (possOut sz codes [] i).length = sz.toNat := by
 have hz := h.sz
 have hcl := h.cl
 have hc := h.at h0 h1
 have all : ∀ j : Nat, j < sz.toNat → (seenOf sz codes i (keysL sz codes [])).getD j false = true := by
  intro j hj
  have hb : 0 ≤ (rd codes i + sz - (j : Int)) % sz ∧ (rd codes i + sz - (j : Int)) % sz < sz := ⟨Int.emod_nonneg _ (by omega), Int.emod_lt_of_pos _ (by omega)⟩
  have ky : KeyOk sz ⟨1, (rd codes i + sz - (j : Int)) % sz, 0⟩ := ⟨by simp only; omega, by simp only; omega, hb.1, by simp only; omega, by simp only; omega, by simp only; omega⟩
  have hcd := (codeV_eq hz.1 hz.2 ky (show 0 ≤ (j : Int) ∧ (j : Int) < sz by omega) (show 0 ≤ i ∧ i ≤ 1000 by omega)).1
  simp only at hcd
  rw [show 1 * (j : Int) + (rd codes i + sz - (j : Int)) % sz + i * 0 = (j : Int) + (rd codes i + sz - (j : Int)) % sz by omega, (add_is (by omega) hb hc (show 0 ≤ (j : Int) ∧ (j : Int) < sz by omega)).2 rfl] at hcd
  have hd := dec_code h.pr ky (show 0 ≤ (j : Int) ∧ (j : Int) < sz by omega) (show 0 ≤ i ∧ i ≤ 1000 by omega)
  simp only at hd
  rw [hcd] at hd
  refine (seen_iff sz codes i _ j hj).2 ⟨⟨1, (rd codes i + sz - (j : Int)) % sz, 0⟩, (mem_keys h _).2 ⟨ky, rfl⟩, ?_⟩
  simp only
  rw [hd]; omega
 unfold possOut outTo
 rw [List.length_map, List.filter_eq_self.2 (fun j hj => all j (List.mem_range.1 hj)), List.length_range]
theorem poss_more {sz : Int} {codes : List Int} {gs : List S88} {g : S88} (h : AskG sz codes (gs ++ [g])) {i : Int} (h0 : 0 ≤ i) (h1 : i < codes.length) {n : Int} (hn : n ∈ possOut sz codes (gs ++ [g]) i) : n ∈ possOut sz codes gs i := by
 obtain ⟨k, h2, h3, h4⟩ := (mem_poss h h0 h1 n).1 hn
 rw [List.all_append, Bool.and_eq_true] at h3
 exact (mem_poss (h.tail (fun q hq => List.mem_append_left _ hq)) h0 h1 n).2 ⟨k, h2, h3.1, h4⟩
end Go.Proofs.Ytnidgkmopocdkaa.P
