import Derived.Test.YtnidgkmopocdkaaA13P25
import Derived.Test.YtnidgkmopocdkaaA13HCount
import Derived.Test.YtnidgkmopocdkaaA13HBack
namespace Go.Proofs.Ytnidgkmopocdkaa.Pure
open Go.RowKit Go.Proofs.Ytnidgkmopocdkaa.P Go.Proofs.YtnidgkmopocdkaaW.PrintWords Go.Proofs.YtnidgkmopocdkaaW.PrintLast
theorem mem_all {sz : Int} (x : S91) : x ∈ allR sz ↔ KeyOk sz x := by
 unfold allR colR rowR KeyOk
 simp only [List.mem_flatMap, List.mem_range, List.mem_map]
 constructor
 ·rintro ⟨m, hm, a, ha, s, hs, rfl⟩
  exact ⟨by simp only; omega, by simp only; omega, by simp only; omega, by simp only; omega, by simp only; omega, by simp only; omega⟩
 ·rintro ⟨k0, k1, k2, k3, k4, k5⟩
  obtain ⟨f0, f1, f2⟩ := x
  simp only at k0 k1 k2 k3 k4 k5
  exact ⟨f0.toNat - 1, by omega, f1.toNat, by omega, f2.toNat, by omega, by rw [S91.mk.injEq]; omega⟩
theorem nodup_flat {α β : Type} {l : List α} {f : α → List β} {γ : Type} (g : β → γ) (c : α → γ) (hc : l.Pairwise fun a b => c a ≠ c b) (hg : ∀ a ∈ l, ∀ x ∈ f a, g x = c a) (hf : ∀ a ∈ l, (f a).Nodup) : (l.flatMap f).Nodup := by
 unfold List.Nodup
 rw [List.pairwise_flatMap]
 refine ⟨hf, List.Pairwise.imp_of_mem (fun {a b} ha hb hn x hx y hy e => hn ?_) hc⟩
 rw [← hg a ha x hx, ← hg b hb y hy, e]
theorem range_int (n : Nat) (k : Int) : (List.range n).Pairwise fun a b : Nat => (a : Int) + k ≠ (b : Int) + k := List.nodup_range.imp (fun h e => h (by omega))
theorem nodup_all (sz : Int) : (allR sz).Nodup := by
 unfold allR
 refine nodup_flat (fun x : S91 => x.f0) (fun m : Nat => (m : Int) + 1) (range_int _ 1) (fun m _ x hx => ?_) (fun m _ => ?_)
 ·unfold colR rowR at hx
  simp only [List.mem_flatMap, List.mem_map] at hx
  obtain ⟨_, _, _, _, rfl⟩ := hx
  rfl
 ·unfold colR
  refine nodup_flat (fun x : S91 => x.f1) (fun a : Nat => (a : Int) + 0) (range_int _ 0) (fun a _ x hx => ?_) (fun a _ => ?_)
  ·unfold rowR at hx
   simp only [List.mem_map] at hx
   obtain ⟨_, _, rfl⟩ := hx
   simp
  ·unfold rowR List.Nodup
   rw [List.pairwise_map]
   exact List.nodup_range.imp (fun h e => h (by rw [S91.mk.injEq] at e; omega))
theorem nodup_keys (sz : Int) (codes : List Int) (gs : List S88) : (keysL sz codes gs).Nodup := by
 unfold keysL
 refine nodup_flat (fun x : S91 => x.f0) (fun m : Nat => (m : Int) + 1) (range_int _ 1) (fun m _ x hx => ?_) (fun m _ => ?_)
 ·unfold rowM rowS pickL at hx
  simp only [List.mem_flatMap, List.mem_filter, List.mem_map] at hx
  obtain ⟨_, _, ⟨_, _, rfl⟩, _⟩ := hx
  rfl
 ·unfold rowM
  refine nodup_flat (fun x : S91 => x.f2) (fun a : Nat => (a : Int) + 0) (range_int _ 0) (fun a _ x hx => ?_) (fun a _ => ?_)
  ·unfold rowS pickL at hx
   simp only [List.mem_filter, List.mem_map] at hx
   obtain ⟨⟨_, _, rfl⟩, _⟩ := hx
   simp
  ·unfold rowS pickL
   refine List.Pairwise.filter _ ?_
   rw [List.pairwise_map]
   unfold addsV
   cases gs with
   | nil =>
    simp only
    rw [List.pairwise_map]
    exact List.nodup_range.imp (fun h e => h (by rw [S91.mk.injEq] at e; omega))
   | cons g t => simp
theorem keys_perm {sz : Int} {codes : List Int} {gs : List S88} (h : AskG sz codes gs) : (keysL sz codes gs).Perm (agrR sz codes gs (allR sz)) := by
 unfold agrR
 rw [List.perm_ext_iff_of_nodup (nodup_keys sz codes gs) (List.Pairwise.filter _ (nodup_all sz))]
 intro x
 rw [mem_keys h, List.mem_filter, mem_all]
theorem seenR_iff (sz : Int) (codes : List Int) (at_ : Int) (ks : List S91) (j : Nat) (hj : j < 41) : (seenR sz codes at_ ks).getD j false = true ↔ ∃ k ∈ ks, (decodeV sz k.f0 k.f1 k.f2 (rd codes at_) at_).toNat = j := by
 have : ∀ (ks : List S91) (bs : List Bool), bs.length = 41 → ((ks.foldl (fun bs k => bs.set (decodeV sz k.f0 k.f1 k.f2 (rd codes at_) at_).toNat true) bs).getD j false = true ↔ (bs.getD j false = true ∨ ∃ k ∈ ks, (decodeV sz k.f0 k.f1 k.f2 (rd codes at_) at_).toNat = j)) := by
  intro ks
  induction ks with
  | nil => intro bs _; simp
  | cons k ks ih =>
   intro bs hb
   rw [List.foldl_cons, ih _ (by rw [List.length_set]; exact hb)]
   have e : (bs.set (decodeV sz k.f0 k.f1 k.f2 (rd codes at_) at_).toNat true).getD j false = true ↔ (bs.getD j false = true ∨ (decodeV sz k.f0 k.f1 k.f2 (rd codes at_) at_).toNat = j) := by
    rw [List.getD_eq_getElem?_getD, List.getD_eq_getElem?_getD, List.getElem?_set]
    by_cases e : (decodeV sz k.f0 k.f1 k.f2 (rd codes at_) at_).toNat = j
    ·rw [if_pos e, e, if_pos (by omega)]; simp
    ·rw [if_neg e]; simp [e]
   rw [e]
   simp only [List.mem_cons, exists_eq_or_imp]
   rw [or_assoc]
 unfold seenR
 rw [this ks _ List.length_replicate, List.getD_eq_getElem?_getD, List.getElem?_replicate]
 rw [if_pos hj]
 simp
theorem out_stop (bs : List Bool) (n : Nat) : ∀ d : Nat, (∀ j, n ≤ j → j < n + d → bs.getD j false = false) → outTo bs (n + d) = outTo bs n
 | 0, _ => rfl
 | d + 1, h => by
  rw [show n + (d + 1) = n + d + 1 from rfl, outTo_succ, if_neg (by rw [h (n + d) (by omega) (by omega)]; decide)]
  exact out_stop bs n d (fun j h1 h2 => h j h1 (by omega))
theorem out_same (n : Nat) (bs bs' : List Bool) (h : ∀ j, j < n → bs.getD j false = bs'.getD j false) : outTo bs n = outTo bs' n := by
 unfold outTo
 rw [List.filter_congr (fun j hj => h j (List.mem_range.1 hj))]
theorem poss_ref {sz : Int} {codes : List Int} {gs : List S88} (h : AskG sz codes gs) {i : Int} (h0 : 0 ≤ i) (h1 : i < codes.length) : possOut sz codes gs i = outTo (stR sz codes gs i (allR sz)) 41 := by
 have hz := h.sz
 have hcl := h.cl
 have hp := h.cp _ (show rd codes i ∈ codes from by
  obtain ⟨k, rfl⟩ : ∃ k : Nat, i = (k : Int) := ⟨i.toNat, by omega⟩
  rw [rd_at (by omega)]
  exact List.getElem_mem _)
 have hin : inB i 0 ((codes.length : Int) - 1) = true := by rw [inB_iff]; omega
 unfold stR possOut
 rw [if_pos hin, show 41 = sz.toNat + (41 - sz.toNat) by omega, out_stop _ sz.toNat]
 ·refine out_same _ _ _ (fun j hj => ?_)
  rw [Bool.eq_iff_iff, seen_iff _ _ _ _ _ hj, seenR_iff _ _ _ _ _ (by omega)]
  constructor
  ·rintro ⟨k, hk, e⟩; exact ⟨k, (keys_perm h).mem_iff.1 hk, e⟩
  ·rintro ⟨k, hk, e⟩; exact ⟨k, (keys_perm h).mem_iff.2 hk, e⟩
 ·intro j j1 j2
  rw [← Bool.not_eq_true, seenR_iff _ _ _ _ _ (by omega)]
  rintro ⟨k, hk, e⟩
  have ky := ((mem_keys h k).1 ((keys_perm h).mem_iff.2 hk)).1
  have := (decodeV_eq h.pr ky hp (show 0 ≤ i ∧ i ≤ 1000 by omega)).2
  omega
theorem fits_end {codes : List Int} {at_ n x12 x13 : Int} {p q : List Int} (hp : p.length ≤ 50) (hc : codes.length ≤ 100) (h : inB at_ 0 ((codes.length : Int) - 1) = true → x12 = x13 ∧ p = q) (h2 : inB at_ 0 ((codes.length : Int) - 1) = false → x12 = 2 ∧ p = q) : glisterlaw04_CipherFits.j1 203 codes at_ n x13 p x12 x13 n q = some true := by
 rw [show (203 : Nat) = 202 + 1 from rfl]
 simp only [glisterlaw04_CipherFits.j1, if_true]
 rw [show (n != n) = false from bne_self_eq_false _, show (202 : Nat) = 201 + 1 from rfl]
 simp only [glisterlaw04_CipherFits.j2, Bool.false_eq_true, if_false]
 rw [wrap_of (show -9223372036854775808 ≤ (codes.length : Int) - 1 by omega) (by omega), In_f, Option.bind_some]
 cases hi : inB at_ 0 ((codes.length : Int) - 1) with
 | true =>
  obtain ⟨rfl, rfl⟩ := h hi
  rw [if_pos rfl, if_pos rfl, Same_refl _ (by omega) (by omega), Option.bind_some, if_pos rfl]
  rfl
 | false =>
  obtain ⟨rfl, rfl⟩ := h2 hi
  rw [if_neg (by decide), if_pos rfl, Same_refl _ (by omega) (by omega), Option.bind_some, if_pos rfl]
  rfl
theorem CipherFits : ∀ (a0_0 a0_1 : Int) (l0_2 : List S82) (l0_3 : List Int) (l1 : List Int) (l2 : List S85) (a3 : Int), W64 a0_0 → W64 a0_1 → (∀ y ∈ l0_2, Wf82 y) → (∀ y ∈ l0_3, W64 y) → (∀ y ∈ l1, W64 y) → (∀ y ∈ l2, Wf85 y) → W64 a3 → ∃ k, glisterlaw04_CipherFits.f k a0_0 a0_1 l0_2 l0_3 l1 l2 a3 = some true := by
 intro sz wd keys days codes gs at_ _ _ _ _ _ _ _
 refine ⟨204, ?_⟩
 have haw : glisterlaw04_CipherFits.j0 204 codes gs at_ true sz wd keys days = some true := by
  rw [show (204 : Nat) = 203 + 1 from rfl]
  simp only [glisterlaw04_CipherFits.j0, if_true]
  rfl
 unfold glisterlaw04_CipherFits.f glisterlaw04_Thin.f
 by_cases h1 : keys.length ≤ 8
 case neg => rw [if_neg (by omega), Option.bind_some, if_neg (by decide)]; exact haw
 rw [if_pos (by omega), Option.bind_some]
 by_cases h2 : days.length ≤ 11
 case neg => rw [if_neg (by rw [decide_eq_true_iff]; omega)]; exact haw
 rw [if_pos (decide_eq_true (by omega))]
 by_cases h3 : 13 < codes.length
 ·rw [if_pos (by omega)]; exact haw
 rw [if_neg (by omega)]
 by_cases h4 : 9 < gs.length
 ·rw [if_pos (by omega)]; exact haw
 rw [if_neg (by omega), fault_f _ _ _ _ (by omega), Option.bind_some]
 have main : glisterlaw04_CipherFits.j0 204 codes gs at_ false sz wd keys days = some true := by
  rw [show (204 : Nat) = 203 + 1 from rfl]
  simp only [glisterlaw04_CipherFits.j0, Bool.false_eq_true, if_false]
  rw [Book_f sz wd keys days (by omega) (by omega) (by omega), Option.bind_some, list_f (by omega), Option.bind_some, Guesses_f gs (by omega) (by omega), Option.bind_some]
  by_cases hA : askedV sz wd (keys.map toK) days codes (gs.map toG) = 0
  ·have A := (ask_of hA).1
   have hz := A.sz
   have hn := (keys_perm A).length_eq
   have L1 : (possOut sz codes (gs.map toG) at_).length ≤ 50 := by have := poss_len (sz := sz) (codes := codes) (gs := gs.map toG) (i := at_); omega
   have hR : glisterref04_Fits.f sz wd keys days codes gs at_ = some (refV sz codes (gs.map toG) at_) := by
    unfold glisterref04_Fits.f
    rw [if_pos hA]
   rw [fits_ok hA, Option.bind_some, Option.bind_some, Option.bind_some, Option.bind_some]
   obtain ⟨pr, e, hl, a1, a2⟩ : ∃ pr : List Int × Int, cipher_Possible.f sz wd (keys.map toK) days codes (gs.map toG) at_ = some pr ∧ pr.1.length ≤ 50 ∧
     (inB at_ 0 ((codes.length : Int) - 1) = true → pr.2 = (if (keysL sz codes (gs.map toG)).length = 0 then 11 else 0) ∧ pr.1 = (refV sz codes (gs.map toG) at_).2) ∧
     (inB at_ 0 ((codes.length : Int) - 1) = false → pr.2 = 2 ∧ pr.1 = (refV sz codes (gs.map toG) at_).2) := by
    cases hi : inB at_ 0 ((codes.length : Int) - 1) with
    | true =>
     have hb := inB_iff.1 hi
     exact ⟨_, poss_ok hA (by omega) (by omega), L1, fun _ => ⟨rfl, poss_ref A (by omega) (by omega)⟩, fun c => by cases c⟩
    | false =>
     refine ⟨([], 2), ?_, by simp, (fun c => by cases c), (fun _ => ⟨rfl, ?_⟩)⟩
     ·unfold cipher_Possible.f possV
      rw [if_neg (fun c => c hA), if_pos hi]
     ·unfold refV stR
      rw [if_neg (by rw [hi]; decide)]
      rfl
   rw [e, Option.bind_some, asked_f _ _ _ _ _ _ (by omega) (by omega) (by omega), Option.bind_some, if_pos hA, hR, Option.bind_some]
   have e1 : (refV sz codes (gs.map toG) at_).1 = (((keysL sz codes (gs.map toG)).length : Nat) : Int) := by
    unfold refV
    rw [hn]
   rw [e1]
   by_cases hk : (keysL sz codes (gs.map toG)).length = 0
   ·rw [if_pos hk] at a1 ⊢
    rw [if_pos (show (((keysL sz codes (gs.map toG)).length : Nat) : Int) = 0 by omega)]
    exact fits_end hl (by omega) a1 a2
   ·rw [if_neg hk] at a1 ⊢
    rw [if_neg (show ¬ (((keysL sz codes (gs.map toG)).length : Nat) : Int) = 0 by omega), hA]
    exact fits_end hl (by omega) a1 a2
  ·have F : cipher_Fits.f sz wd (keys.map toK) days codes (gs.map toG) = some (0, askedV sz wd (keys.map toK) days codes (gs.map toG)) := by
    unfold cipher_Fits.f fitsV
    rw [if_pos hA]
   have P : cipher_Possible.f sz wd (keys.map toK) days codes (gs.map toG) at_ = some ([], askedV sz wd (keys.map toK) days codes (gs.map toG)) := by
    unfold cipher_Possible.f possV
    rw [if_pos hA]
   rw [F, Option.bind_some, Option.bind_some, Option.bind_some, Option.bind_some, P, Option.bind_some, asked_f _ _ _ _ _ _ (by omega) (by omega) (by omega), Option.bind_some, if_neg hA, if_pos rfl, if_pos rfl, if_pos rfl]
   exact (if_pos rfl).trans rfl
 by_cases hc : checkB sz wd (keys.map toK) days = 0
 ·rw [if_pos hc]
  by_cases h23 : sz > 23
  ·rw [decide_eq_true h23]; exact haw
  ·rw [decide_eq_false h23]; exact main
 ·rw [if_neg hc]; exact main
end Go.Proofs.Ytnidgkmopocdkaa.Pure
