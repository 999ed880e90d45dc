import Derived.Test.YtnidgkmopocdkaaA13HPossible
import Derived.Test.YtnidgkmopocdkaaA13HMod
namespace Go.Proofs.Ytnidgkmopocdkaa.P
open Go.RowKit Go.Proofs.YtnidgkmopocdkaaW.PrintWords Go.Proofs.YtnidgkmopocdkaaW.PrintLast Go.Proofs.YtnidgkmopocdkaaW.PrintMore
set_option linter.unusedVariables false
set_option linter.unusedSimpArgs false
structure AskG (sz : Int) (codes : List Int) (gs : List S88) : Prop where
 pr : primeB sz = true
 cl : codes.length ≤ 10
 cp : ∀ x ∈ codes, 0 ≤ x ∧ x < sz
 gf : ∀ g ∈ gs, (0 ≤ g.f0 ∧ g.f0 < codes.length) ∧ 0 ≤ g.f1 ∧ g.f1 < sz
theorem AskG.sz {sz : Int} {codes : List Int} {gs : List S88} (h : AskG sz codes gs) : 13 ≤ sz ∧ sz ≤ 41 := prime_in h.pr
theorem ask_of {sz wd : Int} {keys : List S91} {days : List Int} {codes : List Int} {gs : List S88} (h : askedV sz wd keys days codes gs = 0) : AskG sz codes gs ∧ gs.length ≤ 6 := by
 obtain ⟨h1, h2, h3, h4, h5⟩ := asked_ok h
 have g := good_of h1
 refine ⟨⟨g.pr, h2, fun x hx => (plainB_iff g.s0 g.s1).1 (List.all_eq_true.1 h4 x hx), fun y hy => ?_⟩, h3⟩
 have := List.all_eq_true.1 h5 y hy
 unfold fineB at this
 rw [Bool.and_eq_true, inB_iff, inB_iff, wrap_of (by omega) (by omega), wrap_of (by have := g.s0; omega) (by have := g.s1; omega)] at this
 omega
theorem AskG.at {sz : Int} {codes : List Int} {gs : List S88} (h : AskG sz codes gs) {i : Int} (h0 : 0 ≤ i) (h1 : i < codes.length) : 0 ≤ rd codes i ∧ rd codes i < sz := h.cp _ (rd_mem h0 h1)
theorem code_add {sz : Int} {m a s n i : Int} (h0 : 13 ≤ sz) (h1 : sz ≤ 41) (hm : 1 ≤ m ∧ m ≤ sz - 1) (ha : 0 ≤ a ∧ a < sz) (hs : 0 ≤ s ∧ s < sz) (hn : 0 ≤ n ∧ n < sz) (hi : 0 ≤ i ∧ i ≤ 1000) : codeV sz m a s n i = (codeV sz m 0 s n i + a) % sz := by
 have e1 := (codeV_eq (y := ⟨m, a, s⟩) h0 h1 ⟨hm.1, hm.2, ha.1, by simp only; omega, hs.1, by simp only; omega⟩ hn hi).1
 have e2 := (codeV_eq (y := ⟨m, 0, s⟩) h0 h1 ⟨hm.1, hm.2, by simp only; omega, by simp only; omega, hs.1, by simp only; omega⟩ hn hi).1
 simp only at e1 e2
 rw [e1, e2, Int.emod_add_emod]
 congr 1; omega
theorem add_is {sz c d a : Int} (h0 : 0 < sz) (ha : 0 ≤ a ∧ a < sz) (hc : 0 ≤ c ∧ c < sz) (hd : 0 ≤ d ∧ d < sz) : (d + a) % sz = c ↔ a = (c + sz - d) % sz := by
 constructor
 ·intro h
  have e1 := Int.emod_add_mul_ediv (d + a) sz
  rw [h] at e1
  rw [show c + sz - d = a + sz * (1 - (d + a) / sz) by grind, Int.add_mul_emod_self_left, Int.emod_eq_of_lt ha.1 ha.2]
 ·intro h
  rw [h, Int.add_emod_emod, show d + (c + sz - d) = c + sz * 1 by omega, Int.add_mul_emod_self_left, Int.emod_eq_of_lt hc.1 hc.2]
theorem agree_add {sz : Int} {codes : List Int} {g : S88} {m a s : Int} (h0 : 13 ≤ sz) (h1 : sz ≤ 41) (hc : 0 ≤ rd codes g.f0 ∧ rd codes g.f0 < sz) (hg : (0 ≤ g.f0 ∧ g.f0 ≤ 1000) ∧ 0 ≤ g.f1 ∧ g.f1 < sz) (hm : 1 ≤ m ∧ m ≤ sz - 1) (ha : 0 ≤ a ∧ a < sz) (hs : 0 ≤ s ∧ s < sz) :
  agreeB sz codes ⟨m, a, s⟩ g = true ↔ a = Int.tmod (wrap64 ((wrap64 (rd codes g.f0 + sz)) - codeV sz m 0 s g.f1 g.f0)) sz := by
 unfold agreeB
 have e2 := (codeV_eq (y := ⟨m, 0, s⟩) h0 h1 ⟨hm.1, hm.2, by simp only; omega, by simp only; omega, hs.1, by simp only; omega⟩ hg.2 hg.1).2
 simp only at e2
 rw [beq_iff_eq, code_add h0 h1 hm ha hs hg.2 hg.1, wrap_of (show -9223372036854775808 ≤ rd codes g.f0 + sz by omega) (by omega), wrap_of (by omega) (by omega), tmod_pos (by omega)]
 exact add_is (by omega) ha hc e2
theorem adds_mem {sz : Int} {codes : List Int} {gs : List S88} (h : AskG sz codes gs) {m s : Int} (hm : 1 ≤ m ∧ m ≤ sz - 1) (hs : 0 ≤ s ∧ s < sz) (a : Int) : (a ∈ addsV sz codes gs m s ∧ gs.all (agreeB sz codes ⟨m, a, s⟩) = true) ↔ ((0 ≤ a ∧ a < sz) ∧ gs.all (agreeB sz codes ⟨m, a, s⟩) = true) := by
 have hz := h.sz
 refine and_congr_left fun hall => ?_
 unfold addsV
 split
 ·rw [List.mem_map]
  constructor
  ·rintro ⟨n, hn, rfl⟩
   have := List.mem_range.1 hn
   omega
  ·intro ha
   exact ⟨a.toNat, List.mem_range.2 (by omega), by omega⟩
 ·rename_i g t
  have hg := h.gf g (by simp)
  have hc := h.at hg.1.1 hg.1.2
  have hcl := h.cl
  have e2 := (codeV_eq (y := ⟨m, 0, s⟩) hz.1 hz.2 ⟨hm.1, hm.2, by simp only; omega, by simp only; omega, hs.1, by simp only; omega⟩ hg.2 (show 0 ≤ g.f0 ∧ g.f0 ≤ 1000 by omega)).2
  simp only at e2
  have hb : 0 ≤ Int.tmod (wrap64 ((wrap64 (rd codes g.f0 + sz)) - codeV sz m 0 s g.f1 g.f0)) sz ∧ Int.tmod (wrap64 ((wrap64 (rd codes g.f0 + sz)) - codeV sz m 0 s g.f1 g.f0)) sz < sz := by
   rw [wrap_of (show -9223372036854775808 ≤ rd codes g.f0 + sz by omega) (by omega), wrap_of (by omega) (by omega)]
   exact tmod_bd (by omega) (by omega)
  rw [List.mem_singleton]
  constructor
  ·intro e; rw [e]; exact hb
  ·intro ha
   rw [List.all_cons, Bool.and_eq_true] at hall
   exact (agree_add hz.1 hz.2 hc ⟨by omega, hg.2⟩ hm ha hs).1 hall.1
theorem mem_keys {sz : Int} {codes : List Int} {gs : List S88} (h : AskG sz codes gs) (x : S91) : x ∈ keysL sz codes gs ↔ (KeyOk sz x ∧ gs.all (agreeB sz codes x) = true) := by
 have hz := h.sz
 unfold keysL rowM rowS pickL
 simp only [List.mem_flatMap, List.mem_range, List.mem_filter, List.mem_map]
 constructor
 ·rintro ⟨m, hm, s, hs, ⟨a, ha, rfl⟩, hall⟩
  have := (adds_mem h (m := (m : Int) + 1) (s := (s : Int)) (by omega) (by omega) a).1 ⟨ha, hall⟩
  exact ⟨⟨by simp only; omega, by simp only; omega, by simp only; omega, by simp only; omega, by simp only; omega, by simp only; omega⟩, hall⟩
 ·rintro ⟨⟨k0, k1, k2, k3, k4, k5⟩, hall⟩
  obtain ⟨f0, f1, f2⟩ := x
  simp only at k0 k1 k2 k3 k4 k5
  have e0 : ((f0.toNat - 1 : Nat) : Int) + 1 = f0 := by omega
  have e2 : ((f2.toNat : Nat) : Int) = f2 := by omega
  refine ⟨f0.toNat - 1, by omega, f2.toNat, by omega, ⟨f1, ?_, by rw [e0, e2]⟩, hall⟩
  rw [e0, e2]
  exact ((adds_mem h (m := f0) (s := f2) (by omega) (by omega) f1).2 ⟨by omega, hall⟩).1
theorem seen_iff (sz : Int) (codes : List Int) (at_ : Int) (ks : List S91) (j : Nat) (hj : j < sz.toNat) : (seenOf sz codes at_ ks).getD j false = true ↔ ∃ k ∈ ks, (decodeV sz k.f0 k.f1 k.f2 (rd codes at_) at_).toNat = j := by
 have : ∀ (ks : List S91) (bs : List Bool), bs.length = sz.toNat → ((ks.foldl (fun bs k => bs.set (decodeV sz k.f0 k.f1 k.f2 (rd codes at_) at_).toNat true) bs).getD j false = true ↔ (bs.getD j false = true ∨ ∃ k ∈ ks, (decodeV sz k.f0 k.f1 k.f2 (rd codes at_) at_).toNat = j)) := by
  intro ks
  induction ks with
  | nil => intro bs _; simp
  | cons k ks ih =>
   intro bs hb
   rw [List.foldl_cons, ih _ (by rw [List.length_set]; exact hb)]
   have e : (bs.set (decodeV sz k.f0 k.f1 k.f2 (rd codes at_) at_).toNat true).getD j false = true ↔ (bs.getD j false = true ∨ (decodeV sz k.f0 k.f1 k.f2 (rd codes at_) at_).toNat = j) := by
    rw [List.getD_eq_getElem?_getD, List.getD_eq_getElem?_getD, List.getElem?_set]
    by_cases e : (decodeV sz k.f0 k.f1 k.f2 (rd codes at_) at_).toNat = j
    ·rw [if_pos e, e, if_pos (by omega)]; simp
    ·rw [if_neg e]; simp [e]
   rw [e]
   simp only [List.mem_cons, exists_eq_or_imp]
   rw [or_assoc]
 unfold seenOf
 rw [this ks _ (List.length_replicate), List.getD_eq_getElem?_getD, List.getElem?_replicate]
 rw [if_pos hj]
 simp
theorem mem_out (bs : List Bool) (i : Nat) (n : Int) : n ∈ outTo bs i ↔ ∃ j : Nat, j < i ∧ bs.getD j false = true ∧ n = (j : Int) := by
 unfold outTo
 simp only [List.mem_map, List.mem_filter, List.mem_range]
 constructor
 ·rintro ⟨j, ⟨h1, h2⟩, rfl⟩; exact ⟨j, h1, h2, rfl⟩
 ·rintro ⟨j, h1, h2, rfl⟩; exact ⟨j, ⟨h1, h2⟩, rfl⟩
theorem mem_poss {sz : Int} {codes : List Int} {gs : List S88} (h : AskG sz codes gs) {i : Int} (h0 : 0 ≤ i) (h1 : i < codes.length) (n : Int) : n ∈ possOut sz codes gs i ↔ ∃ k, KeyOk sz k ∧ gs.all (agreeB sz codes k) = true ∧ decodeV sz k.f0 k.f1 k.f2 (rd codes i) i = n := by
 have hz := h.sz
 have hcl := h.cl
 unfold possOut
 rw [mem_out]
 constructor
 ·rintro ⟨j, hj, hb, rfl⟩
  obtain ⟨k, hk, e⟩ := (seen_iff sz codes i _ j hj).1 hb
  obtain ⟨h2, h3⟩ := (mem_keys h k).1 hk
  have hd := (decodeV_eq h.pr h2 (h.at h0 h1) (show 0 ≤ i ∧ i ≤ 1000 by omega)).2
  exact ⟨k, h2, h3, by omega⟩
 ·rintro ⟨k, h2, h3, rfl⟩
  have hd := (decodeV_eq h.pr h2 (h.at h0 h1) (show 0 ≤ i ∧ i ≤ 1000 by omega)).2
  exact ⟨(decodeV sz k.f0 k.f1 k.f2 (rd codes i) i).toNat, by omega, (seen_iff sz codes i _ _ (by omega)).2 ⟨k, (mem_keys h k).2 ⟨h2, h3⟩, rfl⟩, by omega⟩
theorem out_len (bs : List Bool) (i : Nat) : (outTo bs i).length ≤ i := outTo_le bs i
theorem poss_len {sz : Int} {codes : List Int} {gs : List S88} {i : Int} : (possOut sz codes gs i).length ≤ sz.toNat := out_len _ _
theorem poss_nil {sz : Int} {codes : List Int} {gs : List S88} (h : AskG sz codes gs) {i : Int} (h0 : 0 ≤ i) (h1 : i < codes.length) : (possOut sz codes gs i).length = 0 ↔ (keysL sz codes gs).length = 0 := by
 constructor
 ·intro hp
  by_cases hk : (keysL sz codes gs).length = 0
  ·exact hk
  ·obtain ⟨k, hm⟩ := List.exists_mem_of_length_pos (Nat.pos_of_ne_zero hk)
   obtain ⟨h2, h3⟩ := (mem_keys h k).1 hm
   have := (mem_poss h h0 h1 _).2 ⟨k, h2, h3, rfl⟩
   rw [List.eq_nil_of_length_eq_zero hp] at this
   cases this
 ·intro hk
  by_cases hp : (possOut sz codes gs i).length = 0
  ·exact hp
  ·obtain ⟨n, hm⟩ := List.exists_mem_of_length_pos (Nat.pos_of_ne_zero hp)
   obtain ⟨k, h2, h3, _⟩ := (mem_poss h h0 h1 n).1 hm
   have := (mem_keys h k).2 ⟨h2, h3⟩
   rw [List.eq_nil_of_length_eq_zero hk] at this
   cases this
end Go.Proofs.Ytnidgkmopocdkaa.P
