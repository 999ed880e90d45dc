import Derived.Test.YtnidgkmopocdkaaA11P26
import Derived.Test.YtnidgkmopocdkaaA11HGuess
import Derived.Test.YtnidgkmopocdkaaA11HBack
namespace Go.Proofs.Ytnidgkmopocdkaa.Pure
open Go.RowKit Go.Proofs.Ytnidgkmopocdkaa.P Go.Proofs.YtnidgkmopocdkaaW.PrintWords Go.Proofs.YtnidgkmopocdkaaW.PrintLast
def TrueG (l : List Int) (g : S85) : Prop := ∃ j : Nat, ∃ h : j < l.length, g = ⟨(j : Int), l[j]⟩
theorem Guessed_l0 (sz wd : Int) (keys : List S82) (days l : List Int) (y : S82) (bits : Int) (hz : sz ≠ 0) (hl : l.length ≤ 50) : ∀ (d k i : Nat) (gs : List S85), i + d = l.length → d < k → gs.length ≤ 6 → (∀ g ∈ gs, TrueG l g) →
  ∃ gs', glisterlaw04_Guessed.l0 k l bits (turnL (codeV sz y.f0 y.f1 y.f2) l i) gs (i : Int) sz wd keys days y.f0 y.f1 y.f2 = some (turnL (codeV sz y.f0 y.f1 y.f2) l l.length, gs') ∧ gs'.length ≤ 6 ∧ ∀ g ∈ gs', TrueG l g
 | 0, k, i, gs, hd, hk, h6, hg => by
  obtain ⟨k, rfl, _⟩ := succ_of hk
  obtain rfl : i = l.length := by omega
  simp only [glisterlaw04_Guessed.l0]
  rw [if_neg (by omega)]
  exact ⟨gs, rfl, h6, hg⟩
 | d + 1, k, i, gs, hd, hk, h6, hg => by
  obtain ⟨k, rfl, _⟩ := succ_of hk
  have hi : i < l.length := by omega
  have ih := fun gs' => Guessed_l0 sz wd keys days l y bits hz hl d k (i + 1) gs' (by omega) (by omega)
  rw [turnL_succ, show (((i + 1 : Nat)) : Int) = (i : Int) + 1 by omega, getD_at' hi] at ih
  simp only [glisterlaw04_Guessed.l0]
  have hu : IntKind.u64.wrap (i : Int) = (i : Int) := by
   have : (i : Int) < 18446744073709551616 := by omega
   simp [IntKind.wrap, IntKind.bits, IntKind.signed]
   omega
  rw [if_pos (by omega), if_pos (by omega), rd_at hi, codeOf_f _ _ _ _ _ _ _ hz, Option.bind_some, if_pos (by rw [turnL_length]; omega), Option.bind_some, hu, if_pos (by omega), wrap_of (show -9223372036854775808 ≤ (i : Int) + 1 by omega) (by omega)]
  by_cases hb : Int.tmod (shr .u16 bits (i : Int)) 2 = 1
  ·rw [if_pos hb]
   by_cases h5 : (gs.length : Int) < 6
   ·rw [if_pos h5, if_pos (by omega)]
    exact ih _ (by simp; omega) (fun g hgm => by
     rcases List.mem_append.1 hgm with h | h
     ·exact hg g h
     ·rw [List.mem_singleton] at h
      exact ⟨i, hi, h⟩)
   ·rw [if_neg h5]
    exact ih _ h6 hg
  ·rw [if_neg hb]
   exact ih _ h6 hg
section
variable {sz wd : Int} {keys : List S82} {days l codes : List Int} {gs : List S85} {y : S82}
structure Kn (sz : Int) (y : S91) (l codes : List Int) (gs : List S88) : Prop where
 ask : AskG sz codes gs
 ky : KeyOk sz y
 ln : codes.length = l.length
 lp : ∀ x ∈ l, 0 ≤ x ∧ x < sz
 cd : ∀ (i : Nat) (h : i < l.length), rd codes (i : Int) = codeV sz y.f0 y.f1 y.f2 l[i] (i : Int)
 tr : ∀ g ∈ gs, ∃ j : Nat, ∃ h : j < l.length, g = ⟨(j : Int), l[j]⟩
theorem Kn.key {sz : Int} {y : S91} {l codes : List Int} {gs : List S88} (h : Kn sz y l codes gs) : gs.all (agreeB sz codes y) = true := List.all_eq_true.2 fun g hg => by
 obtain ⟨j, hj, rfl⟩ := h.tr g hg
 unfold agreeB
 rw [beq_iff_eq]
 exact (h.cd j hj).symm
theorem Kn.can {sz : Int} {y : S91} {l codes : List Int} {gs : List S88} (h : Kn sz y l codes gs) {i : Nat} (hi : i < l.length) : l[i] ∈ possOut sz codes gs (i : Int) := by
 have hcl := h.ask.cl
 have hl := h.ln
 refine (mem_poss h.ask (by omega) (by omega) _).2 ⟨y, h.ky, h.key, ?_⟩
 rw [h.cd i hi]
 exact dec_code h.ask.pr h.ky (h.lp _ (List.getElem_mem hi)) (by omega)
theorem Kn.some {sz : Int} {y : S91} {l codes : List Int} {gs : List S88} (h : Kn sz y l codes gs) : y ∈ keysL sz codes gs := (mem_keys h.ask y).2 ⟨h.ky, h.key⟩
theorem Kn.sure {sz : Int} {y : S91} {l codes : List Int} {gs : List S88} (h : Kn sz y l codes gs) {i : Nat} (hi : i < l.length) (hg : (⟨(i : Int), l[i]⟩ : S88) ∈ gs) : possOut sz codes gs (i : Int) = [l[i]] := by
 have hcl := h.ask.cl
 have hl := h.ln
 refine one_of_sorted (out_sorted _ _) (h.can hi) (fun x hx => ?_)
 obtain ⟨k, h1, h2, rfl⟩ := (mem_poss h.ask (by omega) (by omega) _).1 hx
 have ha := List.all_eq_true.1 h2 _ hg
 unfold agreeB at ha
 rw [beq_iff_eq] at ha
 simp only at ha
 rw [← ha]
 exact dec_code h.ask.pr h1 (h.lp _ (List.getElem_mem hi)) (by omega)
theorem Kn.lone {sz : Int} {y : S91} {l codes : List Int} {gs : List S88} (h : Kn sz y l codes gs) {i : Nat} (hi : i < l.length) (h1 : (keysL sz codes gs).length = 1) : possOut sz codes gs (i : Int) = [l[i]] := by
 have hcl := h.ask.cl
 have hl := h.ln
 refine one_of_sorted (out_sorted _ _) (h.can hi) (fun x hx => ?_)
 obtain ⟨k, h2, h3, rfl⟩ := (mem_poss h.ask (by omega) (by omega) _).1 hx
 have hk := (mem_keys h.ask k).2 ⟨h2, h3⟩
 obtain ⟨z, hz⟩ := List.length_eq_one_iff.1 h1
 have hy := h.some
 rw [hz, List.mem_singleton] at hk hy
 rw [hk, ← hy, h.cd i hi]
 exact dec_code h.ask.pr h.ky (h.lp _ (List.getElem_mem hi)) (by omega)
end
theorem known_l1 {sz wd : Int} {keys : List S82} {days l codes : List Int} {gs : List S85} {y : S91} (h : Kn sz y l codes (gs.map toG)) (h6 : gs.length ≤ 6) (n : Int) (i : Nat) (hi : i < l.length) (v : Option Bool) : ∀ (d k q : Nat), q + d = gs.length → d + 60 < k → (∀ k', k' + d + 1 = k → glisterlaw04_CipherKnown.l0 k' l codes gs n ((i : Int) + 1) sz wd keys days = v) → glisterlaw04_CipherKnown.l1 k l codes gs n (i : Int) (possOut sz codes (gs.map toG) (i : Int)) (q : Int) sz wd keys days = v
 | 0, k, q, hd, hk, hv => by
  obtain ⟨k, rfl, _⟩ := succ_of hk
  have hcl := h.ask.cl
  have hl := h.ln
  simp only [glisterlaw04_CipherKnown.l1]
  rw [if_neg (by omega), wrap_of (show -9223372036854775808 ≤ (i : Int) + 1 by omega) (by omega)]
  exact hv k (by omega)
 | d + 1, k, q, hd, hk, hv => by
  obtain ⟨k, rfl, _⟩ := succ_of hk
  have hcl := h.ask.cl
  have hl := h.ln
  have hq : q < gs.length := by omega
  have ih := known_l1 (wd := wd) (keys := keys) (days := days) h h6 n i hi v d k (q + 1) (by omega) (by omega) (fun k' hk' => hv k' (by omega))
  rw [show (((q + 1 : Nat)) : Int) = (q : Int) + 1 by omega] at ih
  simp only [glisterlaw04_CipherKnown.l1]
  rw [if_pos (by omega), if_pos (by omega), rd85_at hq, wrap_of (show -9223372036854775808 ≤ (q : Int) + 1 by omega) (by omega)]
  by_cases e : gs[q].f0 = (i : Int)
  ·obtain ⟨j, hj, hg⟩ := h.tr (toG gs[q]) (List.mem_map_of_mem (List.getElem_mem hq))
   have h0 : gs[q].f0 = (j : Int) := congrArg S88.f0 hg
   obtain rfl : j = i := by omega
   have hs := h.sure hj (by rw [← hg]; exact List.mem_map_of_mem (List.getElem_mem hq))
   rw [if_pos e, if_pos (by omega), if_pos (by omega), rd_at hj, hs, Same_refl _ (by simp) (by simp; omega), Option.bind_some, if_pos rfl, ← hs]
   exact ih
  ·rw [if_neg e]
   exact ih
theorem known_l0 {sz wd : Int} {keys : List S82} {days l codes : List Int} {gs : List S85} {y : S91} (hc : checkB sz wd (keys.map toK) days = 0) (h : Kn sz y l codes (gs.map toG)) (h6 : gs.length ≤ 6) : ∀ (d k i : Nat), i + d = l.length → 10 * d + 150 < k → glisterlaw04_CipherKnown.l0 k l codes gs (keysL sz codes (gs.map toG)).length (i : Int) sz wd keys days = some true
 | 0, k, i, hd, hk => by
  obtain ⟨k, rfl, _⟩ := succ_of hk
  simp only [glisterlaw04_CipherKnown.l0]
  rw [if_neg (by omega)]
  rfl
 | d + 1, k, i, hd, hk => by
  obtain ⟨k, rfl, _⟩ := succ_of hk
  have hcl := h.ask.cl
  have hl := h.ln
  have hi : i < l.length := by omega
  have g := good_of hc
  have hk5 : keys.length ≤ 5 := by have := g.k5; rw [List.length_map] at this; exact this
  have hd8 := g.d8
  have ha := asked_zero hc h.ask (by rw [List.length_map]; exact h6)
  have hP := poss_ok ha (i := (i : Int)) (by omega) (by omega)
  have hne : (keysL sz codes (gs.map toG)).length ≠ 0 := fun e => by
   have := h.some
   rw [List.eq_nil_of_length_eq_zero e] at this
   cases this
  rw [if_neg hne] at hP
  have hlen := poss_len (sz := sz) (codes := codes) (gs := gs.map toG) (i := (i : Int))
  have hz := h.ask.sz
  simp only [glisterlaw04_CipherKnown.l0]
  rw [if_pos (by omega), Book_f sz wd keys days (by omega) (by omega) (by omega), Option.bind_some, list_f (by omega), Option.bind_some, Guesses_f gs (by omega) (by omega), Option.bind_some, hP, Option.bind_some, if_pos rfl, if_pos (by omega), rd_at hi, has_f _ _ (show (possOut sz codes (gs.map toG) (i : Int)).length ≤ 1000 by omega) (show (possOut sz codes (gs.map toG) (i : Int)).length < k by omega), Option.bind_some, decide_eq_true (h.can hi), if_pos rfl]
  have fin : glisterlaw04_CipherKnown.j2 k l codes gs (keysL sz codes (gs.map toG)).length (i : Int) (possOut sz codes (gs.map toG) (i : Int)) false sz wd keys days = some true := by
   obtain ⟨k, rfl, _⟩ := succ_of (show 100 < k by omega)
   simp only [glisterlaw04_CipherKnown.j2, Bool.false_eq_true, if_false]
   have e := known_l1 (wd := wd) (keys := keys) (days := days) h h6 (keysL sz codes (gs.map toG)).length i hi (some true) gs.length k 0 (by omega) (by omega) (fun k' hk' => by
    have ih := known_l0 hc h h6 d k' (i + 1) (by omega) (by omega)
    rw [show (((i + 1 : Nat)) : Int) = (i : Int) + 1 by omega] at ih
    exact ih)
   rw [show ((0 : Nat) : Int) = 0 from rfl] at e
   exact e
  by_cases h1 : (((keysL sz codes (gs.map toG)).length : Nat) : Int) = 1
  ·rw [if_pos h1, show (((possOut sz codes (gs.map toG) (i : Int)).length : Int) != 1) = false from by rw [h.lone hi (by omega)]; rfl]
   exact fin
  ·rw [if_neg h1]
   exact fin
theorem CipherKnown : ∀ (a0_0 a0_1 : Int) (l0_2 : List S82) (l0_3 : List Int) (l1 : List Int) (a2 : Int) (a3 : Int), W64 a0_0 → W64 a0_1 → (∀ y ∈ l0_2, Wf82 y) → (∀ y ∈ l0_3, W64 y) → (∀ y ∈ l1, W64 y) → W8 a2 → W16 a3 → ∃ k, glisterlaw04_CipherKnown.f k a0_0 a0_1 l0_2 l0_3 l1 a2 a3 = some true := by
 intro sz wd keys days l a bits _ _ _ _ _ ha _
 have hb := bounds_u8 ha
 refine ⟨404, ?_⟩
 unfold glisterlaw04_CipherKnown.f
 rw [ready_f _ _ _ _ _ (by omega), Option.bind_some]
 cases hr : readyB sz wd (keys.map toK) days l with
 | false => rw [if_neg (by decide)]; rfl
 | true =>
  obtain ⟨hc, hl, hp⟩ := ready_is hr
  have g := good_of hc
  have hL : (keys.map toK).length = keys.length := List.length_map _
  have hk5 : keys.length ≤ 5 := by have := g.k5; omega
  have hk0 : keys.length ≠ 0 := by have := g.k0; omega
  have hd8 := g.d8
  have hd := dayOf_bd hb.1 hb.2 hk0
  have hz : 13 ≤ sz ∧ sz ≤ 41 := ⟨g.s0, g.s1⟩
  have hy : KeyOk sz (toK (rd_T82 keys (dayOf keys.length a))) := by
   rw [← rd91_map keys hd.1 hd.2]; exact g.ks _ (rd91_mem hd.1 (by omega))
  obtain ⟨gs, hg1, hg2, hg3⟩ := Guessed_l0 sz wd keys days l (rd_T82 keys (dayOf keys.length a)) bits (by omega) (by omega) l.length 404 0 [] (by omega) (by omega) (by simp) (by simp)
  have hG : glisterlaw04_Guessed.f 404 sz wd keys days (rd_T82 keys (dayOf keys.length a)).f0 (rd_T82 keys (dayOf keys.length a)).f1 (rd_T82 keys (dayOf keys.length a)).f2 l bits = some (turnL (codeV sz (rd_T82 keys (dayOf keys.length a)).f0 (rd_T82 keys (dayOf keys.length a)).f1 (rd_T82 keys (dayOf keys.length a)).f2) l l.length, gs) := by
   unfold glisterlaw04_Guessed.f
   rw [show turnL (codeV sz (rd_T82 keys (dayOf keys.length a)).f0 (rd_T82 keys (dayOf keys.length a)).f1 (rd_T82 keys (dayOf keys.length a)).f2) l 0 = [] from rfl, show ((0 : Nat) : Int) = 0 from rfl] at hg1
   exact hg1
  have hpl : ∀ x ∈ l, 0 ≤ x ∧ x < sz := fun x hx => (plainB_iff hz.1 hz.2).1 (List.all_eq_true.1 hp x hx)
  have K : Kn sz (toK (rd_T82 keys (dayOf keys.length a))) l (turnL (codeV sz (rd_T82 keys (dayOf keys.length a)).f0 (rd_T82 keys (dayOf keys.length a)).f1 (rd_T82 keys (dayOf keys.length a)).f2) l l.length) (gs.map toG) := by
   refine ⟨⟨g.pr, by rw [turnL_length]; exact hl, fun x hx => ?_, fun q hq => ?_⟩, hy, turnL_length _ _ _, hpl, fun i hi => ?_, fun q hq => ?_⟩
   ·obtain ⟨i, hi, rfl⟩ := turnL_mem hx
    rw [getD_at' hi]
    exact (codeV_eq hz.1 hz.2 hy (hpl _ (List.getElem_mem hi)) (by omega)).2
   ·obtain ⟨q, hq', rfl⟩ := List.mem_map.1 hq
    obtain ⟨j, hj, rfl⟩ := hg3 q hq'
    have := hpl _ (List.getElem_mem hj)
    rw [turnL_length]
    simp only [toG]
    omega
   ·rw [rd_at (by rw [turnL_length]; exact hi), turnL_at hi, getD_at' hi]
    rfl
   ·obtain ⟨q, hq', rfl⟩ := List.mem_map.1 hq
    obtain ⟨j, hj, rfl⟩ := hg3 q hq'
    exact ⟨j, hj, rfl⟩
  have hA := asked_zero hc K.ask (by rw [List.length_map]; exact hg2)
  have hF := fits_ok hA
  have hne : (keysL sz (turnL (codeV sz (rd_T82 keys (dayOf keys.length a)).f0 (rd_T82 keys (dayOf keys.length a)).f1 (rd_T82 keys (dayOf keys.length a)).f2) l l.length) (gs.map toG)).length ≠ 0 := fun e => by
   have := K.some
   rw [List.eq_nil_of_length_eq_zero e] at this
   cases this
  rw [if_neg hne] at hF
  rw [if_pos rfl, if_neg (show ¬ (keys.length : Int) = 0 by omega), show Int.tmod (wrap64 a) (keys.length : Int) = dayOf keys.length a from rfl, if_pos hd.1, if_pos hd.2, hG, Option.bind_some, Book_f sz wd keys days (by omega) (by omega) (by omega), Option.bind_some]
  generalize turnL (codeV sz (rd_T82 keys (dayOf keys.length a)).f0 (rd_T82 keys (dayOf keys.length a)).f1 (rd_T82 keys (dayOf keys.length a)).f2) l l.length = codes at *
  have hcl := K.ln
  rw [list_f (l := codes) (by omega), Option.bind_some, Guesses_f gs (by omega) (by omega), Option.bind_some, hF, Option.bind_some, if_pos rfl, show decide ((((keysL sz codes (gs.map toG)).length : Nat) : Int) < 1) = false from decide_eq_false (by omega)]
  rw [show (404 : Nat) = 403 + 1 from rfl]
  simp only [glisterlaw04_CipherKnown.j0, Bool.false_eq_true, if_false]
  have e := known_l0 hc K hg2 l.length 403 0 (by omega) (by omega)
  rw [show ((0 : Nat) : Int) = 0 from rfl] at e
  exact e
end Go.Proofs.Ytnidgkmopocdkaa.Pure
