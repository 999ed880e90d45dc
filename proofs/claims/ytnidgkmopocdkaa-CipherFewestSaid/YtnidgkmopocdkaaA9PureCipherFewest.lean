import Derived.Test.YtnidgkmopocdkaaA9P24
import Derived.Test.YtnidgkmopocdkaaA9HLoss
import Derived.Test.YtnidgkmopocdkaaA9HBest
import Derived.Test.YtnidgkmopocdkaaA9HBack
namespace Go.Proofs.Ytnidgkmopocdkaa.Pure
open Go.RowKit Go.Proofs.Ytnidgkmopocdkaa.P Go.Proofs.YtnidgkmopocdkaaW.PrintWords Go.Proofs.YtnidgkmopocdkaaW.PrintLast
theorem any_had {lost : List S58} (h : ∀ x ∈ lost, 0 ≤ x.f1) (k d : Int) : anyB k d lost = true ↔ (hadV (lost.map toL) k ≠ -1 ∧ hadV (lost.map toL) k ≤ d) := by
 have := (had_rel k lost (-1) h (.inl rfl)).2 d
 unfold hadV
 rw [this]
 simp
theorem right_ok {lost : List S58} {most : Int} {K : Nat} (hK : K ≤ 5) (h : ∀ x ∈ lost, 0 ≤ x.f1) : ∀ (l : List Int) (s : Sp), rightL lost most K s l = true ↔ okRun (lost.map toL) most K s l
 | [], s => by simp [rightL, okRun]
 | k :: l, s => by
  simp only [rightL, okRun]
  by_cases hi : inB k 0 ((K : Int) - 1) = true
  ·rw [if_neg (by rw [hi]; decide)]
   have hb := inB_iff.1 hi
   obtain ⟨n, rfl⟩ : ∃ n : Nat, k = (n : Int) := ⟨k.toNat, by omega⟩
   rw [next_u s n (by omega)]
   have ha := any_had h (n : Int) s.d
   unfold mayB
   by_cases hy : anyB (n : Int) s.d lost = true
   ·rw [if_pos hy]
    have := ha.1 hy
    simp [this.1, this.2]
   ·rw [if_neg hy]
    have hn : ¬ (hadV (lost.map toL) (n : Int) ≠ -1 ∧ hadV (lost.map toL) (n : Int) ≤ s.d) := fun c => hy (ha.2 c)
    have e : (!(decide (hadV (lost.map toL) (n : Int) = -1)) && decide (hadV (lost.map toL) (n : Int) ≤ s.d)) = false := by
     rw [Bool.and_eq_false_iff, Bool.not_eq_false', decide_eq_true_iff, decide_eq_false_iff_not]
     by_cases h1 : hadV (lost.map toL) (n : Int) = -1
     ·exact .inl h1
     ·exact .inr fun h2 => hn ⟨h1, h2⟩
    rw [e, Bool.false_or]
    by_cases hu : most < s.u (n : Int) + 1
    ·rw [if_pos hu]
     simp [show most ≤ s.u (n : Int) by omega]
    ·rw [if_neg hu, right_ok hK h l]
     simp [show ¬ most ≤ s.u (n : Int) by omega]
     omega
  ·rw [if_pos (Bool.eq_false_iff.2 hi)]
   have : ¬ (0 ≤ k ∧ k < K) := fun c => hi (inB_iff.2 (by omega))
   simp [this]
def chgFrom (la : Int) : List Int → Int
 | [] => 0
 | k :: l => (if k = la then 0 else 1) + chgFrom k l
theorem chg_run : ∀ (l : List Int) (s : Sp), 0 < s.d → chgRun s l = chgFrom s.la l
 | [], s, _ => rfl
 | k :: l, s, h => by
  have e := chg_run l (s.next k) (by show 0 < s.d + 1; omega)
  simp only [chgRun, chgFrom]
  rw [e]
  unfold chgV
  show _ + chgFrom k l = _
  by_cases hk : k = s.la
  ·rw [if_neg (fun c => c.2 hk), if_pos hk]
  ·rw [if_pos ⟨h, hk⟩, if_neg hk]
def chgL : List Int → Int
 | [] => 0
 | k :: l => chgFrom k l
theorem chg_sp0 (l : List Int) : chgRun sp0 l = chgL l := by
 cases l with
 | nil => rfl
 | cons k l =>
  simp only [chgRun, chgL]
  rw [chg_run l (sp0.next k) (show (0 : Int) < 0 + 1 by decide)]
  show chgV sp0 k + chgFrom k l = _
  unfold chgV
  rw [if_neg (fun c => absurd c.1 (by decide : ¬ (0 : Int) < 0))]
  omega
theorem Changes_l0 (x : List Int) (hx : x.length ≤ 50) : ∀ (d k i : Nat) (acc la : Int) (h : i < x.length), i + 1 + d = x.length → d < k → 0 ≤ acc → acc ≤ i → la = x[i] → glisterref04_Changes.l0 k x acc ((i : Int) + 1) = some (acc + chgFrom la (x.drop (i + 1)))
 | 0, k, i, acc, la, h, hd, hk, h0, h1, hla => by
  obtain ⟨k, rfl, _⟩ := succ_of hk
  simp only [glisterref04_Changes.l0]
  rw [if_neg (by omega), List.drop_eq_nil_of_le (by omega)]
  simp [chgFrom]
 | d + 1, k, i, acc, la, h, hd, hk, h0, h1, hla => by
  obtain ⟨k, rfl, _⟩ := succ_of hk
  have hi : i + 1 < x.length := by omega
  simp only [glisterref04_Changes.l0]
  rw [if_pos (by omega), if_pos (by omega), wrap_of (show -9223372036854775808 ≤ (i : Int) + 1 - 1 by omega) (by omega), show (i : Int) + 1 - 1 = (i : Int) by omega, if_pos (by omega), if_pos (by omega), rd_at h, show (i : Int) + 1 = ((i + 1 : Nat) : Int) by omega, rd_at hi, wrap_of (show -9223372036854775808 ≤ ((i + 1 : Nat) : Int) + 1 by omega) (by omega), wrap_of (show -9223372036854775808 ≤ acc + 1 by omega) (by omega), drop_at hi]
  simp only [chgFrom]
  rw [hla]
  by_cases e : x[i + 1] = x[i]
  ·rw [if_pos e, if_pos e, Changes_l0 x hx d k (i + 1) acc _ hi (by omega) (by omega) h0 (by omega) rfl]
   congr 1; omega
  ·rw [if_neg e, if_neg e, Changes_l0 x hx d k (i + 1) (acc + 1) _ hi (by omega) (by omega) (by omega) (by omega) rfl]
   congr 1; omega
theorem Changes_f {k : Nat} (x : List Int) (hx : x.length ≤ 50) (hk : 60 < k) : glisterref04_Changes.f k x = some (chgL x) := by
 unfold glisterref04_Changes.f
 cases x with
 | nil =>
  obtain ⟨k, rfl, _⟩ := succ_of hk
  simp only [glisterref04_Changes.l0]
  rw [if_neg (by simp)]
  rfl
 | cons a l =>
  have := Changes_l0 (a :: l) hx l.length k 0 0 a (by simp) (by simp; omega) (by simp at hx; omega) (by omega) (by omega) rfl
  rw [show ((0 : Nat) : Int) + 1 = 1 from rfl] at this
  rw [this]
  simp [chgL]
def befB : List Int → List Int → Bool
 | [], m => decide (0 < m.length)
 | _ :: _, [] => false
 | a :: l, b :: m => if a = b then befB l m else decide (a < b)
theorem before_l0 (a b : List Int) (ha : a.length ≤ 50) (hb : b.length ≤ 50) : ∀ (n k i : Nat), i + n = a.length → 2 * n + 2 < k → i ≤ b.length → glisterlaw04_before.l0 k a b (i : Int) = some (befB (a.drop i) (b.drop i))
 | 0, k, i, hn, hk, hi => by
  obtain ⟨k, rfl, _⟩ := succ_of hk
  obtain ⟨k, rfl, _⟩ := succ_of (show 0 < k by omega)
  simp only [glisterlaw04_before.l0, glisterlaw04_before.j1]
  rw [if_neg (by omega), if_neg (by decide), List.drop_eq_nil_of_le (by omega)]
  simp only [befB, List.length_drop]
  congr 1
  apply decide_eq_decide.2
  omega
 | n + 1, k, i, hn, hk, hi => by
  obtain ⟨k, rfl, _⟩ := succ_of hk
  obtain ⟨k, rfl, _⟩ := succ_of (show 0 < k by omega)
  have h1 : i < a.length := by omega
  simp only [glisterlaw04_before.l0, glisterlaw04_before.j1]
  rw [if_pos (by omega), drop_at h1]
  by_cases h2 : i < b.length
  ·rw [if_pos (show decide ((i : Int) < (b.length : Int)) = true from decide_eq_true (by omega)), if_pos (by omega), if_pos (by omega), if_pos (by omega), rd_at h1, rd_at h2, drop_at h2, wrap_of (show -9223372036854775808 ≤ (i : Int) + 1 by omega) (by omega)]
   simp only [befB]
   by_cases e : a[i] = b[i]
   ·rw [if_pos e, if_pos e]
    exact before_l0 a b ha hb n k (i + 1) (by omega) (by omega) (by omega)
   ·rw [if_neg e, if_neg e]
  ·rw [if_neg (show ¬ decide ((i : Int) < (b.length : Int)) = true by rw [decide_eq_true_iff]; omega), List.drop_eq_nil_of_le (show b.length ≤ i by omega)]
   simp only [befB]
   congr 1
   exact decide_eq_false (by omega)
theorem before_f {k : Nat} (a b : List Int) (ha : a.length ≤ 50) (hb : b.length ≤ 50) (hk : 150 < k) : glisterlaw04_before.f k a b = some (befB a b) := by
 unfold glisterlaw04_before.f
 have := before_l0 a b ha hb a.length k 0 (by omega) (by omega) (by omega)
 simpa using this
theorem lex_before : ∀ (l x : List Int), l.length = x.length → Lex l x → befB x l = false
 | [], [], _, _ => rfl
 | [], _ :: _, h, _ => by simp at h
 | _ :: _, [], h, _ => by simp at h
 | a :: l, b :: m, h, hl => by
  simp only [befB]
  rcases hl with h1 | ⟨h1, h2⟩
  ·rw [if_neg (by omega)]; exact decide_eq_false (by omega)
  ·rw [if_pos h1.symm]; exact lex_before l m (by simpa using h) h2
theorem prov_run {lost : List S110} {most : Int} {K : Nat} : ∀ (l : List Int) (s : Sp) (c : Int), okRun lost most K s l → provL lost most s l c = decide (chgRun s l ≤ c)
 | [], s, c, _ => rfl
 | k :: l, s, c, h => by
  simp only [provL, chgRun]
  rw [if_pos h.2.1, prov_run l _ _ h.2.2]
  apply decide_eq_decide.2
  omega
theorem few_end {sz wd most : Int} {keys : List S82} {days : List Int} {l : List S58} {words : List Int} (hc : lossesV sz wd (keys.map toK) days (l.map toL) = 0) (hm : 0 ≤ most ∧ most ≤ 8) (x : List Int) (hx : x.length ≤ 8) (i : Int) (r : List Int × Int × Int) (hr : cipher_Plan.f sz wd (keys.map toK) days (l.map toL) most = some r) : ∀ k, 300 < k → glisterlaw04_CipherFewest.j1 k l words most r.1 r.2.1 r.2.2 x i false sz wd keys days = some true := by
 intro k hk
 obtain ⟨k, rfl, _⟩ := succ_of hk
 have hs := losses_small hc
 rw [List.length_map, List.length_map] at hs
 have hL : (keys.map toK).length = keys.length := List.length_map _
 have hl0 : ∀ y ∈ l, 0 ≤ y.f1 := fun y hy => (losses_at hc (List.mem_map_of_mem hy : toL y ∈ l.map toL)).2.2.1
 have hR : ∀ y : List Int, y.length ≤ 8 → glisterref04_IsRight.f sz wd keys days l most y = some (rightV keys days l most y) := by
  intro y hy
  unfold glisterref04_IsRight.f
  rw [if_neg (by omega), if_neg (by omega), if_neg (by omega)]
 have hV : ∀ y : List Int, rightV keys days l most y = true ↔ (y.length = days.length ∧ okRun (l.map toL) most keys.length sp0 y) := by
  intro y
  unfold rightV
  by_cases h : y.length = days.length
  ·rw [if_neg (fun c => c h)]
   have := right_ok (lost := l) (most := most) (K := keys.length) (by omega) hl0 y sp0
   exact ⟨fun c => ⟨h, this.1 c⟩, fun c => this.2 c.2⟩
  ·rw [if_pos h]
   simp [h]
 unfold cipher_Plan.f at hr
 rw [if_neg (show ¬ lossesV sz wd (keys.map toK) days (l.map toL) ≠ 0 from fun h => h hc), if_neg (show ¬ inB most 0 8 = false by rw [Bool.not_eq_false, inB_iff]; omega), hL] at hr
 have hr := Option.some.inj hr
 simp only [glisterlaw04_CipherFewest.j1, Bool.false_eq_true, if_false]
 rw [hR x hx, Option.bind_some]
 by_cases hf : farV ≤ fewF (l.map toL) most keys.length days.length sp0
 ·rw [if_pos hf] at hr
  subst hr
  have hno : ¬ rightV keys days l most x = true := by
   intro c
   obtain ⟨c1, c2⟩ := (hV x).1 c
   have := few_le x sp0 c2
   rw [c1] at this
   have := chgRun_bd x sp0
   unfold farV at hf
   omega
  rw [if_neg (show ¬ (10 : Int) = 0 by decide), if_pos rfl, if_neg hno]
  rfl
 ·rw [if_neg hf] at hr
  obtain ⟨i1, i2, i3, i4⟩ := ext_ok (lost := l.map toL) (most := most) (K := keys.length) days.length sp0 _ rfl (by omega)
  have hn0 := fewF_pos (l.map toL) most keys.length days.length sp0
  have hfl := few_le x sp0 (lost := l.map toL) (most := most) (K := keys.length)
  rw [show extF (l.map toL) most keys.length days.length sp0 (fewF (l.map toL) most keys.length days.length sp0) = planL (l.map toL) most keys.length days.length from rfl] at i1 i2 i3 i4
  generalize planL (l.map toL) most keys.length days.length = p at *
  generalize hn : fewF (l.map toL) most keys.length days.length sp0 = n at *
  subst hr
  have hpc := chgRun_bd p sp0
  have hc2 := losses_check hc
  have hall : p.all (ownB keys.length) = true := by
   refine List.all_eq_true.2 fun y hy => ?_
   have : ∀ (q : List Int) (s : Sp), okRun (l.map toL) most keys.length s q → ∀ y ∈ q, ownB keys.length y = true := by
    intro q
    induction q with
    | nil => intro s _ y hy; cases hy
    | cons a q ih =>
     intro s ho y hy
     rcases List.mem_cons.1 hy with rfl | h
     ·unfold ownB; rw [inB_iff]; have := ho.1; omega
     ·exact ih _ ho.2.2 y h
   exact this p sp0 i2 y hy
  have hP : ∀ c : Int, c ≤ 8 → cipher_ProvePlan.f sz wd (keys.map toK) days (l.map toL) most p c = some (decide (n ≤ c)) := by
   intro c hc8
   unfold cipher_ProvePlan.f provV
   rw [if_neg (by omega), if_neg (show ¬ lossesV sz wd (keys.map toK) days (l.map toL) ≠ 0 from fun h => h hc), if_neg (show ¬ inB most 0 8 = false by rw [Bool.not_eq_false, inB_iff]; omega), if_neg (fun h => h i1), hL, hall, if_neg (by decide)]
   by_cases h0 : c < 0
   ·rw [if_pos h0, decide_eq_false (by omega)]
   ·rw [if_neg h0, prov_run p sp0 c i2, i3]
  have hpr : rightV keys days l most p = true := (hV p).2 ⟨i1, i2⟩
  have hpl : p.length ≤ 8 := by omega
  have hcp : chgL p = n := by rw [← chg_sp0]; exact i3
  rw [if_pos rfl, hR p hpl, Option.bind_some, hpr, if_pos rfl, Changes_f p (by omega) (by omega), Option.bind_some, if_pos hcp, Book_f sz wd keys days (by omega) (by omega) (by omega), Option.bind_some, Losses_f l (by omega) (by omega), Option.bind_some, list_f (l := p) (by omega), Option.bind_some, hP n (by omega), Option.bind_some, decide_eq_true (Int.le_refl n), if_pos rfl, Option.bind_some, Option.bind_some, Option.bind_some, show wrap64 (n - 1) = n - 1 from wrap_of (by omega) (by omega), hP (n - 1) (by omega), Option.bind_some, decide_eq_false (show ¬ n ≤ n - 1 by omega)]
  obtain ⟨k, rfl, _⟩ := succ_of (show 290 < k by omega)
  simp only [glisterlaw04_CipherFewest.j2, Bool.false_eq_true, if_false]
  rw [Changes_f x (by omega) (by omega), Option.bind_some]
  by_cases hxr : rightV keys days l most x = true
  ·obtain ⟨c1, c2⟩ := (hV x).1 hxr
   have hle := hfl c2
   rw [c1, hn, chg_sp0] at hle
   rw [if_pos hxr]
   by_cases hgt : chgL x > n
   ·rw [if_pos hgt]; rfl
   ·rw [if_neg hgt, if_pos (by omega), before_f x p (by omega) (by omega) (by omega), Option.bind_some, lex_before p x (by omega) (i4 x c1 c2 (by rw [chg_sp0]; omega)), if_neg (by decide)]
    rfl
  ·rw [if_neg hxr]; rfl
theorem few_l0 {sz wd most : Int} {keys : List S82} {days : List Int} {l : List S58} {words : List Int} (hc : lossesV sz wd (keys.map toK) days (l.map toL) = 0) (hm : 0 ≤ most ∧ most ≤ 8) (hk0 : keys.length ≠ 0) (hw : ∀ y ∈ words, 0 ≤ y ∧ y ≤ 255) (r : List Int × Int × Int) (hr : cipher_Plan.f sz wd (keys.map toK) days (l.map toL) most = some r) : ∀ (d k i : Nat) (x : List Int), i + d = days.length → x.length = i → 2 * d + 310 < k → glisterlaw04_CipherFewest.l0 k l words most r.1 r.2.1 r.2.2 x (i : Int) sz wd keys days = some true
 | 0, k, i, x, hd, hx, hk => by
  obtain ⟨k, rfl, _⟩ := succ_of hk
  have hs := losses_small hc
  simp only [glisterlaw04_CipherFewest.l0]
  rw [if_neg (by omega)]
  exact few_end hc hm x (by omega) _ r hr k (by omega)
 | d + 1, k, i, x, hd, hx, hk => by
  obtain ⟨k, rfl, _⟩ := succ_of hk
  have hs := losses_small hc
  simp only [glisterlaw04_CipherFewest.l0]
  rw [if_pos (by omega)]
  by_cases hw0 : words.length = 0
  ·rw [show decide ((words.length : Int) > 0) = false from decide_eq_false (by omega)]
   exact few_end hc hm x (by omega) _ r hr k (by omega)
  ·rw [show decide ((words.length : Int) > 0) = true from decide_eq_true (by omega)]
   obtain ⟨k, rfl, _⟩ := succ_of (show 300 < k by omega)
   have ih := fun v => few_l0 hc hm hk0 hw r hr d k (i + 1) (x ++ [v]) (by omega) (by simp [hx]) (by omega)
   rw [show (((i + 1 : Nat)) : Int) = (i : Int) + 1 by omega] at ih
   have ht := tmod_bd (a := (i : Int)) (b := (words.length : Int)) (by omega) (by omega)
   simp only [glisterlaw04_CipherFewest.j1, if_true]
   have hwi := hw _ (rd_mem ht.1 ht.2)
   rw [if_neg (by omega), if_pos ht.1, if_pos ht.2, wrap_of (show -9223372036854775808 ≤ rd words (Int.tmod (i : Int) (words.length : Int)) by omega) (by omega), wrap_of (show -9223372036854775808 ≤ (i : Int) - 1 by omega) (by omega), wrap_of (show -9223372036854775808 ≤ (i : Int) + 1 by omega) (by omega)]
   by_cases hi : (i : Int) > 0
   ·rw [if_pos hi]
    by_cases hb : rd words (Int.tmod (i : Int) (words.length : Int)) ≥ 128
    ·rw [if_pos hb, if_pos (by omega), if_pos (by omega), if_pos (by omega)]
     exact ih _
    ·rw [if_neg hb, if_neg (by omega), if_pos (by omega)]
     exact ih _
   ·rw [if_neg hi, if_neg (by omega), if_pos (by omega)]
    exact ih _
theorem CipherFewest : ∀ (a0_0 a0_1 : Int) (l0_2 : List S82) (l0_3 : List Int) (l1 : List S58) (a2 : Int) (l3 : List Int), W64 a0_0 → W64 a0_1 → (∀ y ∈ l0_2, Wf82 y) → (∀ y ∈ l0_3, W64 y) → (∀ y ∈ l1, Wf58 y) → W8 a2 → (∀ y ∈ l3, W8 y) → ∃ k, glisterlaw04_CipherFewest.f k a0_0 a0_1 l0_2 l0_3 l1 a2 l3 = some true := by
 intro sz wd keys days l a words _ _ _ _ _ ha hw
 have hb := bounds_u8 ha
 refine ⟨404, ?_⟩
 unfold glisterlaw04_CipherFewest.f
 rw [lossed_f _ _ _ _ _ (by omega), Option.bind_some]
 cases hr : lossedB sz wd (keys.map toK) days (l.map toL) with
 | false => rw [if_neg (by decide)]; rfl
 | true =>
  have hc := lossed_is hr
  have hs := losses_small hc
  rw [List.length_map, List.length_map] at hs
  have ht := tmod_bd (a := a) (b := 9) hb.1 (by omega)
  have g := good_of (losses_check hc)
  have hk0 := g.k0
  rw [List.length_map] at hk0
  rw [if_pos rfl, Book_f sz wd keys days (by omega) (by omega) (by omega), Option.bind_some, Losses_f l (by omega) (by omega), Option.bind_some, wrap_of (show -9223372036854775808 ≤ a by omega) (by omega)]
  generalize Int.tmod a 9 = most at *
  obtain ⟨r, hr2⟩ : ∃ r, cipher_Plan.f sz wd (keys.map toK) days (l.map toL) most = some r := ⟨_, rfl⟩
  rw [hr2, Option.bind_some]
  have e := few_l0 hc (by omega) hk0 (fun y hy => bounds_u8 (hw y hy)) r hr2 days.length 404 0 [] (by omega) rfl (by omega)
  rw [show ((0 : Nat) : Int) = 0 from rfl] at e
  exact e
end Go.Proofs.Ytnidgkmopocdkaa.Pure
