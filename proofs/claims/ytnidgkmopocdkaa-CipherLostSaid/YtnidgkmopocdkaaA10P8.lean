import Derived.Test.YtnidgkmopocdkaaA10P0
import Derived.Test.YtnidgkmopocdkaaA10P4
namespace Go.Proofs.Ytnidgkmopocdkaa.P
open Go.RowKit Go.Proofs.YtnidgkmopocdkaaW.PrintWords Go.Proofs.YtnidgkmopocdkaaW.PrintLast Go.Proofs.YtnidgkmopocdkaaW.PrintMore
attribute [local go_sem] max2_int min2_int max_two min_two max_three min_three max_four min_four   -- for this text's walks alone
set_option linter.unusedVariables false
set_option linter.unusedSimpArgs false
def glisterlaw04_Losses.l0 : Nat → List (S58) → List (S110) → Int → Option ((List (S110)))
 | 0, _, _, _ => none
 | k + 1, x0, x3, x4 => if x4 < (x0.length : Int) then (if 0 ≤ x4 then (if x3.length < 8796093022208 then (glisterlaw04_Losses.l0 k x0 (x3 ++ [(⟨(rd_T58 x0 x4).f0, (rd_T58 x0 x4).f1⟩ : S110)]) (wrap64 (x4 + 1))) else (none)) else (none)) else (some x3)
def glisterlaw04_Losses.f (k : Nat) (l0 : List (S58)) : Option ((List (S110))) := glisterlaw04_Losses.l0 k l0 ([] : List (S110)) 0
def glisterlaw04_Losses.T5 : Bool × List (List Nat × List Nat) := (true, [([], []), ([], []), ([], []), ([1, 2], [1, 2]), ([3], [3]), ([4], [4]), ([], []), ([], []), ([6, 7], [6, 7]), ([8], [8]), ([9], [9]), ([5, 10], [5, 10]), ([11], [11]), ([0, 12], [0, 12]), ([13, 13, 0, 1, 2, 3, 4, 5, 6, 7, 8, 9, 10, 11, 12, 13], [0, 13])])
def glisterlaw04_Losses.B5 : List Nat := [0, 0, 0, 6, 14, 30, 0, 0, 192, 448, 960, 2046, 4094, 8191, 16383]
theorem glisterlaw04_Losses.tab5 : rtab .any (opsOf Try.f30 5) = glisterlaw04_Losses.T5 := by kernel_rfl
theorem glisterlaw04_Losses.bits5 : waitsOk glisterlaw04_Losses.T5.2 glisterlaw04_Losses.B5 = true := by kernel_rfl
set_option maxHeartbeats 8000000 in
set_option maxRecDepth 100000 in
theorem glisterlaw04_Losses.calls (k : Nat) (A0 : Option Addr) (c0 : Nat) (l0 : List (S58)) (r : List (S110)) (w : World) (hr0 : Kd.C k58 w A0 l0.length l0) (hc0 : l0.length ≤ c0) (h : glisterlaw04_Losses.f k l0 = some r) :
  Calls Try.prog 30 #[.slice A0 l0.length c0] w fun e w' => ∃ v0_ : Value, e = .returned (v0_) ∧ Kd.R k110 110 w' w.heap.size (fun _ => True) v0_ r ∧ Below w.heap.size w w' := by
 have hu110 := Try.underlying110
 have HR0 := Sd.mk hr0
 have HC0 := Sd.mk hc0
 clear hr0 hc0
 have HB := Sd.mk (Below.refl w.heap.size w)
 have H : (glisterlaw04_Losses.l0 k l0 ([] : List (S110)) 0) = some r := h
 clear h
 have H' := Sd.mk H
 clear H
 go_enter Try.func30, Try.ntmps30
 go_wp2
 go_loopg [3, 4] k (fun kq v3 v4 w' => ∃ (x3_1 : List (S110)) (x4_1 : Int), v4 = .int .i64 x4_1 ∧ Sd (glisterlaw04_Losses.l0 kq l0 x3_1 x4_1 = some r) ∧ Sd (kq ≤ k) ∧ Sd (Kd.R k110 110 w' w.heap.size (fun _ => True) v3 x3_1) ∧ Sd (Below w.heap.size w w'))
 case atStart => exact ⟨(([] : List (S110))), (0), (by first | rfl ), H', ⟨Nat.le_refl _⟩, ⟨by first | exact Kd.R_nil _ _ _ _ _ ⟩, ⟨by repeat (first | (with_reducible first | exact HB.1 ) )⟩⟩
 case round =>
  clear H'
  obtain ⟨x3_1, x4_1, rfl, HA, HK1, HO_3, HB⟩ := hrel
  cases gk with
  | zero => exact absurd HA.1 (by simp [glisterlaw04_Losses.l0])
  | succ k1 =>
   have H := HA.1
   clear HA
   simp only [glisterlaw04_Losses.l0] at H
   by_cases c2 : x4_1 < (l0.length : Int)
   ·rw [if_pos c2] at H
    have c2b0 : decide (x4_1 < (l0.length : Int)) = true := decide_eq_true c2
    clear c2
    by_cases c3 : 0 ≤ x4_1
    ·rw [if_pos c3] at H
     have c3b0 : decide (0 ≤ x4_1) = true := decide_eq_true c3
     clear c3
     by_cases c4 : x3_1.length < 8796093022208
     ·rw [if_pos c4] at H
      have LMc4 := Sd.mk c4
      clear c4
      obtain ⟨y357, hy357⟩ : ∃ y_ : List (S110), y_ = (x3_1 ++ [(⟨(rd_T58 l0 x4_1).f0, (rd_T58 l0 x4_1).f1⟩ : S110)]) := ⟨_, rfl⟩
      replace H : (glisterlaw04_Losses.l0 k1 l0 y357 (wrap64 (x4_1 + 1))) = some r := by first | (rw [hy357]; with_reducible exact H) 
      have Ny357 := Sd.mk hy357
      clear hy357
      have H' := Sd.mk H
      clear H
      try go_wp2
      have n0_ := Sd.mk (Kd.R_drew HO_3.1)
      have n1_ := Sd.mk (bD HB.1)
      clear HO_3
      clear HB
      have HO_3 := n0_
      have HB := n1_
      clear n0_ n1_
      have p355 : 0 ≤ (x4_1 : Int) := of_decide_eq_true (by first | (with_reducible assumption) )
      have q355 : x4_1 < (l0.length : Int) := of_decide_eq_true (by first | (with_reducible assumption) )
      obtain ⟨ad355, e355, hx355_0, hx355_1⟩ := at_T58 HR0.1 x4_1 p355 q355
      have hw355_1 := hx355_1
      have hw355_0 := hx355_0
      cases e355
      replace hx355_0 := (HB.1.cell (World.block_lt_of_cell? w _ hx355_0)).trans hx355_0
      replace hx355_1 := (HB.1.cell (World.block_lt_of_cell? w _ hx355_1)).trans hx355_1
      replace p355 := eq_true p355
      replace q355 := eq_true q355
      have p356 : 0 ≤ (x4_1 : Int) := of_decide_eq_true (by first | (with_reducible assumption) )
      have q356 : x4_1 < (l0.length : Int) := of_decide_eq_true (by first | (with_reducible assumption) )
      obtain ⟨ad356, e356, hx356_0, hx356_1⟩ := at_T58 HR0.1 x4_1 p356 q356
      have hw356_1 := hx356_1
      have hw356_0 := hx356_0
      obtain rfl : ad355 = ad356 := (by injection e356)
      replace hx356_0 := (HB.1.cell (World.block_lt_of_cell? w _ hx356_0)).trans hx356_0
      replace hx356_1 := (HB.1.cell (World.block_lt_of_cell? w _ hx356_1)).trans hx356_1
      replace p356 := eq_true p356
      replace q356 := eq_true q356
      refine start_ (n := 15) (S := fun w' => w'.cell? (ad355.add ((x4_1).toNat * 2)) = some (.int .i64 ((rd_T58 l0 x4_1).f0)) ∧ w'.cell? ⟨(ad355.add ((x4_1).toNat * 2)).block, (ad355.add ((x4_1).toNat * 2)).off + 1, none⟩ = some (.int .i64 ((rd_T58 l0 x4_1).f1)) ∧ w'.cell? (ad355.add ((x4_1).toNat * 2)) = some (.int .i64 ((rd_T58 l0 x4_1).f0)) ∧ w'.cell? ⟨(ad355.add ((x4_1).toNat * 2)).block, (ad355.add ((x4_1).toNat * 2)).off + 1, none⟩ = some (.int .i64 ((rd_T58 l0 x4_1).f1))) (ds := []) #[false, false, false, false, false, false, false, false, false, false, false, false, false, false, false] (by kernel_rfl) rfl rfl ⟨((HB.1.cell (World.block_lt_of_cell? w _ hw355_0)).trans hw355_0), ((HB.1.cell (World.block_lt_of_cell? w _ hw355_1)).trans hw355_1), ((HB.1.cell (World.block_lt_of_cell? w _ hw356_0)).trans hw356_0), ((HB.1.cell (World.block_lt_of_cell? w _ hw356_1)).trans hw356_1)⟩ (fun hHeld => ?_); refine with_tabW glisterlaw04_Losses.tab5 glisterlaw04_Losses.bits5 (fun HT_ HW_ => ?_)
      generalize wr.drew = w5 at HO_3 HB hx355_0 hx355_1 hx356_0 hx356_1 hHeld ⊢
      refine pure_ (i := 0) (N := some 11) (v := ?_) (a' := ?_) #[true, false, false, false, false, false, false, false, false, false, false, false, false, false, false] rfl rfl (any_of HT_.1 (by kernel_rfl)) (fun _ _ _ h => h) (Or.inl ⟨by rfl, ?_⟩) ?_ ?_
      rotate_left
      ·intro w'
       go_simp
       with_reducible rfl
      rotate_left
      ·simp only [Act.put, List.setIfInBounds_toArray, List.set_cons_zero, List.set_cons_succ, i64_w, i32_w]
       rfl
      refine pure_ (i := 1) (N := some 12) (v := ?_) (a' := ?_) #[true, true, false, false, false, false, false, false, false, false, false, false, false, false, false] rfl rfl (any_of HT_.1 (by kernel_rfl)) (fun _ _ _ h => h) (Or.inl ⟨by rfl, ?_⟩) ?_ ?_
      rotate_left
      ·intro w'
       go_simp
       with_reducible rfl
      rotate_left
      ·simp only [Act.put, List.setIfInBounds_toArray, List.set_cons_zero, List.set_cons_succ, i64_w, i32_w]
       rfl
      refine pure_ (i := 2) (N := some 13) (v := ?_) (a' := ?_) #[true, true, true, false, false, false, false, false, false, false, false, false, false, false, false] rfl rfl (any_of HT_.1 (by kernel_rfl)) (fun _ _ _ h => h) (Or.inl ⟨by rfl, ?_⟩) ?_ ?_
      rotate_left
      ·intro w'
       go_simp
       with_reducible rfl
      rotate_left
      ·simp only [Act.put, List.setIfInBounds_toArray, List.set_cons_zero, List.set_cons_succ, i64_w, i32_w]
       rfl
      refine pure_ (i := 3) (N := some 14) (v := ?_) (a' := ?_) #[true, true, true, true, false, false, false, false, false, false, false, false, false, false, false] rfl rfl (any_of HT_.1 (by kernel_rfl)) (fun _ _ _ h => h) (Or.inl ⟨by rfl, ?_⟩) ?_ ?_
      rotate_left
      ·intro w'
       go_simp
       with_reducible rfl
      rotate_left
      ·simp only [Act.put, List.setIfInBounds_toArray, List.set_cons_zero, List.set_cons_succ, i64_w, i32_w]
       rfl
      refine pure_ (i := 4) (N := some 15) (v := ?_) (a' := ?_) #[true, true, true, true, true, false, false, false, false, false, false, false, false, false, false] rfl rfl (any_of HT_.1 (by kernel_rfl)) (fun _ _ _ h => h) (Or.inl ⟨by rfl, ?_⟩) ?_ ?_
      rotate_left
      ·intro w'
       go_simp
       with_reducible rfl
      rotate_left
      ·simp only [Act.put, List.setIfInBounds_toArray, List.set_cons_zero, List.set_cons_succ, i64_w, i32_w]
       rfl
      refine pure_ (i := 6) (N := some 17) (v := ?_) (a' := ?_) #[true, true, true, true, true, false, true, false, false, false, false, false, false, false, false] rfl rfl (any_of HT_.1 (by kernel_rfl)) (fun _ _ _ h => h) (Or.inl ⟨by rfl, ?_⟩) ?_ ?_
      rotate_left
      ·intro w'
       go_simp
       with_reducible rfl
      rotate_left
      ·simp only [Act.put, List.setIfInBounds_toArray, List.set_cons_zero, List.set_cons_succ, i64_w, i32_w]
       rfl
      refine pure_ (i := 7) (N := some 18) (v := ?_) (a' := ?_) #[true, true, true, true, true, false, true, true, false, false, false, false, false, false, false] rfl rfl (any_of HT_.1 (by kernel_rfl)) (fun _ _ _ h => h) (Or.inl ⟨by rfl, ?_⟩) ?_ ?_
      rotate_left
      ·intro w'
       go_simp
       with_reducible rfl
      rotate_left
      ·simp only [Act.put, List.setIfInBounds_toArray, List.set_cons_zero, List.set_cons_succ, i64_w, i32_w]
       rfl
      refine pure_ (i := 8) (N := some 19) (v := ?_) (a' := ?_) #[true, true, true, true, true, false, true, true, true, false, false, false, false, false, false] rfl rfl (any_of HT_.1 (by kernel_rfl)) (fun _ _ _ h => h) (Or.inl ⟨by rfl, ?_⟩) ?_ ?_
      rotate_left
      ·intro w'
       go_simp
       with_reducible rfl
      rotate_left
      ·simp only [Act.put, List.setIfInBounds_toArray, List.set_cons_zero, List.set_cons_succ, i64_w, i32_w]
       rfl
      refine pure_ (i := 9) (N := some 20) (v := ?_) (a' := ?_) #[true, true, true, true, true, false, true, true, true, true, false, false, false, false, false] rfl rfl (any_of HT_.1 (by kernel_rfl)) (fun _ _ _ h => h) (Or.inl ⟨by rfl, ?_⟩) ?_ ?_
      rotate_left
      ·intro w'
       go_simp
       with_reducible rfl
      rotate_left
      ·simp only [Act.put, List.setIfInBounds_toArray, List.set_cons_zero, List.set_cons_succ, i64_w, i32_w]
       rfl
      refine take_ (i := 5) (N := some 16) (v := ?_) (a' := ?_) #[true, true, true, true, true, true, true, true, true, true, false, false, false, false, false] rfl rfl (take_ofW HT_.1 HW_.1 (by kernel_rfl)) (fun _ _ _ h => h) (Or.inl ⟨by rfl, ?_⟩) hHeld ?_ ?_
      rotate_left
      ·rintro w' ⟨s0, s1, s2, s3⟩
       go_simp
       with_reducible rfl
      rotate_left
      ·simp only [Act.put, List.setIfInBounds_toArray, List.set_cons_zero, List.set_cons_succ, i64_w, i32_w]
       rfl
      refine take_ (i := 10) (N := some 21) (v := ?_) (a' := ?_) #[true, true, true, true, true, true, true, true, true, true, true, false, false, false, false] rfl rfl (take_ofW HT_.1 HW_.1 (by kernel_rfl)) (fun _ _ _ h => h) (Or.inl ⟨by rfl, ?_⟩) hHeld ?_ ?_
      rotate_left
      ·rintro w' ⟨s0, s1, s2, s3⟩
       go_simp
       with_reducible rfl
      rotate_left
      ·simp only [Act.put, List.setIfInBounds_toArray, List.set_cons_zero, List.set_cons_succ, i64_w, i32_w]
       rfl
      refine pure_ (i := 11) (N := some 22) (v := ?_) (a' := ?_) #[true, true, true, true, true, true, true, true, true, true, true, true, false, false, false] rfl rfl (any_of HT_.1 (by kernel_rfl)) (fun _ _ _ h => h) (Or.inl ⟨by rfl, ?_⟩) ?_ ?_
      rotate_left
      ·intro w'
       go_simp
       with_reducible rfl
      rotate_left
      ·simp only [Act.put, List.setIfInBounds_toArray, List.set_cons_zero, List.set_cons_succ, i64_w, i32_w]
       rfl
      refine one_ (i := 12) (N := some 23) #[true, true, true, true, true, true, true, true, true, true, true, true, true, false, false] rfl rfl (one_of HT_.1 (by kernel_rfl)) (by decide) (fun K hK => ?_)
      refine value_ (w1 := ?_) (v := ?_) (by rfl) rfl ?_ ?_
      rotate_left 2
      ·go_simp
       constructor
       ·rfl
       ·rfl
      refine hK.out _ _ ⟨(World.cell?_alloc_lt _ _ _ (World.block_lt_of_cell? _ _ (((HB.1.cell (World.block_lt_of_cell? w _ hw355_0)).trans hw355_0)))).trans (((HB.1.cell (World.block_lt_of_cell? w _ hw355_0)).trans hw355_0)), (World.cell?_alloc_lt _ _ _ (World.block_lt_of_cell? _ _ (((HB.1.cell (World.block_lt_of_cell? w _ hw355_1)).trans hw355_1)))).trans (((HB.1.cell (World.block_lt_of_cell? w _ hw355_1)).trans hw355_1)), (World.cell?_alloc_lt _ _ _ (World.block_lt_of_cell? _ _ (((HB.1.cell (World.block_lt_of_cell? w _ hw356_0)).trans hw356_0)))).trans (((HB.1.cell (World.block_lt_of_cell? w _ hw356_0)).trans hw356_0)), (World.cell?_alloc_lt _ _ _ (World.block_lt_of_cell? _ _ (((HB.1.cell (World.block_lt_of_cell? w _ hw356_1)).trans hw356_1)))).trans (((HB.1.cell (World.block_lt_of_cell? w _ hw356_1)).trans hw356_1))⟩ (fun hHeld => ?_)
      clear hK K
      refine norm_ (a' := ?_) ?_ ?_
      rotate_left
      ·show Act.put _ (some 23) _ = _
       simp only [Act.put, List.setIfInBounds_toArray, List.set_cons_zero, List.set_cons_succ, i64_w, i32_w]
       rfl
      refine one_ (i := 13) (N := some 24) #[true, true, true, true, true, true, true, true, true, true, true, true, true, true, false] rfl rfl (one_of HT_.1 (by kernel_rfl)) (by decide) (fun K hK => ?_)
      refine Kd.R_append_step k110 (w0 := w) w.heap.size (by rfl) (.tmp 11) (.tmp 23) 49 110 (.agg #[(.int .i64 0), (.int .i64 0)]) 16 rfl Try.underlying49 info110 rfl (by decide) (by omega) u3 x3_1 (⟨(rd_T58 l0 x4_1).f0, (rd_T58 l0 x4_1).f1⟩ : S110) [.int .i64 ((rd_T58 l0 x4_1).f0), .int .i64 ((rd_T58 l0 x4_1).f1)] (fun _ => True) (fun _ => False) rfl rfl ?aP (fun _ hk => hk.elim) ?aF ?aO ?aB ?aS ?aL ?_
      (case aP => exact k110_mkM _ _ _ (⟨(rd_T58 l0 x4_1).f0, (rd_T58 l0 x4_1).f1⟩ : S110))
      (case aB => exact (by repeat (first | (with_reducible first | exact HB.1 ) )))
      (case aF => exact (fun _ _ => trivial))
      (case aO => exact (by (with_reducible repeat (fail)); exact HO_3.1))
      (case aS => exact (bZ (by repeat (first | (with_reducible first | exact HB.1 ) ))))
      (case aL => have := LMc4.1; omega)
      intro v358 w6 ho hb hg hat
      rw [← Ny357.1] at ho
      have n0_ := Sd.mk (hb)
      have n1_ := Sd.mk (ho)
      clear HB
      clear HO_3
      have HB := n0_
      have HO359 := n1_
      clear n0_ n1_
      clear ho hb hg hat
      refine hK.out _ _ ⟨((HB.1.cell (World.block_lt_of_cell? w _ hw355_0)).trans hw355_0), ((HB.1.cell (World.block_lt_of_cell? w _ hw355_1)).trans hw355_1), ((HB.1.cell (World.block_lt_of_cell? w _ hw356_0)).trans hw356_0), ((HB.1.cell (World.block_lt_of_cell? w _ hw356_1)).trans hw356_1)⟩ (fun hHeld => ?_)
      clear hK K
      refine norm_ (a' := ?_) ?_ ?_
      rotate_left
      ·show Act.put _ (some 24) _ = _
       simp only [Act.put, List.setIfInBounds_toArray, List.set_cons_zero, List.set_cons_succ, i64_w, i32_w]
       rfl
      refine pure_ (i := 14) (N := some 3) (v := ?_) (a' := ?_) #[true, true, true, true, true, true, true, true, true, true, true, true, true, true, true] rfl rfl (any_of HT_.1 (by kernel_rfl)) (fun _ _ _ h => h) (Or.inl ⟨by rfl, ?_⟩) ?_ ?_
      rotate_left
      ·intro w'
       go_simp
       with_reducible rfl
      rotate_left
      ·simp only [Act.put, List.setIfInBounds_toArray, List.set_cons_zero, List.set_cons_succ, i64_w, i32_w]
       rfl
      refine done_ (done_of HT_.1 (by kernel_rfl)) ?_
      try go_wp2
      go_roundg k1
      case measure => have := HK1.1; omega
      case rel => exact ⟨(y357), (wrap64 (x4_1 + 1)), (by first | rfl ), H', ⟨by have := HK1.1; omega⟩, ⟨by (with_reducible repeat (fail)); exact HO359.1⟩, ⟨by repeat (first | (with_reducible first | exact HB.1 ) )⟩⟩
     ·rw [if_neg c4] at H
      exact absurd H (by simp)
    ·rw [if_neg c3] at H
     exact absurd H (by simp)
   ·rw [if_neg c2] at H
    have c2b0 : decide (x4_1 < (l0.length : Int)) = false := decide_eq_false c2
    clear c2
    obtain rfl := Option.some.inj H
    go_wp2
    go_ret
    exact ⟨_, by first | rfl , by (with_reducible repeat (fail)); exact HO_3.1, by repeat (first | (with_reducible first | exact HB.1 ) )⟩
def glisterref04_LossFault.l0 : Nat → List (S58) → Int → Int → Int → List (S82) → List Int → Option (Int)
 | 0, _, _, _, _, _, _ => none
 | k + 1, x1, x5, x361000, x361001, x361002, x361003 => if x5 < (x1.length : Int) then (if 0 ≤ x5 then ((glisterref04_In.f ((rd_T58 x1 x5).f0) 0 (wrap64 ((x361002.length : Int) - 1))).bind fun t362 => (if t362 = true then ((glisterref04_In.f ((rd_T58 x1 x5).f1) 0 (wrap64 ((x361003.length : Int) - 1))).bind fun t364 => (if t364 = true then (glisterref04_LossFault.l0 k x1 (wrap64 (x5 + 1)) x361000 x361001 x361002 x361003) else (some 2))) else (some 2))) else (none)) else (some 0)
def glisterref04_LossFault.f (k : Nat) (a0_0 : Int) (a0_1 : Int) (l0_2 : List (S82)) (l0_3 : List Int) (l1 : List (S58)) : Option (Int) := if (l1.length : Int) > 6 then (some 3) else (glisterref04_LossFault.l0 k l1 0 a0_0 a0_1 l0_2 l0_3)
set_option maxHeartbeats 8000000 in
set_option maxRecDepth 100000 in
theorem glisterref04_LossFault.calls (k : Nat) (a0_0 : Int) (a0_1 : Int) (A0_2 : Option Addr) (c0_2 : Nat) (l0_2 : List (S82)) (A0_3 : Option Addr) (c0_3 : Nat) (l0_3 : List Int) (A1 : Option Addr) (c1 : Nat) (l1 : List (S58)) (r : Int) (w : World) (hr0_2 : Kd.C k82 w A0_2 l0_2.length l0_2) (hc0_2 : l0_2.length ≤ c0_2) (hr0_3 : Kd.C (Kd.int .i64) w A0_3 l0_3.length l0_3) (hc0_3 : l0_3.length ≤ c0_3) (hr1 : Kd.C k58 w A1 l1.length l1) (hc1 : l1.length ≤ c1) (h : glisterref04_LossFault.f k a0_0 a0_1 l0_2 l0_3 l1 = some r) :
  Calls Try.prog 73 #[.agg #[.int .i64 a0_0, .int .i64 a0_1, .slice A0_2 l0_2.length c0_2, .slice A0_3 l0_3.length c0_3], .slice A1 l1.length c1] w fun e w' => e = .returned (.int .i64 r) ∧ Below w.heap.size w w' := by
 have hu25 := Try.underlying25
 have HR0_2 := Sd.mk hr0_2
 have HC0_2 := Sd.mk hc0_2
 clear hr0_2 hc0_2
 have HR0_3 := Sd.mk hr0_3
 have HC0_3 := Sd.mk hc0_3
 clear hr0_3 hc0_3
 have HR1 := Sd.mk hr1
 have HC1 := Sd.mk hc1
 clear hr1 hc1
 have HB := Sd.mk (Below.refl w.heap.size w)
 have H : (if (l1.length : Int) > 6 then (some 3) else (glisterref04_LossFault.l0 k l1 0 a0_0 a0_1 l0_2 l0_3)) = some r := h
 clear h
 by_cases c3 : (l1.length : Int) > 6
 ·rw [if_pos c3] at H
  have c3b0 : decide (6 < (l1.length : Int)) = true := decide_eq_true c3
  have c3b1 : decide (6 < l1.length) = true := decide_eq_true (by omega)
  clear c3
  obtain rfl := Option.some.inj H
  go_enter Try.func73, Try.ntmps73
  go_wp2_with (first | ((with_reducible refine gD (N := 2) rfl ?_); (try (refine gG (by rfl) ?_; dsimp only)); refine xE ?hg (N := 2) ?hd (cs := #[.int .i64 a0_0, .int .i64 a0_1, .slice A0_2 l0_2.length c0_2, .slice A0_3 l0_3.length c0_3]) (t := 25) ?hr ?_; (case hd => rfl); (case hg => rfl); (case hr => first | (go_simp; done) ); intro gb360 hg w4 hbox hb; have BK360 := Sd.mk (hbox); have GW360 := Sd.mk ((by rw [hg]; exact (bZ (by repeat (first | (with_reducible first | exact HB.1 ) ))) : w.heap.size ≤ gb360)); have GE360 := Sd.mk ((by rw [hg]; exact (bZ (by repeat (first | (with_reducible first | exact HB.1 ) ))) : w.heap.size ≤ gb360)); replace HB := Sd.mk (bT (by repeat (first | (with_reducible first | exact HB.1 ) )) hb); clear hb hbox hg))
  repeat (go_quiet (fail))
  go_ret
  exact ⟨by first | rfl , by repeat (first | (with_reducible first | exact HB.1 ) )⟩
 ·rw [if_neg c3] at H
  have c3b0 : decide (6 < (l1.length : Int)) = false := decide_eq_false c3
  have c3b1 : decide (6 < l1.length) = false := decide_eq_false (by omega)
  clear c3
  have H' := Sd.mk H
  clear H
  go_enter Try.func73, Try.ntmps73
  go_wp2_with (first | ((with_reducible refine gD (N := 2) rfl ?_); (try (refine gG (by rfl) ?_; dsimp only)); refine xE ?hg (N := 2) ?hd (cs := #[.int .i64 a0_0, .int .i64 a0_1, .slice A0_2 l0_2.length c0_2, .slice A0_3 l0_3.length c0_3]) (t := 25) ?hr ?_; (case hd => rfl); (case hg => rfl); (case hr => first | (go_simp; done) ); intro gb360 hg w5 hbox hb; have BK360 := Sd.mk (hbox); have GW360 := Sd.mk ((by rw [hg]; exact (bZ (by repeat (first | (with_reducible first | exact HB.1 ) ))) : w.heap.size ≤ gb360)); have GE360 := Sd.mk ((by rw [hg]; exact (bZ (by repeat (first | (with_reducible first | exact HB.1 ) ))) : w.heap.size ≤ gb360)); replace HB := Sd.mk (bT (by repeat (first | (with_reducible first | exact HB.1 ) )) hb); clear hb hbox hg))
  repeat (go_quiet (fail))
  go_loopg [5] k (fun kq v5 w' => ∃ (x5_1 : Int), v5 = .int .i64 x5_1 ∧ Sd (glisterref04_LossFault.l0 kq l1 x5_1 a0_0 a0_1 l0_2 l0_3 = some r) ∧ Sd (kq ≤ k) ∧ Sd (w'.heap[gb360]? = some (.cells #[.int .i64 a0_0, .int .i64 a0_1, (.slice A0_2 l0_2.length c0_2), (.slice A0_3 l0_3.length c0_3)] 25 (0, 0))) ∧ Sd (Below w.heap.size w w'))
  case atStart => exact ⟨(0), (by first | rfl ), H', ⟨Nat.le_refl _⟩, ⟨by (with_reducible repeat (fail)); exact BK360.1⟩, ⟨by repeat (first | (with_reducible first | exact HB.1 ) )⟩⟩
  case round =>
   clear H'
   clear c3b0 c3b1
   obtain ⟨x5_1, rfl, HA, HK1, BK360, HB⟩ := hrel
   cases gk with
   | zero => exact absurd HA.1 (by simp [glisterref04_LossFault.l0])
   | succ k1 =>
    have H := HA.1
    clear HA
    simp only [glisterref04_LossFault.l0] at H
    by_cases c6 : x5_1 < (l1.length : Int)
    ·rw [if_pos c6] at H
     have c6b0 : decide (x5_1 < (l1.length : Int)) = true := decide_eq_true c6
     clear c6
     by_cases c7 : 0 ≤ x5_1
     ·rw [if_pos c7] at H
      have c7b0 : decide (0 ≤ x5_1) = true := decide_eq_true c7
      clear c7
      obtain ⟨t362, A80, H⟩ := Option.bind_eq_some_iff.mp H
      have A8 := Sd.mk A80
      clear A80
      by_cases c9 : t362 = true
      ·subst c9
       rw [if_pos rfl] at H
       obtain ⟨t364, A100, H⟩ := Option.bind_eq_some_iff.mp H
       have A10 := Sd.mk A100
       clear A100
       by_cases c11 : t364 = true
       ·subst c11
        rw [if_pos rfl] at H
        have H' := Sd.mk H
        clear H
        have p361 : 0 ≤ (x5_1 : Int) := of_decide_eq_true (by first | (with_reducible assumption) )
        have q361 : x5_1 < (l1.length : Int) := of_decide_eq_true (by first | (with_reducible assumption) )
        obtain ⟨ad361, e361, hx361_0, hx361_1⟩ := at_T58 HR1.1 x5_1 p361 q361
        cases e361
        replace hx361_0 := (HB.1.cell (World.block_lt_of_cell? w _ hx361_0)).trans hx361_0
        replace hx361_1 := (HB.1.cell (World.block_lt_of_cell? w _ hx361_1)).trans hx361_1
        replace p361 := eq_true p361
        replace q361 := eq_true q361
        have z_12_2 : wr.cell? ⟨gb360, 2, none⟩ = some (.slice A0_2 l0_2.length c0_2) := (kC BK360.1 2).trans rfl
        have z_12_3 : wr.cell? ⟨gb360, 3, none⟩ = some (.slice A0_3 l0_3.length c0_3) := (kC BK360.1 3).trans rfl
        go_wp2_with (fail)
        repeat (go_quiet (first | (go_at_call 23; (with_reducible refine (glisterref04_In.calls ((rd_T58 l1 x5_1).f0) 0 (wrap64 ((l0_2.length : Int) - 1)) true _ A8.1).mono ?_); rintro e w' ⟨rfl, ⟨nd, rfl⟩⟩; (try first | exact ⟨rfl, _, World.drewN_drewN _ _ _⟩ )) | (go_at_call 23; (with_reducible refine (glisterref04_In.calls ((rd_T58 l1 x5_1).f1) 0 (wrap64 ((l0_3.length : Int) - 1)) true _ A10.1).mono ?_); rintro e w' ⟨rfl, ⟨nd, rfl⟩⟩; (try first | exact ⟨rfl, _, World.drewN_drewN _ _ _⟩ ))); try go_wp2_with (fail))
        go_roundg k1
        case measure => have := HK1.1; omega
        case rel => exact ⟨(wrap64 (x5_1 + 1)), (by first | rfl ), H', ⟨by have := HK1.1; omega⟩, ⟨by (with_reducible repeat (refine kN ?_ _ )); exact BK360.1⟩, ⟨by repeat (first | (with_reducible first | exact HB.1 | apply bN ) )⟩⟩
       ·replace c11 := Bool.eq_false_iff.mpr c11
        subst c11
        rw [if_neg (show ¬ (false = true) by decide)] at H
        obtain rfl := Option.some.inj H
        have p361 : 0 ≤ (x5_1 : Int) := of_decide_eq_true (by first | (with_reducible assumption) )
        have q361 : x5_1 < (l1.length : Int) := of_decide_eq_true (by first | (with_reducible assumption) )
        obtain ⟨ad361, e361, hx361_0, hx361_1⟩ := at_T58 HR1.1 x5_1 p361 q361
        cases e361
        replace hx361_0 := (HB.1.cell (World.block_lt_of_cell? w _ hx361_0)).trans hx361_0
        replace hx361_1 := (HB.1.cell (World.block_lt_of_cell? w _ hx361_1)).trans hx361_1
        replace p361 := eq_true p361
        replace q361 := eq_true q361
        have z_13_2 : wr.cell? ⟨gb360, 2, none⟩ = some (.slice A0_2 l0_2.length c0_2) := (kC BK360.1 2).trans rfl
        have z_13_3 : wr.cell? ⟨gb360, 3, none⟩ = some (.slice A0_3 l0_3.length c0_3) := (kC BK360.1 3).trans rfl
        go_wp2_with (fail)
        repeat (go_quiet (first | (go_at_call 23; (with_reducible refine (glisterref04_In.calls ((rd_T58 l1 x5_1).f0) 0 (wrap64 ((l0_2.length : Int) - 1)) true _ A8.1).mono ?_); rintro e w' ⟨rfl, ⟨nd, rfl⟩⟩; (try first | exact ⟨rfl, _, World.drewN_drewN _ _ _⟩ )) | (go_at_call 23; (with_reducible refine (glisterref04_In.calls ((rd_T58 l1 x5_1).f1) 0 (wrap64 ((l0_3.length : Int) - 1)) false _ A10.1).mono ?_); rintro e w' ⟨rfl, ⟨nd, rfl⟩⟩; (try first | exact ⟨rfl, _, World.drewN_drewN _ _ _⟩ ))); try go_wp2_with (fail))
        go_ret
        exact ⟨by first | rfl , by repeat (first | (with_reducible first | exact HB.1 | apply bN ) )⟩
      ·replace c9 := Bool.eq_false_iff.mpr c9
       subst c9
       rw [if_neg (show ¬ (false = true) by decide)] at H
       obtain rfl := Option.some.inj H
       have p361 : 0 ≤ (x5_1 : Int) := of_decide_eq_true (by first | (with_reducible assumption) )
       have q361 : x5_1 < (l1.length : Int) := of_decide_eq_true (by first | (with_reducible assumption) )
       obtain ⟨ad361, e361, hx361_0, hx361_1⟩ := at_T58 HR1.1 x5_1 p361 q361
       cases e361
       replace hx361_0 := (HB.1.cell (World.block_lt_of_cell? w _ hx361_0)).trans hx361_0
       replace hx361_1 := (HB.1.cell (World.block_lt_of_cell? w _ hx361_1)).trans hx361_1
       replace p361 := eq_true p361
       replace q361 := eq_true q361
       have z_14_2 : wr.cell? ⟨gb360, 2, none⟩ = some (.slice A0_2 l0_2.length c0_2) := (kC BK360.1 2).trans rfl
       go_wp2_with (fail)
       repeat (go_quiet (first | (go_at_call 23; (with_reducible refine (glisterref04_In.calls ((rd_T58 l1 x5_1).f0) 0 (wrap64 ((l0_2.length : Int) - 1)) false _ A8.1).mono ?_); rintro e w' ⟨rfl, ⟨nd, rfl⟩⟩; (try first | exact ⟨rfl, _, World.drewN_drewN _ _ _⟩ ))); try go_wp2_with (fail))
       go_ret
       exact ⟨by first | rfl , by repeat (first | (with_reducible first | exact HB.1 | apply bN ) )⟩
     ·rw [if_neg c7] at H
      exact absurd H (by simp)
    ·rw [if_neg c6] at H
     have c6b0 : decide (x5_1 < (l1.length : Int)) = false := decide_eq_false c6
     clear c6
     obtain rfl := Option.some.inj H
     go_wp2
     repeat (go_quiet (fail))
     go_ret
     exact ⟨by first | rfl , by repeat (first | (with_reducible first | exact HB.1 ) )⟩
end Go.Proofs.Ytnidgkmopocdkaa.P
