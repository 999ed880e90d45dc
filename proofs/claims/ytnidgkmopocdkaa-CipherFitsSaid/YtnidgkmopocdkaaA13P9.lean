import Derived.Test.YtnidgkmopocdkaaA13P0
namespace Go.Proofs.Ytnidgkmopocdkaa.P
open Go.RowKit Go.Proofs.YtnidgkmopocdkaaW.PrintWords Go.Proofs.YtnidgkmopocdkaaW.PrintLast Go.Proofs.YtnidgkmopocdkaaW.PrintMore
attribute [local go_sem] max2_int min2_int max_two min_two max_three min_three max_four min_four   -- for this text's walks alone
set_option linter.unusedVariables false
set_option linter.unusedSimpArgs false
def glisterlaw04_Guesses.l0 : Nat → List (S85) → List (S88) → Int → Option ((List (S88)))
 | 0, _, _, _ => none
 | k + 1, x0, x3, x4 => if x4 < (x0.length : Int) then (if 0 ≤ x4 then (if x3.length < 8796093022208 then (glisterlaw04_Guesses.l0 k x0 (x3 ++ [(⟨(rd_T85 x0 x4).f0, (rd_T85 x0 x4).f1⟩ : S88)]) (wrap64 (x4 + 1))) else (none)) else (none)) else (some x3)
def glisterlaw04_Guesses.f (k : Nat) (l0 : List (S85)) : Option ((List (S88))) := glisterlaw04_Guesses.l0 k l0 ([] : List (S88)) 0
def glisterlaw04_Guesses.T5 : Bool × List (List Nat × List Nat) := (true, [([], []), ([], []), ([], []), ([1, 2], [1, 2]), ([3], [3]), ([4], [4]), ([], []), ([], []), ([6, 7], [6, 7]), ([8], [8]), ([9], [9]), ([5, 10], [5, 10]), ([11], [11]), ([0, 12], [0, 12]), ([13, 13, 0, 1, 2, 3, 4, 5, 6, 7, 8, 9, 10, 11, 12, 13], [0, 13])])
def glisterlaw04_Guesses.B5 : List Nat := [0, 0, 0, 6, 14, 30, 0, 0, 192, 448, 960, 2046, 4094, 8191, 16383]
theorem glisterlaw04_Guesses.tab5 : rtab .any (opsOf Try.f41 5) = glisterlaw04_Guesses.T5 := by kernel_rfl
theorem glisterlaw04_Guesses.bits5 : waitsOk glisterlaw04_Guesses.T5.2 glisterlaw04_Guesses.B5 = true := by kernel_rfl
set_option maxHeartbeats 8000000 in
set_option maxRecDepth 100000 in
theorem glisterlaw04_Guesses.calls (k : Nat) (A0 : Option Addr) (c0 : Nat) (l0 : List (S85)) (r : List (S88)) (w : World) (hr0 : Kd.C k85 w A0 l0.length l0) (hc0 : l0.length ≤ c0) (h : glisterlaw04_Guesses.f k l0 = some r) :
  Calls Try.prog 41 #[.slice A0 l0.length c0] w fun e w' => ∃ v0_ : Value, e = .returned (v0_) ∧ Kd.R k88 88 w' w.heap.size (fun _ => True) v0_ r ∧ Below w.heap.size w w' := by
 have hu88 := Try.underlying88
 have HR0 := Sd.mk hr0
 have HC0 := Sd.mk hc0
 clear hr0 hc0
 have HB := Sd.mk (Below.refl w.heap.size w)
 have H : (glisterlaw04_Guesses.l0 k l0 ([] : List (S88)) 0) = some r := h
 clear h
 have H' := Sd.mk H
 clear H
 go_enter Try.func41, Try.ntmps41
 go_wp2
 go_loopg [3, 4] k (fun kq v3 v4 w' => ∃ (x3_1 : List (S88)) (x4_1 : Int), v4 = .int .i64 x4_1 ∧ Sd (glisterlaw04_Guesses.l0 kq l0 x3_1 x4_1 = some r) ∧ Sd (kq ≤ k) ∧ Sd (Kd.R k88 88 w' w.heap.size (fun _ => True) v3 x3_1) ∧ Sd (Below w.heap.size w w'))
 case atStart => exact ⟨(([] : List (S88))), (0), (by first | rfl ), H', ⟨Nat.le_refl _⟩, ⟨by first | exact Kd.R_nil _ _ _ _ _ ⟩, ⟨by repeat (first | (with_reducible first | exact HB.1 ) )⟩⟩
 case round =>
  clear H'
  obtain ⟨x3_1, x4_1, rfl, HA, HK1, HO_3, HB⟩ := hrel
  cases gk with
  | zero => exact absurd HA.1 (by simp [glisterlaw04_Guesses.l0])
  | succ k1 =>
   have H := HA.1
   clear HA
   simp only [glisterlaw04_Guesses.l0] at H
   by_cases c2 : x4_1 < (l0.length : Int)
   ·rw [if_pos c2] at H
    have c2b0 : decide (x4_1 < (l0.length : Int)) = true := decide_eq_true c2
    clear c2
    by_cases c3 : 0 ≤ x4_1
    ·rw [if_pos c3] at H
     have c3b0 : decide (0 ≤ x4_1) = true := decide_eq_true c3
     clear c3
     by_cases c4 : x3_1.length < 8796093022208
     ·rw [if_pos c4] at H
      have LMc4 := Sd.mk c4
      clear c4
      obtain ⟨y730, hy730⟩ : ∃ y_ : List (S88), y_ = (x3_1 ++ [(⟨(rd_T85 l0 x4_1).f0, (rd_T85 l0 x4_1).f1⟩ : S88)]) := ⟨_, rfl⟩
      replace H : (glisterlaw04_Guesses.l0 k1 l0 y730 (wrap64 (x4_1 + 1))) = some r := by first | (rw [hy730]; with_reducible exact H) 
      have Ny730 := Sd.mk hy730
      clear hy730
      have H' := Sd.mk H
      clear H
      try go_wp2
      have n0_ := Sd.mk (Kd.R_drew HO_3.1)
      have n1_ := Sd.mk (bD HB.1)
      clear HO_3
      clear HB
      have HO_3 := n0_
      have HB := n1_
      clear n0_ n1_
      have p728 : 0 ≤ (x4_1 : Int) := of_decide_eq_true (by first | (with_reducible assumption) )
      have q728 : x4_1 < (l0.length : Int) := of_decide_eq_true (by first | (with_reducible assumption) )
      obtain ⟨ad728, e728, hx728_0, hx728_1⟩ := at_T85 HR0.1 x4_1 p728 q728
      have hw728_1 := hx728_1
      have hw728_0 := hx728_0
      cases e728
      replace hx728_0 := (HB.1.cell (World.block_lt_of_cell? w _ hx728_0)).trans hx728_0
      replace hx728_1 := (HB.1.cell (World.block_lt_of_cell? w _ hx728_1)).trans hx728_1
      replace p728 := eq_true p728
      replace q728 := eq_true q728
      have p729 : 0 ≤ (x4_1 : Int) := of_decide_eq_true (by first | (with_reducible assumption) )
      have q729 : x4_1 < (l0.length : Int) := of_decide_eq_true (by first | (with_reducible assumption) )
      obtain ⟨ad729, e729, hx729_0, hx729_1⟩ := at_T85 HR0.1 x4_1 p729 q729
      have hw729_1 := hx729_1
      have hw729_0 := hx729_0
      obtain rfl : ad728 = ad729 := (by injection e729)
      replace hx729_0 := (HB.1.cell (World.block_lt_of_cell? w _ hx729_0)).trans hx729_0
      replace hx729_1 := (HB.1.cell (World.block_lt_of_cell? w _ hx729_1)).trans hx729_1
      replace p729 := eq_true p729
      replace q729 := eq_true q729
      refine start_ (n := 15) (S := fun w' => w'.cell? (ad728.add ((x4_1).toNat * 2)) = some (.int .i64 ((rd_T85 l0 x4_1).f0)) ∧ w'.cell? ⟨(ad728.add ((x4_1).toNat * 2)).block, (ad728.add ((x4_1).toNat * 2)).off + 1, none⟩ = some (.int .i64 ((rd_T85 l0 x4_1).f1)) ∧ w'.cell? (ad728.add ((x4_1).toNat * 2)) = some (.int .i64 ((rd_T85 l0 x4_1).f0)) ∧ w'.cell? ⟨(ad728.add ((x4_1).toNat * 2)).block, (ad728.add ((x4_1).toNat * 2)).off + 1, none⟩ = some (.int .i64 ((rd_T85 l0 x4_1).f1))) (ds := []) #[false, false, false, false, false, false, false, false, false, false, false, false, false, false, false] (by kernel_rfl) rfl rfl ⟨((HB.1.cell (World.block_lt_of_cell? w _ hw728_0)).trans hw728_0), ((HB.1.cell (World.block_lt_of_cell? w _ hw728_1)).trans hw728_1), ((HB.1.cell (World.block_lt_of_cell? w _ hw729_0)).trans hw729_0), ((HB.1.cell (World.block_lt_of_cell? w _ hw729_1)).trans hw729_1)⟩ (fun hHeld => ?_); refine with_tabW glisterlaw04_Guesses.tab5 glisterlaw04_Guesses.bits5 (fun HT_ HW_ => ?_)
      generalize wr.drew = w5 at HO_3 HB hx728_0 hx728_1 hx729_0 hx729_1 hHeld ⊢
      refine pure_ (i := 0) (N := some 11) (v := ?_) (a' := ?_) #[true, false, false, false, false, false, false, false, false, false, false, false, false, false, false] rfl rfl (any_of HT_.1 (by kernel_rfl)) (fun _ _ _ h => h) (Or.inl ⟨by rfl, ?_⟩) ?_ ?_
      rotate_left
      ·intro w'
       go_simp
       with_reducible rfl
      rotate_left
      ·simp only [Act.put, List.setIfInBounds_toArray, List.set_cons_zero, List.set_cons_succ, i64_w, i32_w]
       rfl
      refine pure_ (i := 1) (N := some 12) (v := ?_) (a' := ?_) #[true, true, false, false, false, false, false, false, false, false, false, false, false, false, false] rfl rfl (any_of HT_.1 (by kernel_rfl)) (fun _ _ _ h => h) (Or.inl ⟨by rfl, ?_⟩) ?_ ?_
      rotate_left
      ·intro w'
       go_simp
       with_reducible rfl
      rotate_left
      ·simp only [Act.put, List.setIfInBounds_toArray, List.set_cons_zero, List.set_cons_succ, i64_w, i32_w]
       rfl
      refine pure_ (i := 2) (N := some 13) (v := ?_) (a' := ?_) #[true, true, true, false, false, false, false, false, false, false, false, false, false, false, false] rfl rfl (any_of HT_.1 (by kernel_rfl)) (fun _ _ _ h => h) (Or.inl ⟨by rfl, ?_⟩) ?_ ?_
      rotate_left
      ·intro w'
       go_simp
       with_reducible rfl
      rotate_left
      ·simp only [Act.put, List.setIfInBounds_toArray, List.set_cons_zero, List.set_cons_succ, i64_w, i32_w]
       rfl
      refine pure_ (i := 3) (N := some 14) (v := ?_) (a' := ?_) #[true, true, true, true, false, false, false, false, false, false, false, false, false, false, false] rfl rfl (any_of HT_.1 (by kernel_rfl)) (fun _ _ _ h => h) (Or.inl ⟨by rfl, ?_⟩) ?_ ?_
      rotate_left
      ·intro w'
       go_simp
       with_reducible rfl
      rotate_left
      ·simp only [Act.put, List.setIfInBounds_toArray, List.set_cons_zero, List.set_cons_succ, i64_w, i32_w]
       rfl
      refine pure_ (i := 4) (N := some 15) (v := ?_) (a' := ?_) #[true, true, true, true, true, false, false, false, false, false, false, false, false, false, false] rfl rfl (any_of HT_.1 (by kernel_rfl)) (fun _ _ _ h => h) (Or.inl ⟨by rfl, ?_⟩) ?_ ?_
      rotate_left
      ·intro w'
       go_simp
       with_reducible rfl
      rotate_left
      ·simp only [Act.put, List.setIfInBounds_toArray, List.set_cons_zero, List.set_cons_succ, i64_w, i32_w]
       rfl
      refine pure_ (i := 6) (N := some 17) (v := ?_) (a' := ?_) #[true, true, true, true, true, false, true, false, false, false, false, false, false, false, false] rfl rfl (any_of HT_.1 (by kernel_rfl)) (fun _ _ _ h => h) (Or.inl ⟨by rfl, ?_⟩) ?_ ?_
      rotate_left
      ·intro w'
       go_simp
       with_reducible rfl
      rotate_left
      ·simp only [Act.put, List.setIfInBounds_toArray, List.set_cons_zero, List.set_cons_succ, i64_w, i32_w]
       rfl
      refine pure_ (i := 7) (N := some 18) (v := ?_) (a' := ?_) #[true, true, true, true, true, false, true, true, false, false, false, false, false, false, false] rfl rfl (any_of HT_.1 (by kernel_rfl)) (fun _ _ _ h => h) (Or.inl ⟨by rfl, ?_⟩) ?_ ?_
      rotate_left
      ·intro w'
       go_simp
       with_reducible rfl
      rotate_left
      ·simp only [Act.put, List.setIfInBounds_toArray, List.set_cons_zero, List.set_cons_succ, i64_w, i32_w]
       rfl
      refine pure_ (i := 8) (N := some 19) (v := ?_) (a' := ?_) #[true, true, true, true, true, false, true, true, true, false, false, false, false, false, false] rfl rfl (any_of HT_.1 (by kernel_rfl)) (fun _ _ _ h => h) (Or.inl ⟨by rfl, ?_⟩) ?_ ?_
      rotate_left
      ·intro w'
       go_simp
       with_reducible rfl
      rotate_left
      ·simp only [Act.put, List.setIfInBounds_toArray, List.set_cons_zero, List.set_cons_succ, i64_w, i32_w]
       rfl
      refine pure_ (i := 9) (N := some 20) (v := ?_) (a' := ?_) #[true, true, true, true, true, false, true, true, true, true, false, false, false, false, false] rfl rfl (any_of HT_.1 (by kernel_rfl)) (fun _ _ _ h => h) (Or.inl ⟨by rfl, ?_⟩) ?_ ?_
      rotate_left
      ·intro w'
       go_simp
       with_reducible rfl
      rotate_left
      ·simp only [Act.put, List.setIfInBounds_toArray, List.set_cons_zero, List.set_cons_succ, i64_w, i32_w]
       rfl
      refine take_ (i := 5) (N := some 16) (v := ?_) (a' := ?_) #[true, true, true, true, true, true, true, true, true, true, false, false, false, false, false] rfl rfl (take_ofW HT_.1 HW_.1 (by kernel_rfl)) (fun _ _ _ h => h) (Or.inl ⟨by rfl, ?_⟩) hHeld ?_ ?_
      rotate_left
      ·rintro w' ⟨s0, s1, s2, s3⟩
       go_simp
       with_reducible rfl
      rotate_left
      ·simp only [Act.put, List.setIfInBounds_toArray, List.set_cons_zero, List.set_cons_succ, i64_w, i32_w]
       rfl
      refine take_ (i := 10) (N := some 21) (v := ?_) (a' := ?_) #[true, true, true, true, true, true, true, true, true, true, true, false, false, false, false] rfl rfl (take_ofW HT_.1 HW_.1 (by kernel_rfl)) (fun _ _ _ h => h) (Or.inl ⟨by rfl, ?_⟩) hHeld ?_ ?_
      rotate_left
      ·rintro w' ⟨s0, s1, s2, s3⟩
       go_simp
       with_reducible rfl
      rotate_left
      ·simp only [Act.put, List.setIfInBounds_toArray, List.set_cons_zero, List.set_cons_succ, i64_w, i32_w]
       rfl
      refine pure_ (i := 11) (N := some 22) (v := ?_) (a' := ?_) #[true, true, true, true, true, true, true, true, true, true, true, true, false, false, false] rfl rfl (any_of HT_.1 (by kernel_rfl)) (fun _ _ _ h => h) (Or.inl ⟨by rfl, ?_⟩) ?_ ?_
      rotate_left
      ·intro w'
       go_simp
       with_reducible rfl
      rotate_left
      ·simp only [Act.put, List.setIfInBounds_toArray, List.set_cons_zero, List.set_cons_succ, i64_w, i32_w]
       rfl
      refine one_ (i := 12) (N := some 23) #[true, true, true, true, true, true, true, true, true, true, true, true, true, false, false] rfl rfl (one_of HT_.1 (by kernel_rfl)) (by decide) (fun K hK => ?_)
      refine value_ (w1 := ?_) (v := ?_) (by rfl) rfl ?_ ?_
      rotate_left 2
      ·go_simp
       constructor
       ·rfl
       ·rfl
      refine hK.out _ _ ⟨(World.cell?_alloc_lt _ _ _ (World.block_lt_of_cell? _ _ (((HB.1.cell (World.block_lt_of_cell? w _ hw728_0)).trans hw728_0)))).trans (((HB.1.cell (World.block_lt_of_cell? w _ hw728_0)).trans hw728_0)), (World.cell?_alloc_lt _ _ _ (World.block_lt_of_cell? _ _ (((HB.1.cell (World.block_lt_of_cell? w _ hw728_1)).trans hw728_1)))).trans (((HB.1.cell (World.block_lt_of_cell? w _ hw728_1)).trans hw728_1)), (World.cell?_alloc_lt _ _ _ (World.block_lt_of_cell? _ _ (((HB.1.cell (World.block_lt_of_cell? w _ hw729_0)).trans hw729_0)))).trans (((HB.1.cell (World.block_lt_of_cell? w _ hw729_0)).trans hw729_0)), (World.cell?_alloc_lt _ _ _ (World.block_lt_of_cell? _ _ (((HB.1.cell (World.block_lt_of_cell? w _ hw729_1)).trans hw729_1)))).trans (((HB.1.cell (World.block_lt_of_cell? w _ hw729_1)).trans hw729_1))⟩ (fun hHeld => ?_)
      clear hK K
      refine norm_ (a' := ?_) ?_ ?_
      rotate_left
      ·show Act.put _ (some 23) _ = _
       simp only [Act.put, List.setIfInBounds_toArray, List.set_cons_zero, List.set_cons_succ, i64_w, i32_w]
       rfl
      refine one_ (i := 13) (N := some 24) #[true, true, true, true, true, true, true, true, true, true, true, true, true, true, false] rfl rfl (one_of HT_.1 (by kernel_rfl)) (by decide) (fun K hK => ?_)
      refine Kd.R_append_step k88 (w0 := w) w.heap.size (by rfl) (.tmp 11) (.tmp 23) 71 88 (.agg #[(.int .i64 0), (.int .i64 0)]) 16 rfl Try.underlying71 info88 rfl (by decide) (by omega) u3 x3_1 (⟨(rd_T85 l0 x4_1).f0, (rd_T85 l0 x4_1).f1⟩ : S88) [.int .i64 ((rd_T85 l0 x4_1).f0), .int .i64 ((rd_T85 l0 x4_1).f1)] (fun _ => True) (fun _ => False) rfl rfl ?aP (fun _ hk => hk.elim) ?aF ?aO ?aB ?aS ?aL ?_
      (case aP => exact k88_mkM _ _ _ (⟨(rd_T85 l0 x4_1).f0, (rd_T85 l0 x4_1).f1⟩ : S88))
      (case aB => exact (by repeat (first | (with_reducible first | exact HB.1 ) )))
      (case aF => exact (fun _ _ => trivial))
      (case aO => exact (by (with_reducible repeat (fail)); exact HO_3.1))
      (case aS => exact (bZ (by repeat (first | (with_reducible first | exact HB.1 ) ))))
      (case aL => have := LMc4.1; omega)
      intro v731 w6 ho hb hg hat
      rw [← Ny730.1] at ho
      have n0_ := Sd.mk (hb)
      have n1_ := Sd.mk (ho)
      clear HB
      clear HO_3
      have HB := n0_
      have HO732 := n1_
      clear n0_ n1_
      clear ho hb hg hat
      refine hK.out _ _ ⟨((HB.1.cell (World.block_lt_of_cell? w _ hw728_0)).trans hw728_0), ((HB.1.cell (World.block_lt_of_cell? w _ hw728_1)).trans hw728_1), ((HB.1.cell (World.block_lt_of_cell? w _ hw729_0)).trans hw729_0), ((HB.1.cell (World.block_lt_of_cell? w _ hw729_1)).trans hw729_1)⟩ (fun hHeld => ?_)
      clear hK K
      refine norm_ (a' := ?_) ?_ ?_
      rotate_left
      ·show Act.put _ (some 24) _ = _
       simp only [Act.put, List.setIfInBounds_toArray, List.set_cons_zero, List.set_cons_succ, i64_w, i32_w]
       rfl
      refine pure_ (i := 14) (N := some 3) (v := ?_) (a' := ?_) #[true, true, true, true, true, true, true, true, true, true, true, true, true, true, true] rfl rfl (any_of HT_.1 (by kernel_rfl)) (fun _ _ _ h => h) (Or.inl ⟨by rfl, ?_⟩) ?_ ?_
      rotate_left
      ·intro w'
       go_simp
       with_reducible rfl
      rotate_left
      ·simp only [Act.put, List.setIfInBounds_toArray, List.set_cons_zero, List.set_cons_succ, i64_w, i32_w]
       rfl
      refine done_ (done_of HT_.1 (by kernel_rfl)) ?_
      try go_wp2
      go_roundg k1
      case measure => have := HK1.1; omega
      case rel => exact ⟨(y730), (wrap64 (x4_1 + 1)), (by first | rfl ), H', ⟨by have := HK1.1; omega⟩, ⟨by (with_reducible repeat (fail)); exact HO732.1⟩, ⟨by repeat (first | (with_reducible first | exact HB.1 ) )⟩⟩
     ·rw [if_neg c4] at H
      exact absurd H (by simp)
    ·rw [if_neg c3] at H
     exact absurd H (by simp)
   ·rw [if_neg c2] at H
    have c2b0 : decide (x4_1 < (l0.length : Int)) = false := decide_eq_false c2
    clear c2
    obtain rfl := Option.some.inj H
    go_wp2
    go_ret
    exact ⟨_, by first | rfl , by (with_reducible repeat (fail)); exact HO_3.1, by repeat (first | (with_reducible first | exact HB.1 ) )⟩
end Go.Proofs.Ytnidgkmopocdkaa.P
