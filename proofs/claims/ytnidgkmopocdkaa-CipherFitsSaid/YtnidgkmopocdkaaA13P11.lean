import Derived.Test.YtnidgkmopocdkaaA13P0
import Derived.Test.YtnidgkmopocdkaaA13P5
namespace Go.Proofs.Ytnidgkmopocdkaa.P
open Go.RowKit Go.Proofs.YtnidgkmopocdkaaW.PrintWords Go.Proofs.YtnidgkmopocdkaaW.PrintLast Go.Proofs.YtnidgkmopocdkaaW.PrintMore
attribute [local go_sem] max2_int min2_int max_two min_two max_three min_three max_four min_four   -- for this text's walks alone
set_option linter.unusedVariables false
set_option linter.unusedSimpArgs false
def glisterref04_Agrees.l0 : Nat → List Int → List (S85) → Int → Int → Int → List (S82) → List Int → Int → Int → Int → Option (Bool)
 | 0, _, _, _, _, _, _, _, _, _, _ => none
 | k + 1, x2, x3, x9, x743000, x743001, x743002, x743003, x744000, x744001, x744002 => if x9 < (x3.length : Int) then (if 0 ≤ x9 then ((glisterref04_CodeOf.f x743000 x743001 x743002 x743003 x744000 x744001 x744002 ((rd_T85 x3 x9).f1) ((rd_T85 x3 x9).f0)).bind fun t746 => (if 0 ≤ ((rd_T85 x3 x9).f0) then (if ((rd_T85 x3 x9).f0) < (x2.length : Int) then (if t746 = (rd x2 ((rd_T85 x3 x9).f0)) then (glisterref04_Agrees.l0 k x2 x3 (wrap64 (x9 + 1)) x743000 x743001 x743002 x743003 x744000 x744001 x744002) else (some false)) else (none)) else (none))) else (none)) else (some true)
def glisterref04_Agrees.f (k : Nat) (a0_0 : Int) (a0_1 : Int) (l0_2 : List (S82)) (l0_3 : List Int) (a1_0 : Int) (a1_1 : Int) (a1_2 : Int) (l2 : List Int) (l3 : List (S85)) : Option (Bool) := glisterref04_Agrees.l0 k l2 l3 0 a0_0 a0_1 l0_2 l0_3 a1_0 a1_1 a1_2
def glisterref04_Agrees.T4 : Bool × List (List Nat × List Nat) := (true, [([], []), ([], []), ([], []), ([], []), ([2, 3], [2, 3]), ([4], [4]), ([5], [5]), ([], []), ([], []), ([7, 8], [7, 8]), ([9], [9]), ([10], [10]), ([0, 1, 6, 11], [0, 1, 6, 11]), ([], []), ([], []), ([], []), ([14, 15], [14, 15]), ([16], [16]), ([17], [17]), ([13, 18], [13, 18]), ([19], [19]), ([12, 20], [12, 20])])
def glisterref04_Agrees.B4 : List Nat := [0, 0, 0, 0, 12, 28, 60, 0, 0, 384, 896, 1920, 4095, 0, 0, 0, 49152, 114688, 245760, 516096, 1040384, 2097151]
theorem glisterref04_Agrees.tab4 : rtab .any (opsOf Try.f82 4) = glisterref04_Agrees.T4 := by kernel_rfl
theorem glisterref04_Agrees.bits4 : waitsOk glisterref04_Agrees.T4.2 glisterref04_Agrees.B4 = true := by kernel_rfl
set_option maxHeartbeats 8000000 in
set_option maxRecDepth 100000 in
theorem glisterref04_Agrees.calls (k : Nat) (a0_0 : Int) (a0_1 : Int) (A0_2 : Option Addr) (c0_2 : Nat) (l0_2 : List (S82)) (A0_3 : Option Addr) (c0_3 : Nat) (l0_3 : List Int) (a1_0 : Int) (a1_1 : Int) (a1_2 : Int) (A2 : Option Addr) (c2 : Nat) (l2 : List Int) (A3 : Option Addr) (c3 : Nat) (l3 : List (S85)) (r : Bool) (w : World) (hr0_2 : Kd.C k82 w A0_2 l0_2.length l0_2) (hc0_2 : l0_2.length ≤ c0_2) (hr0_3 : Kd.C (Kd.int .i64) w A0_3 l0_3.length l0_3) (hc0_3 : l0_3.length ≤ c0_3) (hr2 : Kd.C (Kd.int .i64) w A2 l2.length l2) (hc2 : l2.length ≤ c2) (hr3 : Kd.C k85 w A3 l3.length l3) (hc3 : l3.length ≤ c3) (h : glisterref04_Agrees.f k a0_0 a0_1 l0_2 l0_3 a1_0 a1_1 a1_2 l2 l3 = some r) :
  Calls Try.prog 82 #[.agg #[.int .i64 a0_0, .int .i64 a0_1, .slice A0_2 l0_2.length c0_2, .slice A0_3 l0_3.length c0_3], .agg #[.int .i64 a1_0, .int .i64 a1_1, .int .i64 a1_2], .slice A2 l2.length c2, .slice A3 l3.length c3] w fun e w' => e = .returned (.bool r) ∧ Below w.heap.size w w' := by
 have hu25 := Try.underlying25
 have hu82 := Try.underlying82
 have HR0_2 := Sd.mk hr0_2
 have HC0_2 := Sd.mk hc0_2
 clear hr0_2 hc0_2
 have HR0_3 := Sd.mk hr0_3
 have HC0_3 := Sd.mk hc0_3
 clear hr0_3 hc0_3
 have HR2 := Sd.mk hr2
 have HC2 := Sd.mk hc2
 clear hr2 hc2
 have HR3 := Sd.mk hr3
 have HC3 := Sd.mk hc3
 clear hr3 hc3
 have HB := Sd.mk (Below.refl w.heap.size w)
 have H : (glisterref04_Agrees.l0 k l2 l3 0 a0_0 a0_1 l0_2 l0_3 a1_0 a1_1 a1_2) = some r := h
 clear h
 have H' := Sd.mk H
 clear H
 go_enter Try.func82, Try.ntmps82
 go_wp2_with (first | ((with_reducible refine gD (N := 4) rfl ?_); refine xE ?hg (N := 4) ?hd (cs := #[.int .i64 a0_0, .int .i64 a0_1, .slice A0_2 l0_2.length c0_2, .slice A0_3 l0_3.length c0_3]) (t := 25) ?hr ?_; (case hd => rfl); (case hg => rfl); (case hr => first | (go_simp; done) ); intro gb742 hg w5 hbox hb; have BK742 := Sd.mk (hbox); have GW742 := Sd.mk ((by rw [hg]; exact (bZ (by repeat (first | (with_reducible first | exact HB.1 ) ))) : w.heap.size ≤ gb742)); have GE742 := Sd.mk ((by rw [hg]; exact (bZ (by repeat (first | (with_reducible first | exact HB.1 ) ))) : w.heap.size ≤ gb742)); replace HB := Sd.mk (bT (by repeat (first | (with_reducible first | exact HB.1 ) )) hb); clear hb hbox hg) | ((with_reducible refine gD (N := 5) rfl ?_); refine xE ?hg (N := 5) ?hd (cs := #[.int .i64 a1_0, .int .i64 a1_1, .int .i64 a1_2]) (t := 82) ?hr ?_; (case hd => rfl); (case hg => rfl); (case hr => first | (go_simp; done) ); intro gb743 hg w6 hbox hb; have BK743 := Sd.mk (hbox); have GW743 := Sd.mk ((by rw [hg]; exact (bZ (by repeat (first | (with_reducible first | exact HB.1 ) ))) : w.heap.size ≤ gb743)); have GE743 := Sd.mk ((by rw [hg]; exact (bZ (by repeat (first | (with_reducible first | exact HB.1 ) ))) : w.heap.size ≤ gb743)); replace HB := Sd.mk (bT (by repeat (first | (with_reducible first | exact HB.1 ) )) hb); have NB742_743 := Sd.mk ((by rw [hg]; exact Nat.ne_of_lt (blk_lt (g := gb742) (o := .cells #[.int .i64 a0_0, .int .i64 a0_1, .slice A0_2 l0_2.length c0_2, .slice A0_3 l0_3.length c0_3] 25 (0, 0)) (by (with_reducible repeat (fail)); exact BK742.1)) : gb742 ≠ gb743)); have NB743_742 := Sd.mk ((by rw [hg]; exact Nat.ne_of_gt (blk_lt (g := gb742) (o := .cells #[.int .i64 a0_0, .int .i64 a0_1, .slice A0_2 l0_2.length c0_2, .slice A0_3 l0_3.length c0_3] 25 (0, 0)) (by (with_reducible repeat (fail)); exact BK742.1)) : gb743 ≠ gb742)); replace BK742 := Sd.mk (kB (g := gb742) (o := .cells #[.int .i64 a0_0, .int .i64 a0_1, .slice A0_2 l0_2.length c0_2, .slice A0_3 l0_3.length c0_3] 25 (0, 0)) (by (with_reducible repeat (fail)); exact BK742.1) hb); clear hb hbox hg))
 go_loopg [9] k (fun kq v9 w' => ∃ (x9_1 : Int), v9 = .int .i64 x9_1 ∧ Sd (glisterref04_Agrees.l0 kq l2 l3 x9_1 a0_0 a0_1 l0_2 l0_3 a1_0 a1_1 a1_2 = some r) ∧ Sd (kq ≤ k) ∧ Sd (w'.heap[gb742]? = some (.cells #[.int .i64 a0_0, .int .i64 a0_1, (.slice A0_2 l0_2.length c0_2), (.slice A0_3 l0_3.length c0_3)] 25 (0, 0))) ∧ Sd (w'.heap[gb743]? = some (.cells #[.int .i64 a1_0, .int .i64 a1_1, .int .i64 a1_2] 82 (0, 0))) ∧ Sd (Below w.heap.size w w'))
 case atStart => exact ⟨(0), (by first | rfl ), H', ⟨Nat.le_refl _⟩, ⟨by (with_reducible repeat (fail)); exact BK742.1⟩, ⟨by (with_reducible repeat (fail)); exact BK743.1⟩, ⟨by repeat (first | (with_reducible first | exact HB.1 ) )⟩⟩
 case round =>
  clear H'
  obtain ⟨x9_1, rfl, HA, HK1, BK742, BK743, HB⟩ := hrel
  cases gk with
  | zero => exact absurd HA.1 (by simp [glisterref04_Agrees.l0])
  | succ k1 =>
   have H := HA.1
   clear HA
   simp only [glisterref04_Agrees.l0] at H
   by_cases c7 : x9_1 < (l3.length : Int)
   ·rw [if_pos c7] at H
    have c7b0 : decide (x9_1 < (l3.length : Int)) = true := decide_eq_true c7
    clear c7
    by_cases c8 : 0 ≤ x9_1
    ·rw [if_pos c8] at H
     have c8b0 : decide (0 ≤ x9_1) = true := decide_eq_true c8
     clear c8
     obtain ⟨t746, A90, H⟩ := Option.bind_eq_some_iff.mp H
     have A9 := Sd.mk A90
     clear A90
     by_cases c10 : 0 ≤ ((rd_T85 l3 x9_1).f0)
     ·rw [if_pos c10] at H
      have c10b0 : decide (0 ≤ ((rd_T85 l3 x9_1).f0)) = true := decide_eq_true c10
      clear c10
      by_cases c11 : ((rd_T85 l3 x9_1).f0) < (l2.length : Int)
      ·rw [if_pos c11] at H
       have c11b0 : decide (((rd_T85 l3 x9_1).f0) < (l2.length : Int)) = true := decide_eq_true c11
       clear c11
       by_cases c12 : t746 = (rd l2 ((rd_T85 l3 x9_1).f0))
       ·rw [if_pos c12] at H
        have c12b0 : (t746 == (rd l2 ((rd_T85 l3 x9_1).f0))) = true := beq_iff_eq.mpr c12
        have c12b1 : (t746 != (rd l2 ((rd_T85 l3 x9_1).f0))) = false := bne_eq_false_iff_eq.mpr c12
        clear c12
        have H' := Sd.mk H
        clear H
        try go_wp2
        have n0_ := Sd.mk (kD BK742.1)
        have n1_ := Sd.mk (kD BK743.1)
        have n2_ := Sd.mk (bD HB.1)
        clear BK742
        clear BK743
        clear HB
        have BK742 := n0_
        have BK743 := n1_
        have HB := n2_
        clear n0_ n1_ n2_
        have p744 : 0 ≤ (x9_1 : Int) := of_decide_eq_true (by first | (with_reducible assumption) )
        have q744 : x9_1 < (l3.length : Int) := of_decide_eq_true (by first | (with_reducible assumption) )
        obtain ⟨ad744, e744, hx744_0, hx744_1⟩ := at_T85 HR3.1 x9_1 p744 q744
        have hw744_1 := hx744_1
        have hw744_0 := hx744_0
        cases e744
        replace hx744_0 := (HB.1.cell (World.block_lt_of_cell? w _ hx744_0)).trans hx744_0
        replace hx744_1 := (HB.1.cell (World.block_lt_of_cell? w _ hx744_1)).trans hx744_1
        replace p744 := eq_true p744
        replace q744 := eq_true q744
        have p745 : 0 ≤ (x9_1 : Int) := of_decide_eq_true (by first | (with_reducible assumption) )
        have q745 : x9_1 < (l3.length : Int) := of_decide_eq_true (by first | (with_reducible assumption) )
        obtain ⟨ad745, e745, hx745_0, hx745_1⟩ := at_T85 HR3.1 x9_1 p745 q745
        have hw745_1 := hx745_1
        have hw745_0 := hx745_0
        obtain rfl : ad744 = ad745 := (by injection e745)
        replace hx745_0 := (HB.1.cell (World.block_lt_of_cell? w _ hx745_0)).trans hx745_0
        replace hx745_1 := (HB.1.cell (World.block_lt_of_cell? w _ hx745_1)).trans hx745_1
        replace p745 := eq_true p745
        replace q745 := eq_true q745
        have p747 : 0 ≤ (x9_1 : Int) := of_decide_eq_true (by first | (with_reducible assumption) )
        have q747 : x9_1 < (l3.length : Int) := of_decide_eq_true (by first | (with_reducible assumption) )
        obtain ⟨ad747, e747, hx747_0, hx747_1⟩ := at_T85 HR3.1 x9_1 p747 q747
        have hw747_1 := hx747_1
        have hw747_0 := hx747_0
        obtain rfl : ad744 = ad747 := (by injection e747)
        replace hx747_0 := (HB.1.cell (World.block_lt_of_cell? w _ hx747_0)).trans hx747_0
        replace hx747_1 := (HB.1.cell (World.block_lt_of_cell? w _ hx747_1)).trans hx747_1
        replace p747 := eq_true p747
        replace q747 := eq_true q747
        have p748 : 0 ≤ (((rd_T85 l3 x9_1).f0) : Int) := of_decide_eq_true (by first | (with_reducible assumption) )
        have q748 : ((rd_T85 l3 x9_1).f0) < (l2.length : Int) := of_decide_eq_true (by first | (with_reducible assumption) )
        obtain ⟨ad748, e748, hx748_0⟩ := Kd.at_int HR2.1 ((rd_T85 l3 x9_1).f0) p748 q748
        have hw748_0 := hx748_0
        cases e748
        replace hx748_0 := (HB.1.cell (World.block_lt_of_cell? w _ hx748_0)).trans hx748_0
        replace p748 := eq_true p748
        replace q748 := eq_true q748
        refine start_ (n := 22) (S := fun w' => w'.cell? ⟨gb742, 0, none⟩ = some (.int .i64 a0_0) ∧ w'.cell? ⟨gb742, 1, none⟩ = some (.int .i64 a0_1) ∧ w'.cell? ⟨gb742, 2, none⟩ = some (.slice A0_2 l0_2.length c0_2) ∧ w'.cell? ⟨gb742, 3, none⟩ = some (.slice A0_3 l0_3.length c0_3) ∧ w'.cell? ⟨gb743, 0, none⟩ = some (.int .i64 a1_0) ∧ w'.cell? ⟨gb743, 1, none⟩ = some (.int .i64 a1_1) ∧ w'.cell? ⟨gb743, 2, none⟩ = some (.int .i64 a1_2) ∧ w'.cell? (ad744.add ((x9_1).toNat * 2)) = some (.int .i64 ((rd_T85 l3 x9_1).f0)) ∧ w'.cell? ⟨(ad744.add ((x9_1).toNat * 2)).block, (ad744.add ((x9_1).toNat * 2)).off + 1, none⟩ = some (.int .i64 ((rd_T85 l3 x9_1).f1)) ∧ w'.cell? (ad744.add ((x9_1).toNat * 2)) = some (.int .i64 ((rd_T85 l3 x9_1).f0)) ∧ w'.cell? ⟨(ad744.add ((x9_1).toNat * 2)).block, (ad744.add ((x9_1).toNat * 2)).off + 1, none⟩ = some (.int .i64 ((rd_T85 l3 x9_1).f1)) ∧ w'.cell? (ad744.add ((x9_1).toNat * 2)) = some (.int .i64 ((rd_T85 l3 x9_1).f0)) ∧ w'.cell? ⟨(ad744.add ((x9_1).toNat * 2)).block, (ad744.add ((x9_1).toNat * 2)).off + 1, none⟩ = some (.int .i64 ((rd_T85 l3 x9_1).f1)) ∧ w'.cell? (ad748.add (((rd_T85 l3 x9_1).f0)).toNat) = some (.int .i64 (rd l2 ((rd_T85 l3 x9_1).f0)))) (ds := []) #[false, false, false, false, false, false, false, false, false, false, false, false, false, false, false, false, false, false, false, false, false, false] (by kernel_rfl) rfl rfl ⟨(kC BK742.1 0).trans rfl, (kC BK742.1 1).trans rfl, (kC BK742.1 2).trans rfl, (kC BK742.1 3).trans rfl, (kC BK743.1 0).trans rfl, (kC BK743.1 1).trans rfl, (kC BK743.1 2).trans rfl, ((HB.1.cell (World.block_lt_of_cell? w _ hw744_0)).trans hw744_0), ((HB.1.cell (World.block_lt_of_cell? w _ hw744_1)).trans hw744_1), ((HB.1.cell (World.block_lt_of_cell? w _ hw745_0)).trans hw745_0), ((HB.1.cell (World.block_lt_of_cell? w _ hw745_1)).trans hw745_1), ((HB.1.cell (World.block_lt_of_cell? w _ hw747_0)).trans hw747_0), ((HB.1.cell (World.block_lt_of_cell? w _ hw747_1)).trans hw747_1), ((HB.1.cell (World.block_lt_of_cell? w _ hw748_0)).trans hw748_0)⟩ (fun hHeld => ?_); refine with_tabW glisterref04_Agrees.tab4 glisterref04_Agrees.bits4 (fun HT_ HW_ => ?_)
        generalize wr.drew = w13 at BK742 BK743 HB hx744_0 hx744_1 hx745_0 hx745_1 hx747_0 hx747_1 hx748_0 hHeld ⊢
        refine pure_ (i := 2) (N := some 18) (v := ?_) (a' := ?_) #[false, false, true, false, false, false, false, false, false, false, false, false, false, false, false, false, false, false, false, false, false, false] rfl rfl (any_of HT_.1 (by kernel_rfl)) (fun _ _ _ h => h) (Or.inl ⟨by rfl, ?_⟩) ?_ ?_
        rotate_left
        ·intro w'
         go_simp
         with_reducible rfl
        rotate_left
        ·simp only [Act.put, List.setIfInBounds_toArray, List.set_cons_zero, List.set_cons_succ, i64_w, i32_w]
         rfl
        refine pure_ (i := 3) (N := some 19) (v := ?_) (a' := ?_) #[false, false, true, true, false, false, false, false, false, false, false, false, false, false, false, false, false, false, false, false, false, false] rfl rfl (any_of HT_.1 (by kernel_rfl)) (fun _ _ _ h => h) (Or.inl ⟨by rfl, ?_⟩) ?_ ?_
        rotate_left
        ·intro w'
         go_simp
         with_reducible rfl
        rotate_left
        ·simp only [Act.put, List.setIfInBounds_toArray, List.set_cons_zero, List.set_cons_succ, i64_w, i32_w]
         rfl
        refine pure_ (i := 4) (N := some 20) (v := ?_) (a' := ?_) #[false, false, true, true, true, false, false, false, false, false, false, false, false, false, false, false, false, false, false, false, false, false] rfl rfl (any_of HT_.1 (by kernel_rfl)) (fun _ _ _ h => h) (Or.inl ⟨by rfl, ?_⟩) ?_ ?_
        rotate_left
        ·intro w'
         go_simp
         with_reducible rfl
        rotate_left
        ·simp only [Act.put, List.setIfInBounds_toArray, List.set_cons_zero, List.set_cons_succ, i64_w, i32_w]
         rfl
        refine pure_ (i := 5) (N := some 21) (v := ?_) (a' := ?_) #[false, false, true, true, true, true, false, false, false, false, false, false, false, false, false, false, false, false, false, false, false, false] rfl rfl (any_of HT_.1 (by kernel_rfl)) (fun _ _ _ h => h) (Or.inl ⟨by rfl, ?_⟩) ?_ ?_
        rotate_left
        ·intro w'
         go_simp
         with_reducible rfl
        rotate_left
        ·simp only [Act.put, List.setIfInBounds_toArray, List.set_cons_zero, List.set_cons_succ, i64_w, i32_w]
         rfl
        refine pure_ (i := 7) (N := some 23) (v := ?_) (a' := ?_) #[false, false, true, true, true, true, false, true, false, false, false, false, false, false, false, false, false, false, false, false, false, false] rfl rfl (any_of HT_.1 (by kernel_rfl)) (fun _ _ _ h => h) (Or.inl ⟨by rfl, ?_⟩) ?_ ?_
        rotate_left
        ·intro w'
         go_simp
         with_reducible rfl
        rotate_left
        ·simp only [Act.put, List.setIfInBounds_toArray, List.set_cons_zero, List.set_cons_succ, i64_w, i32_w]
         rfl
        refine pure_ (i := 8) (N := some 24) (v := ?_) (a' := ?_) #[false, false, true, true, true, true, false, true, true, false, false, false, false, false, false, false, false, false, false, false, false, false] rfl rfl (any_of HT_.1 (by kernel_rfl)) (fun _ _ _ h => h) (Or.inl ⟨by rfl, ?_⟩) ?_ ?_
        rotate_left
        ·intro w'
         go_simp
         with_reducible rfl
        rotate_left
        ·simp only [Act.put, List.setIfInBounds_toArray, List.set_cons_zero, List.set_cons_succ, i64_w, i32_w]
         rfl
        refine pure_ (i := 9) (N := some 25) (v := ?_) (a' := ?_) #[false, false, true, true, true, true, false, true, true, true, false, false, false, false, false, false, false, false, false, false, false, false] rfl rfl (any_of HT_.1 (by kernel_rfl)) (fun _ _ _ h => h) (Or.inl ⟨by rfl, ?_⟩) ?_ ?_
        rotate_left
        ·intro w'
         go_simp
         with_reducible rfl
        rotate_left
        ·simp only [Act.put, List.setIfInBounds_toArray, List.set_cons_zero, List.set_cons_succ, i64_w, i32_w]
         rfl
        refine pure_ (i := 10) (N := some 26) (v := ?_) (a' := ?_) #[false, false, true, true, true, true, false, true, true, true, true, false, false, false, false, false, false, false, false, false, false, false] rfl rfl (any_of HT_.1 (by kernel_rfl)) (fun _ _ _ h => h) (Or.inl ⟨by rfl, ?_⟩) ?_ ?_
        rotate_left
        ·intro w'
         go_simp
         with_reducible rfl
        rotate_left
        ·simp only [Act.put, List.setIfInBounds_toArray, List.set_cons_zero, List.set_cons_succ, i64_w, i32_w]
         rfl
        refine pure_ (i := 13) (N := some 29) (v := ?_) (a' := ?_) #[false, false, true, true, true, true, false, true, true, true, true, false, false, true, false, false, false, false, false, false, false, false] rfl rfl (any_of HT_.1 (by kernel_rfl)) (fun _ _ _ h => h) (Or.inl ⟨by rfl, ?_⟩) ?_ ?_
        rotate_left
        ·intro w'
         go_simp
         with_reducible rfl
        rotate_left
        ·simp only [Act.put, List.setIfInBounds_toArray, List.set_cons_zero, List.set_cons_succ, i64_w, i32_w]
         rfl
        refine pure_ (i := 14) (N := some 30) (v := ?_) (a' := ?_) #[false, false, true, true, true, true, false, true, true, true, true, false, false, true, true, false, false, false, false, false, false, false] rfl rfl (any_of HT_.1 (by kernel_rfl)) (fun _ _ _ h => h) (Or.inl ⟨by rfl, ?_⟩) ?_ ?_
        rotate_left
        ·intro w'
         go_simp
         with_reducible rfl
        rotate_left
        ·simp only [Act.put, List.setIfInBounds_toArray, List.set_cons_zero, List.set_cons_succ, i64_w, i32_w]
         rfl
        refine pure_ (i := 15) (N := some 31) (v := ?_) (a' := ?_) #[false, false, true, true, true, true, false, true, true, true, true, false, false, true, true, true, false, false, false, false, false, false] rfl rfl (any_of HT_.1 (by kernel_rfl)) (fun _ _ _ h => h) (Or.inl ⟨by rfl, ?_⟩) ?_ ?_
        rotate_left
        ·intro w'
         go_simp
         with_reducible rfl
        rotate_left
        ·simp only [Act.put, List.setIfInBounds_toArray, List.set_cons_zero, List.set_cons_succ, i64_w, i32_w]
         rfl
        refine pure_ (i := 16) (N := some 32) (v := ?_) (a' := ?_) #[false, false, true, true, true, true, false, true, true, true, true, false, false, true, true, true, true, false, false, false, false, false] rfl rfl (any_of HT_.1 (by kernel_rfl)) (fun _ _ _ h => h) (Or.inl ⟨by rfl, ?_⟩) ?_ ?_
        rotate_left
        ·intro w'
         go_simp
         with_reducible rfl
        rotate_left
        ·simp only [Act.put, List.setIfInBounds_toArray, List.set_cons_zero, List.set_cons_succ, i64_w, i32_w]
         rfl
        refine pure_ (i := 17) (N := some 33) (v := ?_) (a' := ?_) #[false, false, true, true, true, true, false, true, true, true, true, false, false, true, true, true, true, true, false, false, false, false] rfl rfl (any_of HT_.1 (by kernel_rfl)) (fun _ _ _ h => h) (Or.inl ⟨by rfl, ?_⟩) ?_ ?_
        rotate_left
        ·intro w'
         go_simp
         with_reducible rfl
        rotate_left
        ·simp only [Act.put, List.setIfInBounds_toArray, List.set_cons_zero, List.set_cons_succ, i64_w, i32_w]
         rfl
        refine take_ (i := 0) (N := some 16) (v := ?_) (a' := ?_) #[true, false, true, true, true, true, false, true, true, true, true, false, false, true, true, true, true, true, false, false, false, false] rfl rfl (take_ofW HT_.1 HW_.1 (by kernel_rfl)) (fun _ _ _ h => h) (Or.inl ⟨by rfl, ?_⟩) hHeld ?_ ?_
        rotate_left
        ·rintro w' ⟨s0, s1, s2, s3, s4, s5, s6, s7, s8, s9, s10, s11, s12, s13⟩
         go_simp
         with_reducible rfl
        rotate_left
        ·simp only [Act.put, List.setIfInBounds_toArray, List.set_cons_zero, List.set_cons_succ, i64_w, i32_w]
         rfl
        refine take_ (i := 1) (N := some 17) (v := ?_) (a' := ?_) #[true, true, true, true, true, true, false, true, true, true, true, false, false, true, true, true, true, true, false, false, false, false] rfl rfl (take_ofW HT_.1 HW_.1 (by kernel_rfl)) (fun _ _ _ h => h) (Or.inl ⟨by rfl, ?_⟩) hHeld ?_ ?_
        rotate_left
        ·rintro w' ⟨s0, s1, s2, s3, s4, s5, s6, s7, s8, s9, s10, s11, s12, s13⟩
         go_simp
         with_reducible rfl
        rotate_left
        ·simp only [Act.put, List.setIfInBounds_toArray, List.set_cons_zero, List.set_cons_succ, i64_w, i32_w]
         rfl
        refine take_ (i := 6) (N := some 22) (v := ?_) (a' := ?_) #[true, true, true, true, true, true, true, true, true, true, true, false, false, true, true, true, true, true, false, false, false, false] rfl rfl (take_ofW HT_.1 HW_.1 (by kernel_rfl)) (fun _ _ _ h => h) (Or.inl ⟨by rfl, ?_⟩) hHeld ?_ ?_
        rotate_left
        ·rintro w' ⟨s0, s1, s2, s3, s4, s5, s6, s7, s8, s9, s10, s11, s12, s13⟩
         go_simp
         with_reducible rfl
        rotate_left
        ·simp only [Act.put, List.setIfInBounds_toArray, List.set_cons_zero, List.set_cons_succ, i64_w, i32_w]
         rfl
        refine take_ (i := 11) (N := some 27) (v := ?_) (a' := ?_) #[true, true, true, true, true, true, true, true, true, true, true, true, false, true, true, true, true, true, false, false, false, false] rfl rfl (take_ofW HT_.1 HW_.1 (by kernel_rfl)) (fun _ _ _ h => h) (Or.inl ⟨by rfl, ?_⟩) hHeld ?_ ?_
        rotate_left
        ·rintro w' ⟨s0, s1, s2, s3, s4, s5, s6, s7, s8, s9, s10, s11, s12, s13⟩
         go_simp
         with_reducible rfl
        rotate_left
        ·simp only [Act.put, List.setIfInBounds_toArray, List.set_cons_zero, List.set_cons_succ, i64_w, i32_w]
         rfl
        refine take_ (i := 18) (N := some 34) (v := ?_) (a' := ?_) #[true, true, true, true, true, true, true, true, true, true, true, true, false, true, true, true, true, true, true, false, false, false] rfl rfl (take_ofW HT_.1 HW_.1 (by kernel_rfl)) (fun _ _ _ h => h) (Or.inl ⟨by rfl, ?_⟩) hHeld ?_ ?_
        rotate_left
        ·rintro w' ⟨s0, s1, s2, s3, s4, s5, s6, s7, s8, s9, s10, s11, s12, s13⟩
         go_simp
         with_reducible rfl
        rotate_left
        ·simp only [Act.put, List.setIfInBounds_toArray, List.set_cons_zero, List.set_cons_succ, i64_w, i32_w]
         rfl
        refine pure_ (i := 19) (N := some 35) (v := ?_) (a' := ?_) #[true, true, true, true, true, true, true, true, true, true, true, true, false, true, true, true, true, true, true, true, false, false] rfl rfl (any_of HT_.1 (by kernel_rfl)) (fun _ _ _ h => h) (Or.inl ⟨by rfl, ?_⟩) ?_ ?_
        rotate_left
        ·intro w'
         go_simp
         with_reducible rfl
        rotate_left
        ·simp only [Act.put, List.setIfInBounds_toArray, List.set_cons_zero, List.set_cons_succ, i64_w, i32_w]
         rfl
        refine take_ (i := 20) (N := some 36) (v := ?_) (a' := ?_) #[true, true, true, true, true, true, true, true, true, true, true, true, false, true, true, true, true, true, true, true, true, false] rfl rfl (take_ofW HT_.1 HW_.1 (by kernel_rfl)) (fun _ _ _ h => h) (Or.inl ⟨by rfl, ?_⟩) hHeld ?_ ?_
        rotate_left
        ·rintro w' ⟨s0, s1, s2, s3, s4, s5, s6, s7, s8, s9, s10, s11, s12, s13⟩
         go_simp
         with_reducible rfl
        rotate_left
        ·simp only [Act.put, List.setIfInBounds_toArray, List.set_cons_zero, List.set_cons_succ, i64_w, i32_w]
         rfl
        refine one_ (i := 12) (N := some 28) #[true, true, true, true, true, true, true, true, true, true, true, true, true, true, true, true, true, true, true, true, true, false] rfl rfl (one_of HT_.1 (by kernel_rfl)) (by decide) (fun K hK => ?_)
        refine goes_ Try.func64 (by kernel_rfl) rfl #[.agg #[.int .i64 a0_0, .int .i64 a0_1, .slice A0_2 l0_2.length c0_2, .slice A0_3 l0_3.length c0_3], .agg #[.int .i64 a1_0, .int .i64 a1_1, .int .i64 a1_2], .int .i64 ((rd_T85 l3 x9_1).f1), .int .i64 ((rd_T85 l3 x9_1).f0)] (by rfl) rfl rfl (by (try simp only [List.map_toArray, List.map_cons, List.map_nil]); first | rfl ) ?_
        with_reducible refine (glisterref04_CodeOf.calls a0_0 a0_1 _ _ l0_2 _ _ l0_3 a1_0 a1_1 a1_2 ((rd_T85 l3 x9_1).f1) ((rd_T85 l3 x9_1).f0) t746 _ ?side1 ?side2 ?side3 ?side4 A9.1).mono ?_
        (case side1 => repeat (first | exact (Kd.C_below HR0_2.1 HB.1) ))
        (case side2 => exact HC0_2.1)
        (case side3 => repeat (first | exact (Kd.C_below HR0_3.1 HB.1) ))
        (case side4 => exact HC0_3.1)
        rintro e w14 ⟨rfl, hb⟩
        refine ⟨_, rfl, ?_⟩
        have n0_ := Sd.mk (kB (g := gb742) (o := .cells #[.int .i64 a0_0, .int .i64 a0_1, .slice A0_2 l0_2.length c0_2, .slice A0_3 l0_3.length c0_3] 25 (0, 0)) (by (with_reducible repeat (fail)); exact BK742.1) hb)
        have n1_ := Sd.mk (kB (g := gb743) (o := .cells #[.int .i64 a1_0, .int .i64 a1_1, .int .i64 a1_2] 82 (0, 0)) (by (with_reducible repeat (fail)); exact BK743.1) hb)
        have n2_ := Sd.mk (bT (by repeat (first | (with_reducible first | exact HB.1 ) )) hb)
        clear BK742
        clear BK743
        clear HB
        have BK742 := n0_
        have BK743 := n1_
        have HB := n2_
        clear n0_ n1_ n2_
        (try clear hb)
        refine hK.out _ _ ⟨(kC BK742.1 0).trans rfl, (kC BK742.1 1).trans rfl, (kC BK742.1 2).trans rfl, (kC BK742.1 3).trans rfl, (kC BK743.1 0).trans rfl, (kC BK743.1 1).trans rfl, (kC BK743.1 2).trans rfl, ((HB.1.cell (World.block_lt_of_cell? w _ hw744_0)).trans hw744_0), ((HB.1.cell (World.block_lt_of_cell? w _ hw744_1)).trans hw744_1), ((HB.1.cell (World.block_lt_of_cell? w _ hw745_0)).trans hw745_0), ((HB.1.cell (World.block_lt_of_cell? w _ hw745_1)).trans hw745_1), ((HB.1.cell (World.block_lt_of_cell? w _ hw747_0)).trans hw747_0), ((HB.1.cell (World.block_lt_of_cell? w _ hw747_1)).trans hw747_1), ((HB.1.cell (World.block_lt_of_cell? w _ hw748_0)).trans hw748_0)⟩ (fun hHeld => ?_)
        clear hK K
        refine norm_ (a' := ?_) ?_ ?_
        rotate_left
        ·show Act.put _ (some 28) _ = _
         simp only [Act.put, List.setIfInBounds_toArray, List.set_cons_zero, List.set_cons_succ, i64_w, i32_w]
         rfl
        refine pure_ (i := 21) (N := some 37) (v := ?_) (a' := ?_) #[true, true, true, true, true, true, true, true, true, true, true, true, true, true, true, true, true, true, true, true, true, true] rfl rfl (any_of HT_.1 (by kernel_rfl)) (fun _ _ _ h => h) (Or.inl ⟨by rfl, ?_⟩) ?_ ?_
        rotate_left
        ·intro w'
         go_simp
         with_reducible rfl
        rotate_left
        ·simp only [Act.put, List.setIfInBounds_toArray, List.set_cons_zero, List.set_cons_succ, i64_w, i32_w]
         rfl
        refine done_ (done_of HT_.1 (by kernel_rfl)) ?_
        try go_wp2
        go_roundg k1
        case measure => have := HK1.1; omega
        case rel => exact ⟨(wrap64 (x9_1 + 1)), (by first | rfl ), H', ⟨by have := HK1.1; omega⟩, ⟨by (with_reducible repeat (fail)); exact BK742.1⟩, ⟨by (with_reducible repeat (fail)); exact BK743.1⟩, ⟨by repeat (first | (with_reducible first | exact HB.1 ) )⟩⟩
       ·rw [if_neg c12] at H
        have c12b0 : (t746 == (rd l2 ((rd_T85 l3 x9_1).f0))) = false := beq_eq_false_iff_ne.mpr c12
        have c12b1 : (t746 != (rd l2 ((rd_T85 l3 x9_1).f0))) = true := bne_iff_ne.mpr c12
        obtain rfl := Option.some.inj H
        try go_wp2
        have n0_ := Sd.mk (kD BK742.1)
        have n1_ := Sd.mk (kD BK743.1)
        have n2_ := Sd.mk (bD HB.1)
        clear BK742
        clear BK743
        clear HB
        have BK742 := n0_
        have BK743 := n1_
        have HB := n2_
        clear n0_ n1_ n2_
        have p744 : 0 ≤ (x9_1 : Int) := of_decide_eq_true (by first | (with_reducible assumption) )
        have q744 : x9_1 < (l3.length : Int) := of_decide_eq_true (by first | (with_reducible assumption) )
        obtain ⟨ad744, e744, hx744_0, hx744_1⟩ := at_T85 HR3.1 x9_1 p744 q744
        have hw744_1 := hx744_1
        have hw744_0 := hx744_0
        cases e744
        replace hx744_0 := (HB.1.cell (World.block_lt_of_cell? w _ hx744_0)).trans hx744_0
        replace hx744_1 := (HB.1.cell (World.block_lt_of_cell? w _ hx744_1)).trans hx744_1
        replace p744 := eq_true p744
        replace q744 := eq_true q744
        have p745 : 0 ≤ (x9_1 : Int) := of_decide_eq_true (by first | (with_reducible assumption) )
        have q745 : x9_1 < (l3.length : Int) := of_decide_eq_true (by first | (with_reducible assumption) )
        obtain ⟨ad745, e745, hx745_0, hx745_1⟩ := at_T85 HR3.1 x9_1 p745 q745
        have hw745_1 := hx745_1
        have hw745_0 := hx745_0
        obtain rfl : ad744 = ad745 := (by injection e745)
        replace hx745_0 := (HB.1.cell (World.block_lt_of_cell? w _ hx745_0)).trans hx745_0
        replace hx745_1 := (HB.1.cell (World.block_lt_of_cell? w _ hx745_1)).trans hx745_1
        replace p745 := eq_true p745
        replace q745 := eq_true q745
        have p747 : 0 ≤ (x9_1 : Int) := of_decide_eq_true (by first | (with_reducible assumption) )
        have q747 : x9_1 < (l3.length : Int) := of_decide_eq_true (by first | (with_reducible assumption) )
        obtain ⟨ad747, e747, hx747_0, hx747_1⟩ := at_T85 HR3.1 x9_1 p747 q747
        have hw747_1 := hx747_1
        have hw747_0 := hx747_0
        obtain rfl : ad744 = ad747 := (by injection e747)
        replace hx747_0 := (HB.1.cell (World.block_lt_of_cell? w _ hx747_0)).trans hx747_0
        replace hx747_1 := (HB.1.cell (World.block_lt_of_cell? w _ hx747_1)).trans hx747_1
        replace p747 := eq_true p747
        replace q747 := eq_true q747
        have p748 : 0 ≤ (((rd_T85 l3 x9_1).f0) : Int) := of_decide_eq_true (by first | (with_reducible assumption) )
        have q748 : ((rd_T85 l3 x9_1).f0) < (l2.length : Int) := of_decide_eq_true (by first | (with_reducible assumption) )
        obtain ⟨ad748, e748, hx748_0⟩ := Kd.at_int HR2.1 ((rd_T85 l3 x9_1).f0) p748 q748
        have hw748_0 := hx748_0
        cases e748
        replace hx748_0 := (HB.1.cell (World.block_lt_of_cell? w _ hx748_0)).trans hx748_0
        replace p748 := eq_true p748
        replace q748 := eq_true q748
        refine start_ (n := 22) (S := fun w' => w'.cell? ⟨gb742, 0, none⟩ = some (.int .i64 a0_0) ∧ w'.cell? ⟨gb742, 1, none⟩ = some (.int .i64 a0_1) ∧ w'.cell? ⟨gb742, 2, none⟩ = some (.slice A0_2 l0_2.length c0_2) ∧ w'.cell? ⟨gb742, 3, none⟩ = some (.slice A0_3 l0_3.length c0_3) ∧ w'.cell? ⟨gb743, 0, none⟩ = some (.int .i64 a1_0) ∧ w'.cell? ⟨gb743, 1, none⟩ = some (.int .i64 a1_1) ∧ w'.cell? ⟨gb743, 2, none⟩ = some (.int .i64 a1_2) ∧ w'.cell? (ad744.add ((x9_1).toNat * 2)) = some (.int .i64 ((rd_T85 l3 x9_1).f0)) ∧ w'.cell? ⟨(ad744.add ((x9_1).toNat * 2)).block, (ad744.add ((x9_1).toNat * 2)).off + 1, none⟩ = some (.int .i64 ((rd_T85 l3 x9_1).f1)) ∧ w'.cell? (ad744.add ((x9_1).toNat * 2)) = some (.int .i64 ((rd_T85 l3 x9_1).f0)) ∧ w'.cell? ⟨(ad744.add ((x9_1).toNat * 2)).block, (ad744.add ((x9_1).toNat * 2)).off + 1, none⟩ = some (.int .i64 ((rd_T85 l3 x9_1).f1)) ∧ w'.cell? (ad744.add ((x9_1).toNat * 2)) = some (.int .i64 ((rd_T85 l3 x9_1).f0)) ∧ w'.cell? ⟨(ad744.add ((x9_1).toNat * 2)).block, (ad744.add ((x9_1).toNat * 2)).off + 1, none⟩ = some (.int .i64 ((rd_T85 l3 x9_1).f1)) ∧ w'.cell? (ad748.add (((rd_T85 l3 x9_1).f0)).toNat) = some (.int .i64 (rd l2 ((rd_T85 l3 x9_1).f0)))) (ds := []) #[false, false, false, false, false, false, false, false, false, false, false, false, false, false, false, false, false, false, false, false, false, false] (by kernel_rfl) rfl rfl ⟨(kC BK742.1 0).trans rfl, (kC BK742.1 1).trans rfl, (kC BK742.1 2).trans rfl, (kC BK742.1 3).trans rfl, (kC BK743.1 0).trans rfl, (kC BK743.1 1).trans rfl, (kC BK743.1 2).trans rfl, ((HB.1.cell (World.block_lt_of_cell? w _ hw744_0)).trans hw744_0), ((HB.1.cell (World.block_lt_of_cell? w _ hw744_1)).trans hw744_1), ((HB.1.cell (World.block_lt_of_cell? w _ hw745_0)).trans hw745_0), ((HB.1.cell (World.block_lt_of_cell? w _ hw745_1)).trans hw745_1), ((HB.1.cell (World.block_lt_of_cell? w _ hw747_0)).trans hw747_0), ((HB.1.cell (World.block_lt_of_cell? w _ hw747_1)).trans hw747_1), ((HB.1.cell (World.block_lt_of_cell? w _ hw748_0)).trans hw748_0)⟩ (fun hHeld => ?_); refine with_tabW glisterref04_Agrees.tab4 glisterref04_Agrees.bits4 (fun HT_ HW_ => ?_)
        generalize wr.drew = w15 at BK742 BK743 HB hx744_0 hx744_1 hx745_0 hx745_1 hx747_0 hx747_1 hx748_0 hHeld ⊢
        refine pure_ (i := 2) (N := some 18) (v := ?_) (a' := ?_) #[false, false, true, false, false, false, false, false, false, false, false, false, false, false, false, false, false, false, false, false, false, false] rfl rfl (any_of HT_.1 (by kernel_rfl)) (fun _ _ _ h => h) (Or.inl ⟨by rfl, ?_⟩) ?_ ?_
        rotate_left
        ·intro w'
         go_simp
         with_reducible rfl
        rotate_left
        ·simp only [Act.put, List.setIfInBounds_toArray, List.set_cons_zero, List.set_cons_succ, i64_w, i32_w]
         rfl
        refine pure_ (i := 3) (N := some 19) (v := ?_) (a' := ?_) #[false, false, true, true, false, false, false, false, false, false, false, false, false, false, false, false, false, false, false, false, false, false] rfl rfl (any_of HT_.1 (by kernel_rfl)) (fun _ _ _ h => h) (Or.inl ⟨by rfl, ?_⟩) ?_ ?_
        rotate_left
        ·intro w'
         go_simp
         with_reducible rfl
        rotate_left
        ·simp only [Act.put, List.setIfInBounds_toArray, List.set_cons_zero, List.set_cons_succ, i64_w, i32_w]
         rfl
        refine pure_ (i := 4) (N := some 20) (v := ?_) (a' := ?_) #[false, false, true, true, true, false, false, false, false, false, false, false, false, false, false, false, false, false, false, false, false, false] rfl rfl (any_of HT_.1 (by kernel_rfl)) (fun _ _ _ h => h) (Or.inl ⟨by rfl, ?_⟩) ?_ ?_
        rotate_left
        ·intro w'
         go_simp
         with_reducible rfl
        rotate_left
        ·simp only [Act.put, List.setIfInBounds_toArray, List.set_cons_zero, List.set_cons_succ, i64_w, i32_w]
         rfl
        refine pure_ (i := 5) (N := some 21) (v := ?_) (a' := ?_) #[false, false, true, true, true, true, false, false, false, false, false, false, false, false, false, false, false, false, false, false, false, false] rfl rfl (any_of HT_.1 (by kernel_rfl)) (fun _ _ _ h => h) (Or.inl ⟨by rfl, ?_⟩) ?_ ?_
        rotate_left
        ·intro w'
         go_simp
         with_reducible rfl
        rotate_left
        ·simp only [Act.put, List.setIfInBounds_toArray, List.set_cons_zero, List.set_cons_succ, i64_w, i32_w]
         rfl
        refine pure_ (i := 7) (N := some 23) (v := ?_) (a' := ?_) #[false, false, true, true, true, true, false, true, false, false, false, false, false, false, false, false, false, false, false, false, false, false] rfl rfl (any_of HT_.1 (by kernel_rfl)) (fun _ _ _ h => h) (Or.inl ⟨by rfl, ?_⟩) ?_ ?_
        rotate_left
        ·intro w'
         go_simp
         with_reducible rfl
        rotate_left
        ·simp only [Act.put, List.setIfInBounds_toArray, List.set_cons_zero, List.set_cons_succ, i64_w, i32_w]
         rfl
        refine pure_ (i := 8) (N := some 24) (v := ?_) (a' := ?_) #[false, false, true, true, true, true, false, true, true, false, false, false, false, false, false, false, false, false, false, false, false, false] rfl rfl (any_of HT_.1 (by kernel_rfl)) (fun _ _ _ h => h) (Or.inl ⟨by rfl, ?_⟩) ?_ ?_
        rotate_left
        ·intro w'
         go_simp
         with_reducible rfl
        rotate_left
        ·simp only [Act.put, List.setIfInBounds_toArray, List.set_cons_zero, List.set_cons_succ, i64_w, i32_w]
         rfl
        refine pure_ (i := 9) (N := some 25) (v := ?_) (a' := ?_) #[false, false, true, true, true, true, false, true, true, true, false, false, false, false, false, false, false, false, false, false, false, false] rfl rfl (any_of HT_.1 (by kernel_rfl)) (fun _ _ _ h => h) (Or.inl ⟨by rfl, ?_⟩) ?_ ?_
        rotate_left
        ·intro w'
         go_simp
         with_reducible rfl
        rotate_left
        ·simp only [Act.put, List.setIfInBounds_toArray, List.set_cons_zero, List.set_cons_succ, i64_w, i32_w]
         rfl
        refine pure_ (i := 10) (N := some 26) (v := ?_) (a' := ?_) #[false, false, true, true, true, true, false, true, true, true, true, false, false, false, false, false, false, false, false, false, false, false] rfl rfl (any_of HT_.1 (by kernel_rfl)) (fun _ _ _ h => h) (Or.inl ⟨by rfl, ?_⟩) ?_ ?_
        rotate_left
        ·intro w'
         go_simp
         with_reducible rfl
        rotate_left
        ·simp only [Act.put, List.setIfInBounds_toArray, List.set_cons_zero, List.set_cons_succ, i64_w, i32_w]
         rfl
        refine pure_ (i := 13) (N := some 29) (v := ?_) (a' := ?_) #[false, false, true, true, true, true, false, true, true, true, true, false, false, true, false, false, false, false, false, false, false, false] rfl rfl (any_of HT_.1 (by kernel_rfl)) (fun _ _ _ h => h) (Or.inl ⟨by rfl, ?_⟩) ?_ ?_
        rotate_left
        ·intro w'
         go_simp
         with_reducible rfl
        rotate_left
        ·simp only [Act.put, List.setIfInBounds_toArray, List.set_cons_zero, List.set_cons_succ, i64_w, i32_w]
         rfl
        refine pure_ (i := 14) (N := some 30) (v := ?_) (a' := ?_) #[false, false, true, true, true, true, false, true, true, true, true, false, false, true, true, false, false, false, false, false, false, false] rfl rfl (any_of HT_.1 (by kernel_rfl)) (fun _ _ _ h => h) (Or.inl ⟨by rfl, ?_⟩) ?_ ?_
        rotate_left
        ·intro w'
         go_simp
         with_reducible rfl
        rotate_left
        ·simp only [Act.put, List.setIfInBounds_toArray, List.set_cons_zero, List.set_cons_succ, i64_w, i32_w]
         rfl
        refine pure_ (i := 15) (N := some 31) (v := ?_) (a' := ?_) #[false, false, true, true, true, true, false, true, true, true, true, false, false, true, true, true, false, false, false, false, false, false] rfl rfl (any_of HT_.1 (by kernel_rfl)) (fun _ _ _ h => h) (Or.inl ⟨by rfl, ?_⟩) ?_ ?_
        rotate_left
        ·intro w'
         go_simp
         with_reducible rfl
        rotate_left
        ·simp only [Act.put, List.setIfInBounds_toArray, List.set_cons_zero, List.set_cons_succ, i64_w, i32_w]
         rfl
        refine pure_ (i := 16) (N := some 32) (v := ?_) (a' := ?_) #[false, false, true, true, true, true, false, true, true, true, true, false, false, true, true, true, true, false, false, false, false, false] rfl rfl (any_of HT_.1 (by kernel_rfl)) (fun _ _ _ h => h) (Or.inl ⟨by rfl, ?_⟩) ?_ ?_
        rotate_left
        ·intro w'
         go_simp
         with_reducible rfl
        rotate_left
        ·simp only [Act.put, List.setIfInBounds_toArray, List.set_cons_zero, List.set_cons_succ, i64_w, i32_w]
         rfl
        refine pure_ (i := 17) (N := some 33) (v := ?_) (a' := ?_) #[false, false, true, true, true, true, false, true, true, true, true, false, false, true, true, true, true, true, false, false, false, false] rfl rfl (any_of HT_.1 (by kernel_rfl)) (fun _ _ _ h => h) (Or.inl ⟨by rfl, ?_⟩) ?_ ?_
        rotate_left
        ·intro w'
         go_simp
         with_reducible rfl
        rotate_left
        ·simp only [Act.put, List.setIfInBounds_toArray, List.set_cons_zero, List.set_cons_succ, i64_w, i32_w]
         rfl
        refine take_ (i := 0) (N := some 16) (v := ?_) (a' := ?_) #[true, false, true, true, true, true, false, true, true, true, true, false, false, true, true, true, true, true, false, false, false, false] rfl rfl (take_ofW HT_.1 HW_.1 (by kernel_rfl)) (fun _ _ _ h => h) (Or.inl ⟨by rfl, ?_⟩) hHeld ?_ ?_
        rotate_left
        ·rintro w' ⟨s0, s1, s2, s3, s4, s5, s6, s7, s8, s9, s10, s11, s12, s13⟩
         go_simp
         with_reducible rfl
        rotate_left
        ·simp only [Act.put, List.setIfInBounds_toArray, List.set_cons_zero, List.set_cons_succ, i64_w, i32_w]
         rfl
        refine take_ (i := 1) (N := some 17) (v := ?_) (a' := ?_) #[true, true, true, true, true, true, false, true, true, true, true, false, false, true, true, true, true, true, false, false, false, false] rfl rfl (take_ofW HT_.1 HW_.1 (by kernel_rfl)) (fun _ _ _ h => h) (Or.inl ⟨by rfl, ?_⟩) hHeld ?_ ?_
        rotate_left
        ·rintro w' ⟨s0, s1, s2, s3, s4, s5, s6, s7, s8, s9, s10, s11, s12, s13⟩
         go_simp
         with_reducible rfl
        rotate_left
        ·simp only [Act.put, List.setIfInBounds_toArray, List.set_cons_zero, List.set_cons_succ, i64_w, i32_w]
         rfl
        refine take_ (i := 6) (N := some 22) (v := ?_) (a' := ?_) #[true, true, true, true, true, true, true, true, true, true, true, false, false, true, true, true, true, true, false, false, false, false] rfl rfl (take_ofW HT_.1 HW_.1 (by kernel_rfl)) (fun _ _ _ h => h) (Or.inl ⟨by rfl, ?_⟩) hHeld ?_ ?_
        rotate_left
        ·rintro w' ⟨s0, s1, s2, s3, s4, s5, s6, s7, s8, s9, s10, s11, s12, s13⟩
         go_simp
         with_reducible rfl
        rotate_left
        ·simp only [Act.put, List.setIfInBounds_toArray, List.set_cons_zero, List.set_cons_succ, i64_w, i32_w]
         rfl
        refine take_ (i := 11) (N := some 27) (v := ?_) (a' := ?_) #[true, true, true, true, true, true, true, true, true, true, true, true, false, true, true, true, true, true, false, false, false, false] rfl rfl (take_ofW HT_.1 HW_.1 (by kernel_rfl)) (fun _ _ _ h => h) (Or.inl ⟨by rfl, ?_⟩) hHeld ?_ ?_
        rotate_left
        ·rintro w' ⟨s0, s1, s2, s3, s4, s5, s6, s7, s8, s9, s10, s11, s12, s13⟩
         go_simp
         with_reducible rfl
        rotate_left
        ·simp only [Act.put, List.setIfInBounds_toArray, List.set_cons_zero, List.set_cons_succ, i64_w, i32_w]
         rfl
        refine take_ (i := 18) (N := some 34) (v := ?_) (a' := ?_) #[true, true, true, true, true, true, true, true, true, true, true, true, false, true, true, true, true, true, true, false, false, false] rfl rfl (take_ofW HT_.1 HW_.1 (by kernel_rfl)) (fun _ _ _ h => h) (Or.inl ⟨by rfl, ?_⟩) hHeld ?_ ?_
        rotate_left
        ·rintro w' ⟨s0, s1, s2, s3, s4, s5, s6, s7, s8, s9, s10, s11, s12, s13⟩
         go_simp
         with_reducible rfl
        rotate_left
        ·simp only [Act.put, List.setIfInBounds_toArray, List.set_cons_zero, List.set_cons_succ, i64_w, i32_w]
         rfl
        refine pure_ (i := 19) (N := some 35) (v := ?_) (a' := ?_) #[true, true, true, true, true, true, true, true, true, true, true, true, false, true, true, true, true, true, true, true, false, false] rfl rfl (any_of HT_.1 (by kernel_rfl)) (fun _ _ _ h => h) (Or.inl ⟨by rfl, ?_⟩) ?_ ?_
        rotate_left
        ·intro w'
         go_simp
         with_reducible rfl
        rotate_left
        ·simp only [Act.put, List.setIfInBounds_toArray, List.set_cons_zero, List.set_cons_succ, i64_w, i32_w]
         rfl
        refine take_ (i := 20) (N := some 36) (v := ?_) (a' := ?_) #[true, true, true, true, true, true, true, true, true, true, true, true, false, true, true, true, true, true, true, true, true, false] rfl rfl (take_ofW HT_.1 HW_.1 (by kernel_rfl)) (fun _ _ _ h => h) (Or.inl ⟨by rfl, ?_⟩) hHeld ?_ ?_
        rotate_left
        ·rintro w' ⟨s0, s1, s2, s3, s4, s5, s6, s7, s8, s9, s10, s11, s12, s13⟩
         go_simp
         with_reducible rfl
        rotate_left
        ·simp only [Act.put, List.setIfInBounds_toArray, List.set_cons_zero, List.set_cons_succ, i64_w, i32_w]
         rfl
        refine one_ (i := 12) (N := some 28) #[true, true, true, true, true, true, true, true, true, true, true, true, true, true, true, true, true, true, true, true, true, false] rfl rfl (one_of HT_.1 (by kernel_rfl)) (by decide) (fun K hK => ?_)
        refine goes_ Try.func64 (by kernel_rfl) rfl #[.agg #[.int .i64 a0_0, .int .i64 a0_1, .slice A0_2 l0_2.length c0_2, .slice A0_3 l0_3.length c0_3], .agg #[.int .i64 a1_0, .int .i64 a1_1, .int .i64 a1_2], .int .i64 ((rd_T85 l3 x9_1).f1), .int .i64 ((rd_T85 l3 x9_1).f0)] (by rfl) rfl rfl (by (try simp only [List.map_toArray, List.map_cons, List.map_nil]); first | rfl ) ?_
        with_reducible refine (glisterref04_CodeOf.calls a0_0 a0_1 _ _ l0_2 _ _ l0_3 a1_0 a1_1 a1_2 ((rd_T85 l3 x9_1).f1) ((rd_T85 l3 x9_1).f0) t746 _ ?side1 ?side2 ?side3 ?side4 A9.1).mono ?_
        (case side1 => repeat (first | exact (Kd.C_below HR0_2.1 HB.1) ))
        (case side2 => exact HC0_2.1)
        (case side3 => repeat (first | exact (Kd.C_below HR0_3.1 HB.1) ))
        (case side4 => exact HC0_3.1)
        rintro e w16 ⟨rfl, hb⟩
        refine ⟨_, rfl, ?_⟩
        have n0_ := Sd.mk (kB (g := gb742) (o := .cells #[.int .i64 a0_0, .int .i64 a0_1, .slice A0_2 l0_2.length c0_2, .slice A0_3 l0_3.length c0_3] 25 (0, 0)) (by (with_reducible repeat (fail)); exact BK742.1) hb)
        have n1_ := Sd.mk (kB (g := gb743) (o := .cells #[.int .i64 a1_0, .int .i64 a1_1, .int .i64 a1_2] 82 (0, 0)) (by (with_reducible repeat (fail)); exact BK743.1) hb)
        have n2_ := Sd.mk (bT (by repeat (first | (with_reducible first | exact HB.1 ) )) hb)
        clear BK742
        clear BK743
        clear HB
        have BK742 := n0_
        have BK743 := n1_
        have HB := n2_
        clear n0_ n1_ n2_
        (try clear hb)
        refine hK.out _ _ ⟨(kC BK742.1 0).trans rfl, (kC BK742.1 1).trans rfl, (kC BK742.1 2).trans rfl, (kC BK742.1 3).trans rfl, (kC BK743.1 0).trans rfl, (kC BK743.1 1).trans rfl, (kC BK743.1 2).trans rfl, ((HB.1.cell (World.block_lt_of_cell? w _ hw744_0)).trans hw744_0), ((HB.1.cell (World.block_lt_of_cell? w _ hw744_1)).trans hw744_1), ((HB.1.cell (World.block_lt_of_cell? w _ hw745_0)).trans hw745_0), ((HB.1.cell (World.block_lt_of_cell? w _ hw745_1)).trans hw745_1), ((HB.1.cell (World.block_lt_of_cell? w _ hw747_0)).trans hw747_0), ((HB.1.cell (World.block_lt_of_cell? w _ hw747_1)).trans hw747_1), ((HB.1.cell (World.block_lt_of_cell? w _ hw748_0)).trans hw748_0)⟩ (fun hHeld => ?_)
        clear hK K
        refine norm_ (a' := ?_) ?_ ?_
        rotate_left
        ·show Act.put _ (some 28) _ = _
         simp only [Act.put, List.setIfInBounds_toArray, List.set_cons_zero, List.set_cons_succ, i64_w, i32_w]
         rfl
        refine pure_ (i := 21) (N := some 37) (v := ?_) (a' := ?_) #[true, true, true, true, true, true, true, true, true, true, true, true, true, true, true, true, true, true, true, true, true, true] rfl rfl (any_of HT_.1 (by kernel_rfl)) (fun _ _ _ h => h) (Or.inl ⟨by rfl, ?_⟩) ?_ ?_
        rotate_left
        ·intro w'
         go_simp
         with_reducible rfl
        rotate_left
        ·simp only [Act.put, List.setIfInBounds_toArray, List.set_cons_zero, List.set_cons_succ, i64_w, i32_w]
         rfl
        refine done_ (done_of HT_.1 (by kernel_rfl)) ?_
        try go_wp2
        go_ret
        exact ⟨by first | rfl , by repeat (first | (with_reducible first | exact HB.1 ) )⟩
      ·rw [if_neg c11] at H
       exact absurd H (by simp)
     ·rw [if_neg c10] at H
      exact absurd H (by simp)
    ·rw [if_neg c8] at H
     exact absurd H (by simp)
   ·rw [if_neg c7] at H
    have c7b0 : decide (x9_1 < (l3.length : Int)) = false := decide_eq_false c7
    clear c7
    obtain rfl := Option.some.inj H
    go_wp2
    go_ret
    exact ⟨by first | rfl , by repeat (first | (with_reducible first | exact HB.1 ) )⟩
end Go.Proofs.Ytnidgkmopocdkaa.P
