import Derived.Test.YtnidgkmopocdkaaA13P0
import Derived.Test.YtnidgkmopocdkaaA13P1
namespace Go.Proofs.Ytnidgkmopocdkaa.P
open Go.RowKit Go.Proofs.YtnidgkmopocdkaaW.PrintWords Go.Proofs.YtnidgkmopocdkaaW.PrintLast Go.Proofs.YtnidgkmopocdkaaW.PrintMore
attribute [local go_sem] max2_int min2_int max_two min_two max_three min_three max_four min_four   -- for this text's walks alone
set_option linter.unusedVariables false
set_option linter.unusedSimpArgs false
def cipher_Book_adds.l0 : Nat → List Int → Int → Int → Option (List Int)
 | 0, _, _, _ => none
 | k + 1, x8, x38, x39 => if x39 < x38 then (if x8.length < 17592186044416 then (cipher_Book_adds.l0 k (x8 ++ [x39]) x38 (wrap64 (x39 + 1))) else (none)) else (some x8)
def cipher_Book_adds.f (k : Nat) (a0_0 : Int) (a0_1 : Int) (l0_2 : List (S91)) (l0_3 : List Int) (a1_0 : Int) (a1_1 : Int) (a1_2 : Int) (l2 : List Int) (l3 : List (S88)) : Option (List Int) := if (l3.length : Int) > 0 then (if 0 < (l3.length : Int) then (if 0 ≤ ((rd_T88 l3 0).f0) then (if ((rd_T88 l3 0).f0) < (l2.length : Int) then ((cipher_Book_code.f a0_0 a0_1 l0_2 l0_3 a1_0 a1_1 a1_2 ((rd_T88 l3 0).f1) ((rd_T88 l3 0).f0)).bind fun t121 => (if a0_0 = 0 then (none) else (some (([Int.tmod (wrap64 ((wrap64 ((rd l2 ((rd_T88 l3 0).f0)) + a0_0)) - t121)) a0_0] : List Int))))) else (none)) else (none)) else (none)) else (cipher_Book_adds.l0 k ([] : List Int) a0_0 0)
def cipher_Book_adds.T3 : Bool × List (List Nat × List Nat) := (true, [([], []), ([], []), ([1], [1]), ([0, 2], [0, 2]), ([3], [3]), ([], []), ([5], [5]), ([4, 6], [4, 6]), ([], []), ([], []), ([], []), ([10], [10]), ([], []), ([12], [12]), ([8, 9, 11, 13], [8, 9, 11, 13]), ([7, 14], [7, 14]), ([], []), ([16], [16]), ([15, 17], [15, 17]), ([18], [18]), ([19, 14, 0, 1, 2, 3, 4, 5, 6, 7, 8, 9, 10, 11, 12, 13, 14, 15, 16, 17, 18, 19], [19])])
def cipher_Book_adds.B3 : List Nat := [0, 0, 2, 7, 15, 0, 32, 127, 0, 0, 0, 1024, 0, 4096, 16128, 32767, 0, 65536, 262143, 524287, 1048575]
theorem cipher_Book_adds.tab3 : rtab .any (opsOf Try.f97 3) = cipher_Book_adds.T3 := by kernel_rfl
theorem cipher_Book_adds.bits3 : waitsOk cipher_Book_adds.T3.2 cipher_Book_adds.B3 = true := by kernel_rfl
set_option maxHeartbeats 8000000 in
set_option maxRecDepth 100000 in
theorem cipher_Book_adds.calls (k : Nat) (a0_0 : Int) (a0_1 : Int) (A0_2 : Option Addr) (c0_2 : Nat) (l0_2 : List (S91)) (A0_3 : Option Addr) (c0_3 : Nat) (l0_3 : List Int) (a1_0 : Int) (a1_1 : Int) (a1_2 : Int) (A2 : Option Addr) (c2 : Nat) (l2 : List Int) (A3 : Option Addr) (c3 : Nat) (l3 : List (S88)) (r : List Int) (w : World) (hr0_2 : Kd.C k91 w A0_2 l0_2.length l0_2) (hc0_2 : l0_2.length ≤ c0_2) (hr0_3 : Kd.C (Kd.int .i64) w A0_3 l0_3.length l0_3) (hc0_3 : l0_3.length ≤ c0_3) (hr2 : Kd.C (Kd.int .i64) w A2 l2.length l2) (hc2 : l2.length ≤ c2) (hr3 : Kd.C k88 w A3 l3.length l3) (hc3 : l3.length ≤ c3) (h : cipher_Book_adds.f k a0_0 a0_1 l0_2 l0_3 a1_0 a1_1 a1_2 l2 l3 = some r) :
  Calls Try.prog 97 #[.agg #[.int .i64 a0_0, .int .i64 a0_1, .slice A0_2 l0_2.length c0_2, .slice A0_3 l0_3.length c0_3], .agg #[.int .i64 a1_0, .int .i64 a1_1, .int .i64 a1_2], .slice A2 l2.length c2, .slice A3 l3.length c3] w fun e w' => ∃ v0_ : Value, e = .returned (v0_) ∧ Kd.R (Kd.int .i64) 3 w' w.heap.size (fun _ => True) v0_ r ∧ Below w.heap.size w w' := by
 have hu32 := Try.underlying32
 have hu91 := Try.underlying91
 have hu88 := Try.underlying88
 have HR0_2 := Sd.mk hr0_2
 have HC0_2 := Sd.mk hc0_2
 clear hr0_2 hc0_2
 have HR0_3 := Sd.mk hr0_3
 have HC0_3 := Sd.mk hc0_3
 clear hr0_3 hc0_3
 have HR2 := Sd.mk hr2
 have HC2 := Sd.mk hc2
 clear hr2 hc2
 have HR3 := Sd.mk hr3
 have HC3 := Sd.mk hc3
 clear hr3 hc3
 have HB := Sd.mk (Below.refl w.heap.size w)
 have H : (if (l3.length : Int) > 0 then (if 0 < (l3.length : Int) then (if 0 ≤ ((rd_T88 l3 0).f0) then (if ((rd_T88 l3 0).f0) < (l2.length : Int) then ((cipher_Book_code.f a0_0 a0_1 l0_2 l0_3 a1_0 a1_1 a1_2 ((rd_T88 l3 0).f1) ((rd_T88 l3 0).f0)).bind fun t121 => (if a0_0 = 0 then (none) else (some (([Int.tmod (wrap64 ((wrap64 ((rd l2 ((rd_T88 l3 0).f0)) + a0_0)) - t121)) a0_0] : List Int))))) else (none)) else (none)) else (none)) else (cipher_Book_adds.l0 k ([] : List Int) a0_0 0)) = some r := h
 clear h
 by_cases c5 : (l3.length : Int) > 0
 ·rw [if_pos c5] at H
  have c5b0 : decide (0 < (l3.length : Int)) = true := decide_eq_true c5
  have c5b1 : decide (0 < l3.length) = true := decide_eq_true (by omega)
  clear c5
  by_cases c6 : 0 < (l3.length : Int)
  ·rw [if_pos c6] at H
   have c6b0 : decide (0 < (l3.length : Int)) = true := decide_eq_true c6
   have c6b1 : decide (0 < l3.length) = true := decide_eq_true (by omega)
   clear c6
   by_cases c7 : 0 ≤ ((rd_T88 l3 0).f0)
   ·rw [if_pos c7] at H
    have c7b0 : decide (0 ≤ ((rd_T88 l3 0).f0)) = true := decide_eq_true c7
    clear c7
    by_cases c8 : ((rd_T88 l3 0).f0) < (l2.length : Int)
    ·rw [if_pos c8] at H
     have c8b0 : decide (((rd_T88 l3 0).f0) < (l2.length : Int)) = true := decide_eq_true c8
     clear c8
     obtain ⟨t121, A90, H⟩ := Option.bind_eq_some_iff.mp H
     have A9 := Sd.mk A90
     clear A90
     by_cases c10 : a0_0 = 0
     ·rw [if_pos c10] at H
      exact absurd H (by simp)
     ·rw [if_neg c10] at H
      have c10b0 : (a0_0 == 0) = false := beq_eq_false_iff_ne.mpr c10
      have c10b1 : (a0_0 != 0) = true := bne_iff_ne.mpr c10
      obtain ⟨y122, hy122⟩ : ∃ y_ : List Int, y_ = (([Int.tmod (wrap64 ((wrap64 ((rd l2 ((rd_T88 l3 0).f0)) + a0_0)) - t121)) a0_0] : List Int)) := ⟨_, rfl⟩
      replace H : (some y122) = some r := by first | (rw [hy122]; with_reducible exact H) 
      have Ny122 := Sd.mk hy122
      clear hy122
      obtain rfl := Option.some.inj H
      go_enter Try.func97, Try.ntmps97
      try go_wp2_with (first | ((with_reducible refine gD (N := 4) rfl ?_); refine xE ?hg (N := 4) ?hd (cs := #[.int .i64 a0_0, .int .i64 a0_1, .slice A0_2 l0_2.length c0_2, .slice A0_3 l0_3.length c0_3]) (t := 32) ?hr ?_; (case hd => rfl); (case hg => rfl); (case hr => first | (go_simp; done) ); intro gb116 hg w11 hbox hb; have BK116 := Sd.mk (hbox); have GW116 := Sd.mk ((by rw [hg]; exact (bZ (by repeat (first | (with_reducible first | exact HB.1 ) ))) : w.heap.size ≤ gb116)); have GE116 := Sd.mk ((by rw [hg]; exact (bZ (by repeat (first | (with_reducible first | exact HB.1 ) ))) : w.heap.size ≤ gb116)); replace HB := Sd.mk (bT (by repeat (first | (with_reducible first | exact HB.1 ) )) hb); clear hb hbox hg) | ((with_reducible refine gD (N := 5) rfl ?_); refine xE ?hg (N := 5) ?hd (cs := #[.int .i64 a1_0, .int .i64 a1_1, .int .i64 a1_2]) (t := 91) ?hr ?_; (case hd => rfl); (case hg => rfl); (case hr => first | (go_simp; done) ); intro gb117 hg w12 hbox hb; have BK117 := Sd.mk (hbox); have GW117 := Sd.mk ((by rw [hg]; exact (bZ (by repeat (first | (with_reducible first | exact HB.1 ) ))) : w.heap.size ≤ gb117)); have GE117 := Sd.mk ((by rw [hg]; exact (bZ (by repeat (first | (with_reducible first | exact HB.1 ) ))) : w.heap.size ≤ gb117)); replace HB := Sd.mk (bT (by repeat (first | (with_reducible first | exact HB.1 ) )) hb); have NB116_117 := Sd.mk ((by rw [hg]; exact Nat.ne_of_lt (blk_lt (g := gb116) (o := .cells #[.int .i64 a0_0, .int .i64 a0_1, .slice A0_2 l0_2.length c0_2, .slice A0_3 l0_3.length c0_3] 32 (0, 0)) (by (with_reducible repeat (fail)); exact BK116.1)) : gb116 ≠ gb117)); have NB117_116 := Sd.mk ((by rw [hg]; exact Nat.ne_of_gt (blk_lt (g := gb116) (o := .cells #[.int .i64 a0_0, .int .i64 a0_1, .slice A0_2 l0_2.length c0_2, .slice A0_3 l0_3.length c0_3] 32 (0, 0)) (by (with_reducible repeat (fail)); exact BK116.1)) : gb117 ≠ gb116)); replace BK116 := Sd.mk (kB (g := gb116) (o := .cells #[.int .i64 a0_0, .int .i64 a0_1, .slice A0_2 l0_2.length c0_2, .slice A0_3 l0_3.length c0_3] 32 (0, 0)) (by (with_reducible repeat (fail)); exact BK116.1) hb); clear hb hbox hg; have p118 : 0 ≤ (0 : Int) := (by omega); have q118 : 0 < (l3.length : Int) := of_decide_eq_true (by first | (with_reducible assumption) ); obtain ⟨ad118, e118, hx118_0, hx118_1⟩ := at_T88 HR3.1 0 p118 q118; cases e118; have qi118 : (0 < l3.length) = True := eq_true (by omega); (try rw [show ((0 : Int)).toNat = 0 from rfl] at hx118_0); (try rw [show 0 * 2 = 0 from rfl] at hx118_0); (try rw [Addr.add_zero'] at hx118_0); (try rw [show ((0 : Int)).toNat = 0 from rfl] at hx118_1); (try rw [show 0 * 2 = 0 from rfl] at hx118_1); (try rw [Addr.add_zero'] at hx118_1); replace hx118_0 := (HB.1.cell (World.block_lt_of_cell? w _ hx118_0)).trans hx118_0; replace hx118_1 := (HB.1.cell (World.block_lt_of_cell? w _ hx118_1)).trans hx118_1; replace p118 := eq_true p118; replace q118 := eq_true q118) | ((with_reducible refine gD (N := 9) rfl ?_); refine xE ?hg (N := 9) ?hd (cs := #[.int .i64 0, .int .i64 0]) (t := 88) ?hr ?_; (case hd => rfl); (case hg => rfl); (case hr => first | (go_simp; done) ); intro gb119 hg w13 hbox hb; have BK119 := Sd.mk (hbox); have GW119 := Sd.mk ((by rw [hg]; exact (bZ (by repeat (first | (with_reducible first | exact HB.1 ) ))) : w.heap.size ≤ gb119)); have GE119 := Sd.mk ((by rw [hg]; exact (bZ (by repeat (first | (with_reducible first | exact HB.1 ) ))) : w.heap.size ≤ gb119)); replace HB := Sd.mk (bT (by repeat (first | (with_reducible first | exact HB.1 ) )) hb); have NB116_119 := Sd.mk ((by rw [hg]; exact Nat.ne_of_lt (blk_lt (g := gb116) (o := .cells #[.int .i64 a0_0, .int .i64 a0_1, .slice A0_2 l0_2.length c0_2, .slice A0_3 l0_3.length c0_3] 32 (0, 0)) (by (with_reducible repeat (fail)); exact BK116.1)) : gb116 ≠ gb119)); have NB119_116 := Sd.mk ((by rw [hg]; exact Nat.ne_of_gt (blk_lt (g := gb116) (o := .cells #[.int .i64 a0_0, .int .i64 a0_1, .slice A0_2 l0_2.length c0_2, .slice A0_3 l0_3.length c0_3] 32 (0, 0)) (by (with_reducible repeat (fail)); exact BK116.1)) : gb119 ≠ gb116)); replace BK116 := Sd.mk (kB (g := gb116) (o := .cells #[.int .i64 a0_0, .int .i64 a0_1, .slice A0_2 l0_2.length c0_2, .slice A0_3 l0_3.length c0_3] 32 (0, 0)) (by (with_reducible repeat (fail)); exact BK116.1) hb); have NB117_119 := Sd.mk ((by rw [hg]; exact Nat.ne_of_lt (blk_lt (g := gb117) (o := .cells #[.int .i64 a1_0, .int .i64 a1_1, .int .i64 a1_2] 91 (0, 0)) (by (with_reducible repeat (fail)); exact BK117.1)) : gb117 ≠ gb119)); have NB119_117 := Sd.mk ((by rw [hg]; exact Nat.ne_of_gt (blk_lt (g := gb117) (o := .cells #[.int .i64 a1_0, .int .i64 a1_1, .int .i64 a1_2] 91 (0, 0)) (by (with_reducible repeat (fail)); exact BK117.1)) : gb119 ≠ gb117)); replace BK117 := Sd.mk (kB (g := gb117) (o := .cells #[.int .i64 a1_0, .int .i64 a1_1, .int .i64 a1_2] 91 (0, 0)) (by (with_reducible repeat (fail)); exact BK117.1) hb); clear hb hbox hg; have hnb14 := NB119_116.1; have hnc14 := NB116_119.1; have hnb15 := NB119_117.1; have hnc15 := NB117_119.1; have z_16_0 : w13.cell? ⟨gb119, 0, none⟩ = some (.int .i64 0) := (kC BK119.1 0).trans rfl; have z_16_1 : w13.cell? ⟨gb119, 1, none⟩ = some (.int .i64 0) := (kC BK119.1 1).trans rfl; have hfz16_0 := kF BK119.1 0; have hfz16_1 := kF BK119.1 1))
      have n0_ : Sd (((w13.setCell ⟨gb119, 0, none⟩ (.int .i64 ((rd_T88 l3 0).f0))).setCell ⟨gb119, 1, none⟩ (.int .i64 ((rd_T88 l3 0).f1))).heap[gb116]? = some (.cells #[.int .i64 a0_0, .int .i64 a0_1, .slice A0_2 l0_2.length c0_2, .slice A0_3 l0_3.length c0_3] 32 (0, 0))) := ⟨by (with_reducible repeat (fail)); refine blk_far ?_ NB116_119.1 _; (with_reducible repeat (fail)); refine blk_far ?_ NB116_119.1 _; (with_reducible repeat (fail)); exact BK116.1⟩
      have n1_ : Sd (((w13.setCell ⟨gb119, 0, none⟩ (.int .i64 ((rd_T88 l3 0).f0))).setCell ⟨gb119, 1, none⟩ (.int .i64 ((rd_T88 l3 0).f1))).heap[gb117]? = some (.cells #[.int .i64 a1_0, .int .i64 a1_1, .int .i64 a1_2] 91 (0, 0))) := ⟨by (with_reducible repeat (fail)); refine blk_far ?_ NB117_119.1 _; (with_reducible repeat (fail)); refine blk_far ?_ NB117_119.1 _; (with_reducible repeat (fail)); exact BK117.1⟩
      have n2_ : Sd (((w13.setCell ⟨gb119, 0, none⟩ (.int .i64 ((rd_T88 l3 0).f0))).setCell ⟨gb119, 1, none⟩ (.int .i64 ((rd_T88 l3 0).f1))).heap[gb119]? = some (.cells #[.int .i64 ((rd_T88 l3 0).f0), .int .i64 ((rd_T88 l3 0).f1)] 88 (0, 0))) := ⟨by (with_reducible repeat (fail)); refine blk_put (cs := #[.int .i64 ((rd_T88 l3 0).f0), .int .i64 0]) ?_ 1 _ rfl; (with_reducible repeat (fail)); refine blk_put (cs := #[.int .i64 0, .int .i64 0]) ?_ 0 _ rfl; (with_reducible repeat (fail)); exact BK119.1⟩
      have n3_ : Sd (Below w.heap.size w ((w13.setCell ⟨gb119, 0, none⟩ (.int .i64 ((rd_T88 l3 0).f0))).setCell ⟨gb119, 1, none⟩ (.int .i64 ((rd_T88 l3 0).f1)))) := ⟨by repeat (first | (with_reducible first | exact HB.1 | refine bS ?_ GE119.1) )⟩
      (try clear BK116)
      (try clear BK117)
      (try clear BK119)
      (try clear HB)
      generalize ((w13.setCell ⟨gb119, 0, none⟩ (.int .i64 ((rd_T88 l3 0).f0))).setCell ⟨gb119, 1, none⟩ (.int .i64 ((rd_T88 l3 0).f1))) = w17 at n0_ n1_ n2_ n3_ ⊢
      have BK116 := n0_
      have BK117 := n1_
      have BK119 := n2_
      have HB := n3_
      clear n0_ n1_ n2_ n3_
      have n0_ := Sd.mk (kD BK116.1)
      have n1_ := Sd.mk (kD BK117.1)
      have n2_ := Sd.mk (kD BK119.1)
      have n3_ := Sd.mk (bD HB.1)
      clear BK116
      clear BK117
      clear BK119
      clear HB
      have BK116 := n0_
      have BK117 := n1_
      have BK119 := n2_
      have HB := n3_
      clear n0_ n1_ n2_ n3_
      have p120 : 0 ≤ (((rd_T88 l3 0).f0) : Int) := of_decide_eq_true (by first | (with_reducible assumption) )
      have q120 : ((rd_T88 l3 0).f0) < (l2.length : Int) := of_decide_eq_true (by first | (with_reducible assumption) )
      obtain ⟨ad120, e120, hx120_0⟩ := Kd.at_int HR2.1 ((rd_T88 l3 0).f0) p120 q120
      have hw120_0 := hx120_0
      cases e120
      replace hx120_0 := (HB.1.cell (World.block_lt_of_cell? w _ hx120_0)).trans hx120_0
      replace p120 := eq_true p120
      replace q120 := eq_true q120
      refine start_ (n := 21) (S := fun w' => w'.cell? ⟨gb119, 0, none⟩ = some (.int .i64 ((rd_T88 l3 0).f0)) ∧ w'.cell? ⟨gb119, 1, none⟩ = some (.int .i64 ((rd_T88 l3 0).f1)) ∧ w'.cell? ⟨gb116, 0, none⟩ = some (.int .i64 a0_0) ∧ w'.cell? ⟨gb116, 1, none⟩ = some (.int .i64 a0_1) ∧ w'.cell? ⟨gb116, 2, none⟩ = some (.slice A0_2 l0_2.length c0_2) ∧ w'.cell? ⟨gb116, 3, none⟩ = some (.slice A0_3 l0_3.length c0_3) ∧ w'.cell? ⟨gb117, 0, none⟩ = some (.int .i64 a1_0) ∧ w'.cell? ⟨gb117, 1, none⟩ = some (.int .i64 a1_1) ∧ w'.cell? ⟨gb117, 2, none⟩ = some (.int .i64 a1_2) ∧ w'.cell? (ad120.add (((rd_T88 l3 0).f0)).toNat) = some (.int .i64 (rd l2 ((rd_T88 l3 0).f0)))) (ds := []) #[false, false, false, false, false, false, false, false, false, false, false, false, false, false, false, false, false, false, false, false, false] (by kernel_rfl) rfl rfl ⟨(kC BK119.1 0).trans rfl, (kC BK119.1 1).trans rfl, (kC BK116.1 0).trans rfl, (kC BK116.1 1).trans rfl, (kC BK116.1 2).trans rfl, (kC BK116.1 3).trans rfl, (kC BK117.1 0).trans rfl, (kC BK117.1 1).trans rfl, (kC BK117.1 2).trans rfl, ((HB.1.cell (World.block_lt_of_cell? w _ hw120_0)).trans hw120_0)⟩ (fun hHeld => ?_); refine with_tabW cipher_Book_adds.tab3 cipher_Book_adds.bits3 (fun HT_ HW_ => ?_)
      generalize w17.drew = w18 at BK116 BK117 BK119 HB hx120_0 hHeld ⊢
      refine pure_ (i := 0) (N := some 17) (v := ?_) (a' := ?_) #[true, false, false, false, false, false, false, false, false, false, false, false, false, false, false, false, false, false, false, false, false] rfl rfl (any_of HT_.1 (by kernel_rfl)) (fun _ _ _ h => h) (Or.inl ⟨by rfl, ?_⟩) ?_ ?_
      rotate_left
      ·intro w'
       go_simp
       with_reducible rfl
      rotate_left
      ·simp only [Act.put, List.setIfInBounds_toArray, List.set_cons_zero, List.set_cons_succ, i64_w, i32_w]
       rfl
      refine pure_ (i := 1) (N := some 18) (v := ?_) (a' := ?_) #[true, true, false, false, false, false, false, false, false, false, false, false, false, false, false, false, false, false, false, false, false] rfl rfl (any_of HT_.1 (by kernel_rfl)) (fun _ _ _ h => h) (Or.inl ⟨by rfl, ?_⟩) ?_ ?_
      rotate_left
      ·intro w'
       go_simp
       with_reducible rfl
      rotate_left
      ·simp only [Act.put, List.setIfInBounds_toArray, List.set_cons_zero, List.set_cons_succ, i64_w, i32_w]
       rfl
      refine pure_ (i := 5) (N := some 22) (v := ?_) (a' := ?_) #[true, true, false, false, false, true, false, false, false, false, false, false, false, false, false, false, false, false, false, false, false] rfl rfl (any_of HT_.1 (by kernel_rfl)) (fun _ _ _ h => h) (Or.inl ⟨by rfl, ?_⟩) ?_ ?_
      rotate_left
      ·intro w'
       go_simp
       with_reducible rfl
      rotate_left
      ·simp only [Act.put, List.setIfInBounds_toArray, List.set_cons_zero, List.set_cons_succ, i64_w, i32_w]
       rfl
      refine pure_ (i := 10) (N := some 27) (v := ?_) (a' := ?_) #[true, true, false, false, false, true, false, false, false, false, true, false, false, false, false, false, false, false, false, false, false] rfl rfl (any_of HT_.1 (by kernel_rfl)) (fun _ _ _ h => h) (Or.inl ⟨by rfl, ?_⟩) ?_ ?_
      rotate_left
      ·intro w'
       go_simp
       with_reducible rfl
      rotate_left
      ·simp only [Act.put, List.setIfInBounds_toArray, List.set_cons_zero, List.set_cons_succ, i64_w, i32_w]
       rfl
      refine pure_ (i := 12) (N := some 29) (v := ?_) (a' := ?_) #[true, true, false, false, false, true, false, false, false, false, true, false, true, false, false, false, false, false, false, false, false] rfl rfl (any_of HT_.1 (by kernel_rfl)) (fun _ _ _ h => h) (Or.inl ⟨by rfl, ?_⟩) ?_ ?_
      rotate_left
      ·intro w'
       go_simp
       with_reducible rfl
      rotate_left
      ·simp only [Act.put, List.setIfInBounds_toArray, List.set_cons_zero, List.set_cons_succ, i64_w, i32_w]
       rfl
      refine pure_ (i := 16) (N := some 33) (v := ?_) (a' := ?_) #[true, true, false, false, false, true, false, false, false, false, true, false, true, false, false, false, true, false, false, false, false] rfl rfl (any_of HT_.1 (by kernel_rfl)) (fun _ _ _ h => h) (Or.inl ⟨by rfl, ?_⟩) ?_ ?_
      rotate_left
      ·intro w'
       go_simp
       with_reducible rfl
      rotate_left
      ·simp only [Act.put, List.setIfInBounds_toArray, List.set_cons_zero, List.set_cons_succ, i64_w, i32_w]
       rfl
      refine take_ (i := 2) (N := some 19) (v := ?_) (a' := ?_) #[true, true, true, false, false, true, false, false, false, false, true, false, true, false, false, false, true, false, false, false, false] rfl rfl (take_ofW HT_.1 HW_.1 (by kernel_rfl)) (fun _ _ _ h => h) (Or.inl ⟨by rfl, ?_⟩) hHeld ?_ ?_
      rotate_left
      ·rintro w' ⟨s0, s1, s2, s3, s4, s5, s6, s7, s8, s9⟩
       go_simp
       with_reducible rfl
      rotate_left
      ·simp only [Act.put, List.setIfInBounds_toArray, List.set_cons_zero, List.set_cons_succ, i64_w, i32_w]
       rfl
      refine pure_ (i := 3) (N := some 20) (v := ?_) (a' := ?_) #[true, true, true, true, false, true, false, false, false, false, true, false, true, false, false, false, true, false, false, false, false] rfl rfl (any_of HT_.1 (by kernel_rfl)) (fun _ _ _ h => h) (Or.inl ⟨by rfl, ?_⟩) ?_ ?_
      rotate_left
      ·intro w'
       go_simp
       with_reducible rfl
      rotate_left
      ·simp only [Act.put, List.setIfInBounds_toArray, List.set_cons_zero, List.set_cons_succ, i64_w, i32_w]
       rfl
      refine take_ (i := 4) (N := some 21) (v := ?_) (a' := ?_) #[true, true, true, true, true, true, false, false, false, false, true, false, true, false, false, false, true, false, false, false, false] rfl rfl (take_ofW HT_.1 HW_.1 (by kernel_rfl)) (fun _ _ _ h => h) (Or.inl ⟨by rfl, ?_⟩) hHeld ?_ ?_
      rotate_left
      ·rintro w' ⟨s0, s1, s2, s3, s4, s5, s6, s7, s8, s9⟩
       go_simp
       with_reducible rfl
      rotate_left
      ·simp only [Act.put, List.setIfInBounds_toArray, List.set_cons_zero, List.set_cons_succ, i64_w, i32_w]
       rfl
      refine take_ (i := 6) (N := some 23) (v := ?_) (a' := ?_) #[true, true, true, true, true, true, true, false, false, false, true, false, true, false, false, false, true, false, false, false, false] rfl rfl (take_ofW HT_.1 HW_.1 (by kernel_rfl)) (fun _ _ _ h => h) (Or.inl ⟨by rfl, ?_⟩) hHeld ?_ ?_
      rotate_left
      ·rintro w' ⟨s0, s1, s2, s3, s4, s5, s6, s7, s8, s9⟩
       go_simp
       with_reducible rfl
      rotate_left
      ·simp only [Act.put, List.setIfInBounds_toArray, List.set_cons_zero, List.set_cons_succ, i64_w, i32_w]
       rfl
      refine pure_ (i := 7) (N := some 24) (v := ?_) (a' := ?_) #[true, true, true, true, true, true, true, true, false, false, true, false, true, false, false, false, true, false, false, false, false] rfl rfl (any_of HT_.1 (by kernel_rfl)) (fun _ _ _ h => h) (Or.inl ⟨by rfl, ?_⟩) ?_ ?_
      rotate_left
      ·intro w'
       go_simp
       with_reducible rfl
      rotate_left
      ·simp only [Act.put, List.setIfInBounds_toArray, List.set_cons_zero, List.set_cons_succ, i64_w, i32_w]
       rfl
      refine take_ (i := 8) (N := some 25) (v := ?_) (a' := ?_) #[true, true, true, true, true, true, true, true, true, false, true, false, true, false, false, false, true, false, false, false, false] rfl rfl (take_ofW HT_.1 HW_.1 (by kernel_rfl)) (fun _ _ _ h => h) (Or.inl ⟨by rfl, ?_⟩) hHeld ?_ ?_
      rotate_left
      ·rintro w' ⟨s0, s1, s2, s3, s4, s5, s6, s7, s8, s9⟩
       go_simp
       with_reducible rfl
      rotate_left
      ·simp only [Act.put, List.setIfInBounds_toArray, List.set_cons_zero, List.set_cons_succ, i64_w, i32_w]
       rfl
      refine take_ (i := 9) (N := some 26) (v := ?_) (a' := ?_) #[true, true, true, true, true, true, true, true, true, true, true, false, true, false, false, false, true, false, false, false, false] rfl rfl (take_ofW HT_.1 HW_.1 (by kernel_rfl)) (fun _ _ _ h => h) (Or.inl ⟨by rfl, ?_⟩) hHeld ?_ ?_
      rotate_left
      ·rintro w' ⟨s0, s1, s2, s3, s4, s5, s6, s7, s8, s9⟩
       go_simp
       with_reducible rfl
      rotate_left
      ·simp only [Act.put, List.setIfInBounds_toArray, List.set_cons_zero, List.set_cons_succ, i64_w, i32_w]
       rfl
      refine take_ (i := 11) (N := some 28) (v := ?_) (a' := ?_) #[true, true, true, true, true, true, true, true, true, true, true, true, true, false, false, false, true, false, false, false, false] rfl rfl (take_ofW HT_.1 HW_.1 (by kernel_rfl)) (fun _ _ _ h => h) (Or.inl ⟨by rfl, ?_⟩) hHeld ?_ ?_
      rotate_left
      ·rintro w' ⟨s0, s1, s2, s3, s4, s5, s6, s7, s8, s9⟩
       go_simp
       with_reducible rfl
      rotate_left
      ·simp only [Act.put, List.setIfInBounds_toArray, List.set_cons_zero, List.set_cons_succ, i64_w, i32_w]
       rfl
      refine take_ (i := 13) (N := some 30) (v := ?_) (a' := ?_) #[true, true, true, true, true, true, true, true, true, true, true, true, true, true, false, false, true, false, false, false, false] rfl rfl (take_ofW HT_.1 HW_.1 (by kernel_rfl)) (fun _ _ _ h => h) (Or.inl ⟨by rfl, ?_⟩) hHeld ?_ ?_
      rotate_left
      ·rintro w' ⟨s0, s1, s2, s3, s4, s5, s6, s7, s8, s9⟩
       go_simp
       with_reducible rfl
      rotate_left
      ·simp only [Act.put, List.setIfInBounds_toArray, List.set_cons_zero, List.set_cons_succ, i64_w, i32_w]
       rfl
      refine take_ (i := 17) (N := some 34) (v := ?_) (a' := ?_) #[true, true, true, true, true, true, true, true, true, true, true, true, true, true, false, false, true, true, false, false, false] rfl rfl (take_ofW HT_.1 HW_.1 (by kernel_rfl)) (fun _ _ _ h => h) (Or.inl ⟨by rfl, ?_⟩) hHeld ?_ ?_
      rotate_left
      ·rintro w' ⟨s0, s1, s2, s3, s4, s5, s6, s7, s8, s9⟩
       go_simp
       with_reducible rfl
      rotate_left
      ·simp only [Act.put, List.setIfInBounds_toArray, List.set_cons_zero, List.set_cons_succ, i64_w, i32_w]
       rfl
      refine one_ (i := 14) (N := some 31) #[true, true, true, true, true, true, true, true, true, true, true, true, true, true, true, false, true, true, false, false, false] rfl rfl (one_of HT_.1 (by kernel_rfl)) (by decide) (fun K hK => ?_)
      refine goes_ Try.func60 (by kernel_rfl) rfl #[.agg #[.int .i64 a0_0, .int .i64 a0_1, .slice A0_2 l0_2.length c0_2, .slice A0_3 l0_3.length c0_3], .agg #[.int .i64 a1_0, .int .i64 a1_1, .int .i64 a1_2], .int .i64 ((rd_T88 l3 0).f1), .int .i64 ((rd_T88 l3 0).f0)] (by rfl) rfl rfl (by (try simp only [List.map_toArray, List.map_cons, List.map_nil]); first | rfl ) ?_
      with_reducible refine (cipher_Book_code.calls a0_0 a0_1 _ _ l0_2 _ _ l0_3 a1_0 a1_1 a1_2 ((rd_T88 l3 0).f1) ((rd_T88 l3 0).f0) t121 _ ?side1 ?side2 ?side3 ?side4 A9.1).mono ?_
      (case side1 => repeat (first | exact (Kd.C_below HR0_2.1 HB.1) ))
      (case side2 => exact HC0_2.1)
      (case side3 => repeat (first | exact (Kd.C_below HR0_3.1 HB.1) ))
      (case side4 => exact HC0_3.1)
      rintro e w19 ⟨rfl, hb⟩
      refine ⟨_, rfl, ?_⟩
      have n0_ := Sd.mk (kB (g := gb116) (o := .cells #[.int .i64 a0_0, .int .i64 a0_1, .slice A0_2 l0_2.length c0_2, .slice A0_3 l0_3.length c0_3] 32 (0, 0)) (by (with_reducible repeat (fail)); exact BK116.1) hb)
      have n1_ := Sd.mk (kB (g := gb117) (o := .cells #[.int .i64 a1_0, .int .i64 a1_1, .int .i64 a1_2] 91 (0, 0)) (by (with_reducible repeat (fail)); exact BK117.1) hb)
      have n2_ := Sd.mk (kB (g := gb119) (o := .cells #[.int .i64 ((rd_T88 l3 0).f0), .int .i64 ((rd_T88 l3 0).f1)] 88 (0, 0)) (by (with_reducible repeat (fail)); exact BK119.1) hb)
      have n3_ := Sd.mk (bT (by repeat (first | (with_reducible first | exact HB.1 ) )) hb)
      clear BK116
      clear BK117
      clear BK119
      clear HB
      have BK116 := n0_
      have BK117 := n1_
      have BK119 := n2_
      have HB := n3_
      clear n0_ n1_ n2_ n3_
      (try clear hb)
      refine hK.out _ _ ⟨(kC BK119.1 0).trans rfl, (kC BK119.1 1).trans rfl, (kC BK116.1 0).trans rfl, (kC BK116.1 1).trans rfl, (kC BK116.1 2).trans rfl, (kC BK116.1 3).trans rfl, (kC BK117.1 0).trans rfl, (kC BK117.1 1).trans rfl, (kC BK117.1 2).trans rfl, ((HB.1.cell (World.block_lt_of_cell? w _ hw120_0)).trans hw120_0)⟩ (fun hHeld => ?_)
      clear hK K
      refine norm_ (a' := ?_) ?_ ?_
      rotate_left
      ·show Act.put _ (some 31) _ = _
       simp only [Act.put, List.setIfInBounds_toArray, List.set_cons_zero, List.set_cons_succ, i64_w, i32_w]
       rfl
      refine pure_ (i := 15) (N := some 32) (v := ?_) (a' := ?_) #[true, true, true, true, true, true, true, true, true, true, true, true, true, true, true, true, true, true, false, false, false] rfl rfl (any_of HT_.1 (by kernel_rfl)) (fun _ _ _ h => h) (Or.inl ⟨by rfl, ?_⟩) ?_ ?_
      rotate_left
      ·intro w'
       go_simp
       with_reducible rfl
      rotate_left
      ·simp only [Act.put, List.setIfInBounds_toArray, List.set_cons_zero, List.set_cons_succ, i64_w, i32_w]
       rfl
      refine pure_ (i := 18) (N := some 35) (v := ?_) (a' := ?_) #[true, true, true, true, true, true, true, true, true, true, true, true, true, true, true, true, true, true, true, false, false] rfl rfl (any_of HT_.1 (by kernel_rfl)) (fun _ _ _ h => h) (Or.inl ⟨by rfl, ?_⟩) ?_ ?_
      rotate_left
      ·intro w'
       go_simp
       with_reducible rfl
      rotate_left
      ·simp only [Act.put, List.setIfInBounds_toArray, List.set_cons_zero, List.set_cons_succ, i64_w, i32_w]
       rfl
      refine one_ (i := 19) (N := some 36) #[true, true, true, true, true, true, true, true, true, true, true, true, true, true, true, true, true, true, true, true, false] rfl rfl (one_of HT_.1 (by kernel_rfl)) (by decide) (fun K hK => ?_)
      refine Kd.R_lit_step (Kd.int .i64) _ 3 ?hg (N := 36) ?hd (xs := ([Int.tmod (wrap64 ((wrap64 ((rd l2 ((rd_T88 l3 0).f0)) + a0_0)) - t121)) a0_0] : List Int)) (inner := [.int .i64 (Int.tmod (wrap64 ((wrap64 ((rd l2 ((rd_T88 l3 0).f0)) + a0_0)) - t121)) a0_0)]) (ok := fun _ => True) (okp := fun _ => True) ?hr ?hp (fun _ hk => hk) trivial (Below.refl _ _) (Nat.le_refl _) (by simp) ?_; (case hd => rfl); (case hg => rfl); (case hr => first | (go_simp; done) ); (case hp => exact (Reps.one (show Kd.M (Kd.int .i64) _ _ _ (Int.tmod (wrap64 ((wrap64 ((rd l2 ((rd_T88 l3 0).f0)) + a0_0)) - t121)) a0_0) [.int .i64 (Int.tmod (wrap64 ((wrap64 ((rd l2 ((rd_T88 l3 0).f0)) + a0_0)) - t121)) a0_0)] from rfl) (Reps.none _ _)))
      intro v123 w20 ho21 hb hg_ hnew_
      clear hg_ hnew_
      (rw [← Ny122.1] at ho21 )
      have n0_ := Sd.mk (Kd.R_lower ho21 (bZ (by repeat (first | (with_reducible first | exact HB.1 ) ))))
      have n1_ := Sd.mk (kB (g := gb116) (o := .cells #[.int .i64 a0_0, .int .i64 a0_1, .slice A0_2 l0_2.length c0_2, .slice A0_3 l0_3.length c0_3] 32 (0, 0)) (by (with_reducible repeat (fail)); exact BK116.1) hb)
      have n2_ := Sd.mk (kB (g := gb117) (o := .cells #[.int .i64 a1_0, .int .i64 a1_1, .int .i64 a1_2] 91 (0, 0)) (by (with_reducible repeat (fail)); exact BK117.1) hb)
      have n3_ := Sd.mk (kB (g := gb119) (o := .cells #[.int .i64 ((rd_T88 l3 0).f0), .int .i64 ((rd_T88 l3 0).f1)] 88 (0, 0)) (by (with_reducible repeat (fail)); exact BK119.1) hb)
      have n4_ := Sd.mk (bT (by repeat (first | (with_reducible first | exact HB.1 ) )) hb)
      clear BK116
      clear BK117
      clear BK119
      clear HB
      have HO124 := n0_
      have BK116 := n1_
      have BK117 := n2_
      have BK119 := n3_
      have HB := n4_
      clear n0_ n1_ n2_ n3_ n4_
      clear hb ho21
      refine hK.out _ _ ⟨(kC BK119.1 0).trans rfl, (kC BK119.1 1).trans rfl, (kC BK116.1 0).trans rfl, (kC BK116.1 1).trans rfl, (kC BK116.1 2).trans rfl, (kC BK116.1 3).trans rfl, (kC BK117.1 0).trans rfl, (kC BK117.1 1).trans rfl, (kC BK117.1 2).trans rfl, ((HB.1.cell (World.block_lt_of_cell? w _ hw120_0)).trans hw120_0)⟩ (fun hHeld => ?_)
      clear hK K
      refine norm_ (a' := ?_) ?_ ?_
      rotate_left
      ·show Act.put _ (some 36) _ = _
       simp only [Act.put, List.setIfInBounds_toArray, List.set_cons_zero, List.set_cons_succ, i64_w, i32_w]
       rfl
      refine pure_ (i := 20) (N := some 8) (v := ?_) (a' := ?_) #[true, true, true, true, true, true, true, true, true, true, true, true, true, true, true, true, true, true, true, true, true] rfl rfl (any_of HT_.1 (by kernel_rfl)) (fun _ _ _ h => h) (Or.inl ⟨by rfl, ?_⟩) ?_ ?_
      rotate_left
      ·intro w'
       go_simp
       with_reducible rfl
      rotate_left
      ·simp only [Act.put, List.setIfInBounds_toArray, List.set_cons_zero, List.set_cons_succ, i64_w, i32_w]
       rfl
      refine done_ (done_of HT_.1 (by kernel_rfl)) ?_
      try go_wp2
      go_ret
      exact ⟨_, by first | rfl , by (with_reducible repeat (fail)); exact HO124.1, by repeat (first | (with_reducible first | exact HB.1 ) )⟩
    ·rw [if_neg c8] at H
     exact absurd H (by simp)
   ·rw [if_neg c7] at H
    exact absurd H (by simp)
  ·rw [if_neg c6] at H
   exact absurd H (by simp)
 ·rw [if_neg c5] at H
  have c5b0 : decide (0 < (l3.length : Int)) = false := decide_eq_false c5
  have c5b1 : decide (0 < l3.length) = false := decide_eq_false (by omega)
  clear c5
  have H' := Sd.mk H
  clear H
  go_enter Try.func97, Try.ntmps97
  go_wp2_with (first | ((with_reducible refine gD (N := 4) rfl ?_); refine xE ?hg (N := 4) ?hd (cs := #[.int .i64 a0_0, .int .i64 a0_1, .slice A0_2 l0_2.length c0_2, .slice A0_3 l0_3.length c0_3]) (t := 32) ?hr ?_; (case hd => rfl); (case hg => rfl); (case hr => first | (go_simp; done) ); intro gb116 hg w22 hbox hb; have BK116 := Sd.mk (hbox); have GW116 := Sd.mk ((by rw [hg]; exact (bZ (by repeat (first | (with_reducible first | exact HB.1 ) ))) : w.heap.size ≤ gb116)); have GE116 := Sd.mk ((by rw [hg]; exact (bZ (by repeat (first | (with_reducible first | exact HB.1 ) ))) : w.heap.size ≤ gb116)); replace HB := Sd.mk (bT (by repeat (first | (with_reducible first | exact HB.1 ) )) hb); clear hb hbox hg) | ((with_reducible refine gD (N := 5) rfl ?_); refine xE ?hg (N := 5) ?hd (cs := #[.int .i64 a1_0, .int .i64 a1_1, .int .i64 a1_2]) (t := 91) ?hr ?_; (case hd => rfl); (case hg => rfl); (case hr => first | (go_simp; done) ); intro gb117 hg w23 hbox hb; have BK117 := Sd.mk (hbox); have GW117 := Sd.mk ((by rw [hg]; exact (bZ (by repeat (first | (with_reducible first | exact HB.1 ) ))) : w.heap.size ≤ gb117)); have GE117 := Sd.mk ((by rw [hg]; exact (bZ (by repeat (first | (with_reducible first | exact HB.1 ) ))) : w.heap.size ≤ gb117)); replace HB := Sd.mk (bT (by repeat (first | (with_reducible first | exact HB.1 ) )) hb); have NB116_117 := Sd.mk ((by rw [hg]; exact Nat.ne_of_lt (blk_lt (g := gb116) (o := .cells #[.int .i64 a0_0, .int .i64 a0_1, .slice A0_2 l0_2.length c0_2, .slice A0_3 l0_3.length c0_3] 32 (0, 0)) (by (with_reducible repeat (fail)); exact BK116.1)) : gb116 ≠ gb117)); have NB117_116 := Sd.mk ((by rw [hg]; exact Nat.ne_of_gt (blk_lt (g := gb116) (o := .cells #[.int .i64 a0_0, .int .i64 a0_1, .slice A0_2 l0_2.length c0_2, .slice A0_3 l0_3.length c0_3] 32 (0, 0)) (by (with_reducible repeat (fail)); exact BK116.1)) : gb117 ≠ gb116)); replace BK116 := Sd.mk (kB (g := gb116) (o := .cells #[.int .i64 a0_0, .int .i64 a0_1, .slice A0_2 l0_2.length c0_2, .slice A0_3 l0_3.length c0_3] 32 (0, 0)) (by (with_reducible repeat (fail)); exact BK116.1) hb); clear hb hbox hg; have hnb24 := NB116_117.1; have hnc24 := NB117_116.1; have z_25_0 : w23.cell? ⟨gb116, 0, none⟩ = some (.int .i64 a0_0) := (kC BK116.1 0).trans rfl))
  go_loopg [8, 39] k (fun kq v8 v39 w' => ∃ (x8_1 : List Int) (x39_1 : Int), v39 = .int .i64 x39_1 ∧ Sd (cipher_Book_adds.l0 kq x8_1 a0_0 x39_1 = some r) ∧ Sd (kq ≤ k) ∧ Sd (Kd.R (Kd.int .i64) 3 w' w.heap.size (fun _ => True) v8 x8_1) ∧ Sd (w'.heap[gb116]? = some (.cells #[.int .i64 a0_0, .int .i64 a0_1, (.slice A0_2 l0_2.length c0_2), (.slice A0_3 l0_3.length c0_3)] 32 (0, 0))) ∧ Sd (w'.heap[gb117]? = some (.cells #[.int .i64 a1_0, .int .i64 a1_1, .int .i64 a1_2] 91 (0, 0))) ∧ Sd (Below w.heap.size w w'))
  case atStart => exact ⟨(([] : List Int)), (0), (by first | rfl ), H', ⟨Nat.le_refl _⟩, ⟨by first | exact Kd.R_nil _ _ _ _ _ ⟩, ⟨by (with_reducible repeat (fail)); exact BK116.1⟩, ⟨by (with_reducible repeat (fail)); exact BK117.1⟩, ⟨by repeat (first | (with_reducible first | exact HB.1 ) )⟩⟩
  case round =>
   clear H'
   clear c5b0 c5b1
   clear z_25_0
   obtain ⟨x8_1, x39_1, rfl, HA, HK1, HO_8, BK116, BK117, HB⟩ := hrel
   cases gk with
   | zero => exact absurd HA.1 (by simp [cipher_Book_adds.l0])
   | succ k1 =>
    have H := HA.1
    clear HA
    simp only [cipher_Book_adds.l0] at H
    by_cases c26 : x39_1 < a0_0
    ·rw [if_pos c26] at H
     have c26b0 : decide (x39_1 < a0_0) = true := decide_eq_true c26
     clear c26
     by_cases c27 : x8_1.length < 17592186044416
     ·rw [if_pos c27] at H
      have LMc27 := Sd.mk c27
      clear c27
      obtain ⟨y125, hy125⟩ : ∃ y_ : List Int, y_ = (x8_1 ++ [x39_1]) := ⟨_, rfl⟩
      replace H : (cipher_Book_adds.l0 k1 y125 a0_0 (wrap64 (x39_1 + 1))) = some r := by first | (rw [hy125]; with_reducible exact H) 
      have Ny125 := Sd.mk hy125
      clear hy125
      have H' := Sd.mk H
      clear H
      go_wp2_with (first | ((with_reducible refine gate_builtin (b := .append) (xs := #[.tmp 42, .tmp 44]) rfl ?_); at_builtin; refine Kd.R_append (Kd.int .i64) (w0 := w) w.heap.size rfl (.tmp 42) (.tmp 44) 23 3 (.int .i64 0) 8 rfl Try.underlying23 info3 rfl (by decide) (by omega) u8 x8_1 x39_1 [.int .i64 x39_1] (fun _ => True) (fun _ => False) rfl rfl ?aP (fun _ hk => hk.elim) ?aF ?aO ?aB ?aS ?aL ?_; (case aP => exact rfl); (case aB => exact (by repeat (first | (with_reducible first | exact HB.1 ) ))); (case aF => exact (fun _ _ => trivial)); (case aO => exact (by (with_reducible repeat (fail)); exact HO_8.1)); (case aS => exact (bZ (by repeat (first | (with_reducible first | exact HB.1 ) )))); (case aL => have := LMc27.1; omega); intro v126 w28 ho hb hg hat; rw [← Ny125.1] at ho; replace BK116 := Sd.mk (blk_grown (g := gb116) (o := .cells #[.int .i64 a0_0, .int .i64 a0_1, .slice A0_2 l0_2.length c0_2, .slice A0_3 l0_3.length c0_3] 32 (0, 0)) (by (with_reducible repeat (fail)); exact BK116.1) hg (Kd.R_ne HO_8.1 BK116.1 (by decide))); replace BK117 := Sd.mk (blk_grown (g := gb117) (o := .cells #[.int .i64 a1_0, .int .i64 a1_1, .int .i64 a1_2] 91 (0, 0)) (by (with_reducible repeat (fail)); exact BK117.1) hg (Kd.R_ne HO_8.1 BK117.1 (by decide))); replace HB := Sd.mk (hb); have HO127 := Sd.mk (ho); clear HO_8; clear ho hb hg hat))
      go_roundg k1
      case measure => have := HK1.1; omega
      case rel => exact ⟨(y125), (wrap64 (x39_1 + 1)), (by first | rfl ), H', ⟨by have := HK1.1; omega⟩, ⟨by (with_reducible repeat (fail)); exact HO127.1⟩, ⟨by (with_reducible repeat (fail)); exact BK116.1⟩, ⟨by (with_reducible repeat (fail)); exact BK117.1⟩, ⟨by repeat (first | (with_reducible first | exact HB.1 ) )⟩⟩
     ·rw [if_neg c27] at H
      exact absurd H (by simp)
    ·rw [if_neg c26] at H
     have c26b0 : decide (x39_1 < a0_0) = false := decide_eq_false c26
     clear c26
     obtain rfl := Option.some.inj H
     go_wp2
     go_ret
     exact ⟨_, by first | rfl , by (with_reducible repeat (fail)); exact HO_8.1, by repeat (first | (with_reducible first | exact HB.1 ) )⟩
def cipher_had.l0 : Nat → Int → Int → List (S110) → Int → Int → Option (Int)
 | 0, _, _, _, _, _ => none
 | k + 1, x1, x5, x8, x9, x10 => if x10 < x9 then (if 0 ≤ x10 then (if x10 < (x8.length : Int) then (if ((rd_T110 x8 x10).f0) = x1 then (if x5 = (-1) then (cipher_had.l0 k x1 ((rd_T110 x8 x10).f1) x8 x9 (wrap64 (x10 + 1))) else (if ((rd_T110 x8 x10).f1) < x5 then (cipher_had.l0 k x1 ((rd_T110 x8 x10).f1) x8 x9 (wrap64 (x10 + 1))) else (cipher_had.l0 k x1 x5 x8 x9 (wrap64 (x10 + 1))))) else (cipher_had.l0 k x1 x5 x8 x9 (wrap64 (x10 + 1)))) else (none)) else (none)) else (some x5)
def cipher_had.f (k : Nat) (l0 : List (S110)) (a1 : Int) : Option (Int) := cipher_had.l0 k a1 (-1) l0 (l0.length : Int) 0
set_option maxHeartbeats 8000000 in
set_option maxRecDepth 100000 in
theorem cipher_had.calls (k : Nat) (A0 : Option Addr) (c0 : Nat) (l0 : List (S110)) (a1 : Int) (r : Int) (w : World) (hr0 : Kd.C k110 w A0 l0.length l0) (hc0 : l0.length ≤ c0) (h : cipher_had.f k l0 a1 = some r) :
  Calls Try.prog 72 #[.slice A0 l0.length c0, .int .i64 a1] w fun e w' => e = .returned (.int .i64 r) ∧ Below w.heap.size w w' := by
 have hu110 := Try.underlying110
 have HR0 := Sd.mk hr0
 have HC0 := Sd.mk hc0
 clear hr0 hc0
 have HB := Sd.mk (Below.refl w.heap.size w)
 have H : (cipher_had.l0 k a1 (-1) l0 (l0.length : Int) 0) = some r := h
 clear h
 have H' := Sd.mk H
 clear H
 go_enter Try.func72, Try.ntmps72
 go_wp2
 go_loopg [5, 10] k (fun kq v5 v10 w' => ∃ (x5_1 : Int) (x10_1 : Int), v5 = .int .i64 x5_1 ∧ v10 = .int .i64 x10_1 ∧ Sd (cipher_had.l0 kq a1 x5_1 l0 (l0.length : Int) x10_1 = some r) ∧ Sd (kq ≤ k) ∧ Sd (Below w.heap.size w w'))
 case atStart => exact ⟨((-1)), (0), (by first | rfl ), (by first | rfl ), H', ⟨Nat.le_refl _⟩, ⟨by repeat (first | (with_reducible first | exact HB.1 ) )⟩⟩
 case round =>
  clear H'
  obtain ⟨x5_1, x10_1, rfl, rfl, HA, HK1, HB⟩ := hrel
  cases gk with
  | zero => exact absurd HA.1 (by simp [cipher_had.l0])
  | succ k1 =>
   have H := HA.1
   clear HA
   simp only [cipher_had.l0] at H
   by_cases c3 : x10_1 < (l0.length : Int)
   ·rw [if_pos c3] at H
    have c3b0 : decide (x10_1 < (l0.length : Int)) = true := decide_eq_true c3
    clear c3
    by_cases c4 : 0 ≤ x10_1
    ·rw [if_pos c4] at H
     have c4b0 : decide (0 ≤ x10_1) = true := decide_eq_true c4
     clear c4
     by_cases c5 : x10_1 < (l0.length : Int)
     ·rw [if_pos c5] at H
      have c5b0 : decide (x10_1 < (l0.length : Int)) = true := decide_eq_true c5
      clear c5
      by_cases c6 : ((rd_T110 l0 x10_1).f0) = a1
      ·rw [if_pos c6] at H
       have c6b0 : (((rd_T110 l0 x10_1).f0) == a1) = true := beq_iff_eq.mpr c6
       have c6b1 : (((rd_T110 l0 x10_1).f0) != a1) = false := bne_eq_false_iff_eq.mpr c6
       clear c6
       by_cases c7 : x5_1 = (-1)
       ·rw [if_pos c7] at H
        have c7b0 : (x5_1 == (-1)) = true := beq_iff_eq.mpr c7
        have c7b1 : (x5_1 != (-1)) = false := bne_eq_false_iff_eq.mpr c7
        clear c7
        have H' := Sd.mk H
        clear H
        have p131 : 0 ≤ (x10_1 : Int) := of_decide_eq_true (by first | (with_reducible assumption) )
        have q131 : x10_1 < (l0.length : Int) := of_decide_eq_true (by first | (with_reducible assumption) )
        obtain ⟨ad131, e131, hx131_0, hx131_1⟩ := at_T110 HR0.1 x10_1 p131 q131
        cases e131
        replace hx131_0 := (HB.1.cell (World.block_lt_of_cell? w _ hx131_0)).trans hx131_0
        replace hx131_1 := (HB.1.cell (World.block_lt_of_cell? w _ hx131_1)).trans hx131_1
        replace p131 := eq_true p131
        replace q131 := eq_true q131
        go_wp2_with (first | ((with_reducible refine gD (N := 7) rfl ?_); refine xE ?hg (N := 7) ?hd (cs := #[.int .i64 0, .int .i64 0]) (t := 110) ?hr ?_; (case hd => rfl); (case hg => rfl); (case hr => first | (go_simp; done) ); intro gb132 hg w8 hbox hb; have BK132 := Sd.mk (hbox); have GW132 := Sd.mk ((by rw [hg]; exact (bZ (by repeat (first | (with_reducible first | exact HB.1 ) ))) : w.heap.size ≤ gb132)); have GE132 := Sd.mk ((by rw [hg]; exact (bZ (by repeat (first | (with_reducible first | exact HB.1 ) ))) : w.heap.size ≤ gb132)); replace HB := Sd.mk (bT (by repeat (first | (with_reducible first | exact HB.1 ) )) hb); clear hb hbox hg; have z_9_0 : w8.cell? ⟨gb132, 0, none⟩ = some (.int .i64 0) := (kC BK132.1 0).trans rfl; have z_9_1 : w8.cell? ⟨gb132, 1, none⟩ = some (.int .i64 0) := (kC BK132.1 1).trans rfl; have hfz9_0 := kF BK132.1 0; have hfz9_1 := kF BK132.1 1))
        go_roundg k1
        case measure => have := HK1.1; omega
        case rel => exact ⟨((rd_T110 l0 x10_1).f1), (wrap64 (x10_1 + 1)), (by first | rfl ), (by first | rfl ), H', ⟨by have := HK1.1; omega⟩, ⟨by repeat (first | (with_reducible first | exact HB.1 | refine bS ?_ GE132.1) )⟩⟩
       ·rw [if_neg c7] at H
        have c7b0 : (x5_1 == (-1)) = false := beq_eq_false_iff_ne.mpr c7
        have c7b1 : (x5_1 != (-1)) = true := bne_iff_ne.mpr c7
        by_cases c10 : ((rd_T110 l0 x10_1).f1) < x5_1
        ·rw [if_pos c10] at H
         have c10b0 : decide (((rd_T110 l0 x10_1).f1) < x5_1) = true := decide_eq_true c10
         clear c10
         have H' := Sd.mk H
         clear H
         have p131 : 0 ≤ (x10_1 : Int) := of_decide_eq_true (by first | (with_reducible assumption) )
         have q131 : x10_1 < (l0.length : Int) := of_decide_eq_true (by first | (with_reducible assumption) )
         obtain ⟨ad131, e131, hx131_0, hx131_1⟩ := at_T110 HR0.1 x10_1 p131 q131
         cases e131
         replace hx131_0 := (HB.1.cell (World.block_lt_of_cell? w _ hx131_0)).trans hx131_0
         replace hx131_1 := (HB.1.cell (World.block_lt_of_cell? w _ hx131_1)).trans hx131_1
         replace p131 := eq_true p131
         replace q131 := eq_true q131
         go_wp2_with (first | ((with_reducible refine gD (N := 7) rfl ?_); refine xE ?hg (N := 7) ?hd (cs := #[.int .i64 0, .int .i64 0]) (t := 110) ?hr ?_; (case hd => rfl); (case hg => rfl); (case hr => first | (go_simp; done) ); intro gb132 hg w11 hbox hb; have BK132 := Sd.mk (hbox); have GW132 := Sd.mk ((by rw [hg]; exact (bZ (by repeat (first | (with_reducible first | exact HB.1 ) ))) : w.heap.size ≤ gb132)); have GE132 := Sd.mk ((by rw [hg]; exact (bZ (by repeat (first | (with_reducible first | exact HB.1 ) ))) : w.heap.size ≤ gb132)); replace HB := Sd.mk (bT (by repeat (first | (with_reducible first | exact HB.1 ) )) hb); clear hb hbox hg; have z_12_0 : w11.cell? ⟨gb132, 0, none⟩ = some (.int .i64 0) := (kC BK132.1 0).trans rfl; have z_12_1 : w11.cell? ⟨gb132, 1, none⟩ = some (.int .i64 0) := (kC BK132.1 1).trans rfl; have hfz12_0 := kF BK132.1 0; have hfz12_1 := kF BK132.1 1))
         go_roundg k1
         case measure => have := HK1.1; omega
         case rel => exact ⟨((rd_T110 l0 x10_1).f1), (wrap64 (x10_1 + 1)), (by first | rfl ), (by first | rfl ), H', ⟨by have := HK1.1; omega⟩, ⟨by repeat (first | (with_reducible first | exact HB.1 | refine bS ?_ GE132.1) )⟩⟩
        ·rw [if_neg c10] at H
         have c10b0 : decide (((rd_T110 l0 x10_1).f1) < x5_1) = false := decide_eq_false c10
         clear c10
         have H' := Sd.mk H
         clear H
         have p131 : 0 ≤ (x10_1 : Int) := of_decide_eq_true (by first | (with_reducible assumption) )
         have q131 : x10_1 < (l0.length : Int) := of_decide_eq_true (by first | (with_reducible assumption) )
         obtain ⟨ad131, e131, hx131_0, hx131_1⟩ := at_T110 HR0.1 x10_1 p131 q131
         cases e131
         replace hx131_0 := (HB.1.cell (World.block_lt_of_cell? w _ hx131_0)).trans hx131_0
         replace hx131_1 := (HB.1.cell (World.block_lt_of_cell? w _ hx131_1)).trans hx131_1
         replace p131 := eq_true p131
         replace q131 := eq_true q131
         go_wp2_with (first | ((with_reducible refine gD (N := 7) rfl ?_); refine xE ?hg (N := 7) ?hd (cs := #[.int .i64 0, .int .i64 0]) (t := 110) ?hr ?_; (case hd => rfl); (case hg => rfl); (case hr => first | (go_simp; done) ); intro gb132 hg w13 hbox hb; have BK132 := Sd.mk (hbox); have GW132 := Sd.mk ((by rw [hg]; exact (bZ (by repeat (first | (with_reducible first | exact HB.1 ) ))) : w.heap.size ≤ gb132)); have GE132 := Sd.mk ((by rw [hg]; exact (bZ (by repeat (first | (with_reducible first | exact HB.1 ) ))) : w.heap.size ≤ gb132)); replace HB := Sd.mk (bT (by repeat (first | (with_reducible first | exact HB.1 ) )) hb); clear hb hbox hg; have z_14_0 : w13.cell? ⟨gb132, 0, none⟩ = some (.int .i64 0) := (kC BK132.1 0).trans rfl; have z_14_1 : w13.cell? ⟨gb132, 1, none⟩ = some (.int .i64 0) := (kC BK132.1 1).trans rfl; have hfz14_0 := kF BK132.1 0; have hfz14_1 := kF BK132.1 1))
         go_roundg k1
         case measure => have := HK1.1; omega
         case rel => exact ⟨(x5_1), (wrap64 (x10_1 + 1)), (by first | rfl ), (by first | rfl ), H', ⟨by have := HK1.1; omega⟩, ⟨by repeat (first | (with_reducible first | exact HB.1 | refine bS ?_ GE132.1) )⟩⟩
      ·rw [if_neg c6] at H
       have c6b0 : (((rd_T110 l0 x10_1).f0) == a1) = false := beq_eq_false_iff_ne.mpr c6
       have c6b1 : (((rd_T110 l0 x10_1).f0) != a1) = true := bne_iff_ne.mpr c6
       have H' := Sd.mk H
       clear H
       have p131 : 0 ≤ (x10_1 : Int) := of_decide_eq_true (by first | (with_reducible assumption) )
       have q131 : x10_1 < (l0.length : Int) := of_decide_eq_true (by first | (with_reducible assumption) )
       obtain ⟨ad131, e131, hx131_0, hx131_1⟩ := at_T110 HR0.1 x10_1 p131 q131
       cases e131
       replace hx131_0 := (HB.1.cell (World.block_lt_of_cell? w _ hx131_0)).trans hx131_0
       replace hx131_1 := (HB.1.cell (World.block_lt_of_cell? w _ hx131_1)).trans hx131_1
       replace p131 := eq_true p131
       replace q131 := eq_true q131
       go_wp2_with (first | ((with_reducible refine gD (N := 7) rfl ?_); refine xE ?hg (N := 7) ?hd (cs := #[.int .i64 0, .int .i64 0]) (t := 110) ?hr ?_; (case hd => rfl); (case hg => rfl); (case hr => first | (go_simp; done) ); intro gb132 hg w15 hbox hb; have BK132 := Sd.mk (hbox); have GW132 := Sd.mk ((by rw [hg]; exact (bZ (by repeat (first | (with_reducible first | exact HB.1 ) ))) : w.heap.size ≤ gb132)); have GE132 := Sd.mk ((by rw [hg]; exact (bZ (by repeat (first | (with_reducible first | exact HB.1 ) ))) : w.heap.size ≤ gb132)); replace HB := Sd.mk (bT (by repeat (first | (with_reducible first | exact HB.1 ) )) hb); clear hb hbox hg; have z_16_0 : w15.cell? ⟨gb132, 0, none⟩ = some (.int .i64 0) := (kC BK132.1 0).trans rfl; have z_16_1 : w15.cell? ⟨gb132, 1, none⟩ = some (.int .i64 0) := (kC BK132.1 1).trans rfl; have hfz16_0 := kF BK132.1 0; have hfz16_1 := kF BK132.1 1))
       go_roundg k1
       case measure => have := HK1.1; omega
       case rel => exact ⟨(x5_1), (wrap64 (x10_1 + 1)), (by first | rfl ), (by first | rfl ), H', ⟨by have := HK1.1; omega⟩, ⟨by repeat (first | (with_reducible first | exact HB.1 | refine bS ?_ GE132.1) )⟩⟩
     ·rw [if_neg c5] at H
      exact absurd H (by simp)
    ·rw [if_neg c4] at H
     exact absurd H (by simp)
   ·rw [if_neg c3] at H
    have c3b0 : decide (x10_1 < (l0.length : Int)) = false := decide_eq_false c3
    clear c3
    obtain rfl := Option.some.inj H
    go_wp2
    go_ret
    exact ⟨by first | rfl , by repeat (first | (with_reducible first | exact HB.1 ) )⟩
def cipher_Book_day.f (a0_0 : Int) (a0_1 : Int) (l0_2 : List (S91)) (l0_3 : List Int) (a1 : Int) : Option (Bool) := (cipher_within.f a1 0 (wrap64 ((l0_3.length : Int) - 1))).bind fun t134 => (some t134)
set_option maxHeartbeats 8000000 in
set_option maxRecDepth 100000 in
theorem cipher_Book_day.calls (a0_0 : Int) (a0_1 : Int) (A0_2 : Option Addr) (c0_2 : Nat) (l0_2 : List (S91)) (A0_3 : Option Addr) (c0_3 : Nat) (l0_3 : List Int) (a1 : Int) (r : Bool) (w : World) (hr0_2 : Kd.C k91 w A0_2 l0_2.length l0_2) (hc0_2 : l0_2.length ≤ c0_2) (hr0_3 : Kd.C (Kd.int .i64) w A0_3 l0_3.length l0_3) (hc0_3 : l0_3.length ≤ c0_3) (h : cipher_Book_day.f a0_0 a0_1 l0_2 l0_3 a1 = some r) :
  Calls Try.prog 56 #[.agg #[.int .i64 a0_0, .int .i64 a0_1, .slice A0_2 l0_2.length c0_2, .slice A0_3 l0_3.length c0_3], .int .i64 a1] w fun e w' => e = .returned (.bool r) ∧ Below w.heap.size w w' := by
 have hu32 := Try.underlying32
 have HR0_2 := Sd.mk hr0_2
 have HC0_2 := Sd.mk hc0_2
 clear hr0_2 hc0_2
 have HR0_3 := Sd.mk hr0_3
 have HC0_3 := Sd.mk hc0_3
 clear hr0_3 hc0_3
 have HB := Sd.mk (Below.refl w.heap.size w)
 have H : ((cipher_within.f a1 0 (wrap64 ((l0_3.length : Int) - 1))).bind fun t134 => (some t134)) = some r := h
 clear h
 obtain ⟨t134, A30, H⟩ := Option.bind_eq_some_iff.mp H
 have A3 := Sd.mk A30
 clear A30
 obtain rfl := Option.some.inj H
 go_enter Try.func56, Try.ntmps56
 go_wp2_with (first | ((with_reducible refine gD (N := 2) rfl ?_); refine xE ?hg (N := 2) ?hd (cs := #[.int .i64 a0_0, .int .i64 a0_1, .slice A0_2 l0_2.length c0_2, .slice A0_3 l0_3.length c0_3]) (t := 32) ?hr ?_; (case hd => rfl); (case hg => rfl); (case hr => first | (go_simp; done) ); intro gb133 hg w4 hbox hb; have BK133 := Sd.mk (hbox); have GW133 := Sd.mk ((by rw [hg]; exact (bZ (by repeat (first | (with_reducible first | exact HB.1 ) ))) : w.heap.size ≤ gb133)); have GE133 := Sd.mk ((by rw [hg]; exact (bZ (by repeat (first | (with_reducible first | exact HB.1 ) ))) : w.heap.size ≤ gb133)); replace HB := Sd.mk (bT (by repeat (first | (with_reducible first | exact HB.1 ) )) hb); clear hb hbox hg; have z_5_3 : w4.cell? ⟨gb133, 3, none⟩ = some (.slice A0_3 l0_3.length c0_3) := (kC BK133.1 3).trans rfl) | ((with_reducible refine gate_callee (f := 51) rfl ?_); refine goesL_ (some 10) rfl rfl Try.func51 (by kernel_rfl) rfl #[.int .i64 a1, .int .i64 0, .int .i64 (wrap64 ((l0_3.length : Int) - 1))] rfl (by (try simp only [List.map_toArray, List.map_cons, List.map_nil]); first | rfl ) ?_; (with_reducible refine (cipher_within.calls a1 0 (wrap64 ((l0_3.length : Int) - 1)) t134 _ A3.1).mono ?_); rintro e w' ⟨rfl, ⟨nd, rfl⟩⟩; refine ⟨_, rfl, ?_⟩))
 go_ret
 exact ⟨by first | rfl , by repeat (first | (with_reducible first | exact HB.1 | apply bN ) )⟩
def cipher_Book_indicator.f (a0_0 : Int) (a0_1 : Int) (l0_2 : List (S91)) (l0_3 : List Int) (a1 : Int) : Option (Int) := if 0 ≤ a1 then (if a1 < (l0_3.length : Int) then (if (l0_2.length : Int) = 0 then (none) else (some (Int.tmod (wrap64 ((rd l0_3 a1) + a1)) (l0_2.length : Int)))) else (none)) else (none)
set_option maxHeartbeats 8000000 in
set_option maxRecDepth 100000 in
theorem cipher_Book_indicator.calls (a0_0 : Int) (a0_1 : Int) (A0_2 : Option Addr) (c0_2 : Nat) (l0_2 : List (S91)) (A0_3 : Option Addr) (c0_3 : Nat) (l0_3 : List Int) (a1 : Int) (r : Int) (w : World) (hr0_2 : Kd.C k91 w A0_2 l0_2.length l0_2) (hc0_2 : l0_2.length ≤ c0_2) (hr0_3 : Kd.C (Kd.int .i64) w A0_3 l0_3.length l0_3) (hc0_3 : l0_3.length ≤ c0_3) (h : cipher_Book_indicator.f a0_0 a0_1 l0_2 l0_3 a1 = some r) :
  Calls Try.prog 58 #[.agg #[.int .i64 a0_0, .int .i64 a0_1, .slice A0_2 l0_2.length c0_2, .slice A0_3 l0_3.length c0_3], .int .i64 a1] w fun e w' => e = .returned (.int .i64 r) ∧ Below w.heap.size w w' := by
 have hu32 := Try.underlying32
 have HR0_2 := Sd.mk hr0_2
 have HC0_2 := Sd.mk hc0_2
 clear hr0_2 hc0_2
 have HR0_3 := Sd.mk hr0_3
 have HC0_3 := Sd.mk hc0_3
 clear hr0_3 hc0_3
 have HB := Sd.mk (Below.refl w.heap.size w)
 have H : (if 0 ≤ a1 then (if a1 < (l0_3.length : Int) then (if (l0_2.length : Int) = 0 then (none) else (some (Int.tmod (wrap64 ((rd l0_3 a1) + a1)) (l0_2.length : Int)))) else (none)) else (none)) = some r := h
 clear h
 by_cases c3 : 0 ≤ a1
 ·rw [if_pos c3] at H
  have c3b0 : decide (0 ≤ a1) = true := decide_eq_true c3
  clear c3
  by_cases c4 : a1 < (l0_3.length : Int)
  ·rw [if_pos c4] at H
   have c4b0 : decide (a1 < (l0_3.length : Int)) = true := decide_eq_true c4
   clear c4
   by_cases c5 : (l0_2.length : Int) = 0
   ·rw [if_pos c5] at H
    exact absurd H (by simp)
   ·rw [if_neg c5] at H
    have c5b0 : ((l0_2.length : Int) == 0) = false := beq_eq_false_iff_ne.mpr c5
    have c5b1 : ((l0_2.length : Int) != 0) = true := bne_iff_ne.mpr c5
    have c5b2 : ¬ (l0_2 = []) := fun h_ => c5 (by rw [h_]; rfl)
    obtain rfl := Option.some.inj H
    go_enter Try.func58, Try.ntmps58
    go_wp2_with (first | ((with_reducible refine gD (N := 2) rfl ?_); refine xE ?hg (N := 2) ?hd (cs := #[.int .i64 a0_0, .int .i64 a0_1, .slice A0_2 l0_2.length c0_2, .slice A0_3 l0_3.length c0_3]) (t := 32) ?hr ?_; (case hd => rfl); (case hg => rfl); (case hr => first | (go_simp; done) ); intro gb135 hg w6 hbox hb; have BK135 := Sd.mk (hbox); have GW135 := Sd.mk ((by rw [hg]; exact (bZ (by repeat (first | (with_reducible first | exact HB.1 ) ))) : w.heap.size ≤ gb135)); have GE135 := Sd.mk ((by rw [hg]; exact (bZ (by repeat (first | (with_reducible first | exact HB.1 ) ))) : w.heap.size ≤ gb135)); replace HB := Sd.mk (bT (by repeat (first | (with_reducible first | exact HB.1 ) )) hb); clear hb hbox hg; have z_7_2 : w6.cell? ⟨gb135, 2, none⟩ = some (.slice A0_2 l0_2.length c0_2) := (kC BK135.1 2).trans rfl; have z_7_3 : w6.cell? ⟨gb135, 3, none⟩ = some (.slice A0_3 l0_3.length c0_3) := (kC BK135.1 3).trans rfl; have p136 : 0 ≤ (a1 : Int) := of_decide_eq_true (by first | (with_reducible assumption) ); have q136 : a1 < (l0_3.length : Int) := of_decide_eq_true (by first | (with_reducible assumption) ); obtain ⟨ad136, e136, hx136_0⟩ := Kd.at_int HR0_3.1 a1 p136 q136; cases e136; replace hx136_0 := (HB.1.cell (World.block_lt_of_cell? w _ hx136_0)).trans hx136_0; replace p136 := eq_true p136; replace q136 := eq_true q136))
    repeat (go_quiet (fail); try go_wp2_with (fail))
    go_ret
    exact ⟨by first | rfl , by repeat (first | (with_reducible first | exact HB.1 | apply bN ) )⟩
  ·rw [if_neg c4] at H
   exact absurd H (by simp)
 ·rw [if_neg c3] at H
  exact absurd H (by simp)
def cipher_Book_check.l0 : Nat → Int → List Int → Int → Int → Int → Int → List (S91) → List Int → Option (Int)
 | 0, _, _, _, _, _, _, _, _ => none
 | k + 1, x4, x7, x8, x9, x138000, x138001, x138002, x138003 => if x9 < x8 then (if 0 ≤ x9 then (if x9 < (x7.length : Int) then (cipher_Book_check.l0 k (wrap64 (x4 + (wrap64 ((wrap64 (x9 + 1)) * (rd x7 x9))))) x7 x8 (wrap64 (x9 + 1)) x138000 x138001 x138002 x138003) else (none)) else (none)) else (if x138000 = 0 then (none) else (some (Int.tmod x4 x138000)))
def cipher_Book_check.f (k : Nat) (a0_0 : Int) (a0_1 : Int) (l0_2 : List (S91)) (l0_3 : List Int) (l1 : List Int) : Option (Int) := cipher_Book_check.l0 k 0 l1 (l1.length : Int) 0 a0_0 a0_1 l0_2 l0_3
set_option maxHeartbeats 8000000 in
set_option maxRecDepth 100000 in
theorem cipher_Book_check.calls (k : Nat) (a0_0 : Int) (a0_1 : Int) (A0_2 : Option Addr) (c0_2 : Nat) (l0_2 : List (S91)) (A0_3 : Option Addr) (c0_3 : Nat) (l0_3 : List Int) (A1 : Option Addr) (c1 : Nat) (l1 : List Int) (r : Int) (w : World) (hr0_2 : Kd.C k91 w A0_2 l0_2.length l0_2) (hc0_2 : l0_2.length ≤ c0_2) (hr0_3 : Kd.C (Kd.int .i64) w A0_3 l0_3.length l0_3) (hc0_3 : l0_3.length ≤ c0_3) (hr1 : Kd.C (Kd.int .i64) w A1 l1.length l1) (hc1 : l1.length ≤ c1) (h : cipher_Book_check.f k a0_0 a0_1 l0_2 l0_3 l1 = some r) :
  Calls Try.prog 61 #[.agg #[.int .i64 a0_0, .int .i64 a0_1, .slice A0_2 l0_2.length c0_2, .slice A0_3 l0_3.length c0_3], .slice A1 l1.length c1] w fun e w' => e = .returned (.int .i64 r) ∧ Below w.heap.size w w' := by
 have hu32 := Try.underlying32
 have HR0_2 := Sd.mk hr0_2
 have HC0_2 := Sd.mk hc0_2
 clear hr0_2 hc0_2
 have HR0_3 := Sd.mk hr0_3
 have HC0_3 := Sd.mk hc0_3
 clear hr0_3 hc0_3
 have HR1 := Sd.mk hr1
 have HC1 := Sd.mk hc1
 clear hr1 hc1
 have HB := Sd.mk (Below.refl w.heap.size w)
 have H : (cipher_Book_check.l0 k 0 l1 (l1.length : Int) 0 a0_0 a0_1 l0_2 l0_3) = some r := h
 clear h
 have H' := Sd.mk H
 clear H
 go_enter Try.func61, Try.ntmps61
 go_wp2_with (first | ((with_reducible refine gD (N := 2) rfl ?_); refine xE ?hg (N := 2) ?hd (cs := #[.int .i64 a0_0, .int .i64 a0_1, .slice A0_2 l0_2.length c0_2, .slice A0_3 l0_3.length c0_3]) (t := 32) ?hr ?_; (case hd => rfl); (case hg => rfl); (case hr => first | (go_simp; done) ); intro gb137 hg w3 hbox hb; have BK137 := Sd.mk (hbox); have GW137 := Sd.mk ((by rw [hg]; exact (bZ (by repeat (first | (with_reducible first | exact HB.1 ) ))) : w.heap.size ≤ gb137)); have GE137 := Sd.mk ((by rw [hg]; exact (bZ (by repeat (first | (with_reducible first | exact HB.1 ) ))) : w.heap.size ≤ gb137)); replace HB := Sd.mk (bT (by repeat (first | (with_reducible first | exact HB.1 ) )) hb); clear hb hbox hg))
 go_loopg [4, 9] k (fun kq v4 v9 w' => ∃ (x4_1 : Int) (x9_1 : Int), v4 = .int .i64 x4_1 ∧ v9 = .int .i64 x9_1 ∧ Sd (cipher_Book_check.l0 kq x4_1 l1 (l1.length : Int) x9_1 a0_0 a0_1 l0_2 l0_3 = some r) ∧ Sd (kq ≤ k) ∧ Sd (w'.heap[gb137]? = some (.cells #[.int .i64 a0_0, .int .i64 a0_1, (.slice A0_2 l0_2.length c0_2), (.slice A0_3 l0_3.length c0_3)] 32 (0, 0))) ∧ Sd (Below w.heap.size w w'))
 case atStart => exact ⟨(0), (0), (by first | rfl ), (by first | rfl ), H', ⟨Nat.le_refl _⟩, ⟨by (with_reducible repeat (fail)); exact BK137.1⟩, ⟨by repeat (first | (with_reducible first | exact HB.1 ) )⟩⟩
 case round =>
  clear H'
  obtain ⟨x4_1, x9_1, rfl, rfl, HA, HK1, BK137, HB⟩ := hrel
  cases gk with
  | zero => exact absurd HA.1 (by simp [cipher_Book_check.l0])
  | succ k1 =>
   have H := HA.1
   clear HA
   simp only [cipher_Book_check.l0] at H
   by_cases c4 : x9_1 < (l1.length : Int)
   ·rw [if_pos c4] at H
    have c4b0 : decide (x9_1 < (l1.length : Int)) = true := decide_eq_true c4
    clear c4
    by_cases c5 : 0 ≤ x9_1
    ·rw [if_pos c5] at H
     have c5b0 : decide (0 ≤ x9_1) = true := decide_eq_true c5
     clear c5
     by_cases c6 : x9_1 < (l1.length : Int)
     ·rw [if_pos c6] at H
      have c6b0 : decide (x9_1 < (l1.length : Int)) = true := decide_eq_true c6
      clear c6
      have H' := Sd.mk H
      clear H
      have p138 : 0 ≤ (x9_1 : Int) := of_decide_eq_true (by first | (with_reducible assumption) )
      have q138 : x9_1 < (l1.length : Int) := of_decide_eq_true (by first | (with_reducible assumption) )
      obtain ⟨ad138, e138, hx138_0⟩ := Kd.at_int HR1.1 x9_1 p138 q138
      cases e138
      replace hx138_0 := (HB.1.cell (World.block_lt_of_cell? w _ hx138_0)).trans hx138_0
      replace p138 := eq_true p138
      replace q138 := eq_true q138
      go_wp2
      go_roundg k1
      case measure => have := HK1.1; omega
      case rel => exact ⟨(wrap64 (x4_1 + (wrap64 ((wrap64 (x9_1 + 1)) * (rd l1 x9_1))))), (wrap64 (x9_1 + 1)), (by first | rfl ), (by first | rfl ), H', ⟨by have := HK1.1; omega⟩, ⟨by (with_reducible repeat (fail)); exact BK137.1⟩, ⟨by repeat (first | (with_reducible first | exact HB.1 ) )⟩⟩
     ·rw [if_neg c6] at H
      exact absurd H (by simp)
    ·rw [if_neg c5] at H
     exact absurd H (by simp)
   ·rw [if_neg c4] at H
    have c4b0 : decide (x9_1 < (l1.length : Int)) = false := decide_eq_false c4
    clear c4
    by_cases c7 : a0_0 = 0
    ·rw [if_pos c7] at H
     exact absurd H (by simp)
    ·rw [if_neg c7] at H
     have c7b0 : (a0_0 == 0) = false := beq_eq_false_iff_ne.mpr c7
     have c7b1 : (a0_0 != 0) = true := bne_iff_ne.mpr c7
     obtain rfl := Option.some.inj H
     have z_8_0 : wr.cell? ⟨gb137, 0, none⟩ = some (.int .i64 a0_0) := (kC BK137.1 0).trans rfl
     go_wp2
     go_ret
     exact ⟨by first | rfl , by repeat (first | (with_reducible first | exact HB.1 ) )⟩
def cipher_Book_loss.f (a0_0 : Int) (a0_1 : Int) (l0_2 : List (S91)) (l0_3 : List Int) (a1_0 : Int) (a1_1 : Int) : Option (Bool) := (cipher_Book_own.f a0_0 a0_1 l0_2 l0_3 a1_0).bind fun t180 => (if t180 = true then ((cipher_Book_day.f a0_0 a0_1 l0_2 l0_3 a1_1).bind fun t181 => (some t181)) else (some false))
set_option maxHeartbeats 8000000 in
set_option maxRecDepth 100000 in
theorem cipher_Book_loss.calls (a0_0 : Int) (a0_1 : Int) (A0_2 : Option Addr) (c0_2 : Nat) (l0_2 : List (S91)) (A0_3 : Option Addr) (c0_3 : Nat) (l0_3 : List Int) (a1_0 : Int) (a1_1 : Int) (r : Bool) (w : World) (hr0_2 : Kd.C k91 w A0_2 l0_2.length l0_2) (hc0_2 : l0_2.length ≤ c0_2) (hr0_3 : Kd.C (Kd.int .i64) w A0_3 l0_3.length l0_3) (hc0_3 : l0_3.length ≤ c0_3) (h : cipher_Book_loss.f a0_0 a0_1 l0_2 l0_3 a1_0 a1_1 = some r) :
  Calls Try.prog 91 #[.agg #[.int .i64 a0_0, .int .i64 a0_1, .slice A0_2 l0_2.length c0_2, .slice A0_3 l0_3.length c0_3], .agg #[.int .i64 a1_0, .int .i64 a1_1]] w fun e w' => e = .returned (.bool r) ∧ Below w.heap.size w w' := by
 have hu32 := Try.underlying32
 have hu110 := Try.underlying110
 have HR0_2 := Sd.mk hr0_2
 have HC0_2 := Sd.mk hc0_2
 clear hr0_2 hc0_2
 have HR0_3 := Sd.mk hr0_3
 have HC0_3 := Sd.mk hc0_3
 clear hr0_3 hc0_3
 have HB := Sd.mk (Below.refl w.heap.size w)
 have H : ((cipher_Book_own.f a0_0 a0_1 l0_2 l0_3 a1_0).bind fun t180 => (if t180 = true then ((cipher_Book_day.f a0_0 a0_1 l0_2 l0_3 a1_1).bind fun t181 => (some t181)) else (some false))) = some r := h
 clear h
 obtain ⟨t180, A30, H⟩ := Option.bind_eq_some_iff.mp H
 have A3 := Sd.mk A30
 clear A30
 by_cases c4 : t180 = true
 ·subst c4
  rw [if_pos rfl] at H
  obtain ⟨t181, A50, H⟩ := Option.bind_eq_some_iff.mp H
  have A5 := Sd.mk A50
  clear A50
  obtain rfl := Option.some.inj H
  go_enter Try.func91, Try.ntmps91
  go_wp2_with (first | ((with_reducible refine gD (N := 2) rfl ?_); refine xE ?hg (N := 2) ?hd (cs := #[.int .i64 a0_0, .int .i64 a0_1, .slice A0_2 l0_2.length c0_2, .slice A0_3 l0_3.length c0_3]) (t := 32) ?hr ?_; (case hd => rfl); (case hg => rfl); (case hr => first | (go_simp; done) ); intro gb178 hg w6 hbox hb; have BK178 := Sd.mk (hbox); have GW178 := Sd.mk ((by rw [hg]; exact (bZ (by repeat (first | (with_reducible first | exact HB.1 ) ))) : w.heap.size ≤ gb178)); have GE178 := Sd.mk ((by rw [hg]; exact (bZ (by repeat (first | (with_reducible first | exact HB.1 ) ))) : w.heap.size ≤ gb178)); replace HB := Sd.mk (bT (by repeat (first | (with_reducible first | exact HB.1 ) )) hb); clear hb hbox hg) | ((with_reducible refine gD (N := 3) rfl ?_); refine xE ?hg (N := 3) ?hd (cs := #[.int .i64 a1_0, .int .i64 a1_1]) (t := 110) ?hr ?_; (case hd => rfl); (case hg => rfl); (case hr => first | (go_simp; done) ); intro gb179 hg w7 hbox hb; have BK179 := Sd.mk (hbox); have GW179 := Sd.mk ((by rw [hg]; exact (bZ (by repeat (first | (with_reducible first | exact HB.1 ) ))) : w.heap.size ≤ gb179)); have GE179 := Sd.mk ((by rw [hg]; exact (bZ (by repeat (first | (with_reducible first | exact HB.1 ) ))) : w.heap.size ≤ gb179)); replace HB := Sd.mk (bT (by repeat (first | (with_reducible first | exact HB.1 ) )) hb); have NB178_179 := Sd.mk ((by rw [hg]; exact Nat.ne_of_lt (blk_lt (g := gb178) (o := .cells #[.int .i64 a0_0, .int .i64 a0_1, .slice A0_2 l0_2.length c0_2, .slice A0_3 l0_3.length c0_3] 32 (0, 0)) (by (with_reducible repeat (fail)); exact BK178.1)) : gb178 ≠ gb179)); have NB179_178 := Sd.mk ((by rw [hg]; exact Nat.ne_of_gt (blk_lt (g := gb178) (o := .cells #[.int .i64 a0_0, .int .i64 a0_1, .slice A0_2 l0_2.length c0_2, .slice A0_3 l0_3.length c0_3] 32 (0, 0)) (by (with_reducible repeat (fail)); exact BK178.1)) : gb179 ≠ gb178)); replace BK178 := Sd.mk (kB (g := gb178) (o := .cells #[.int .i64 a0_0, .int .i64 a0_1, .slice A0_2 l0_2.length c0_2, .slice A0_3 l0_3.length c0_3] 32 (0, 0)) (by (with_reducible repeat (fail)); exact BK178.1) hb); clear hb hbox hg; have hnb8 := NB178_179.1; have hnc8 := NB179_178.1; have z_9_0 : w7.cell? ⟨gb178, 0, none⟩ = some (.int .i64 a0_0) := (kC BK178.1 0).trans rfl; have z_9_1 : w7.cell? ⟨gb178, 1, none⟩ = some (.int .i64 a0_1) := (kC BK178.1 1).trans rfl; have z_9_2 : w7.cell? ⟨gb178, 2, none⟩ = some (.slice A0_2 l0_2.length c0_2) := (kC BK178.1 2).trans rfl; have z_9_3 : w7.cell? ⟨gb178, 3, none⟩ = some (.slice A0_3 l0_3.length c0_3) := (kC BK178.1 3).trans rfl; have hfz9_0 := kF BK178.1 0; have hfz9_1 := kF BK178.1 1; have z_10_0 : w7.cell? ⟨gb179, 0, none⟩ = some (.int .i64 a1_0) := (kC BK179.1 0).trans rfl) | ((with_reducible refine gate_callee (f := 50) rfl ?_); refine goesL_ (some 8) rfl rfl Try.func50 (by kernel_rfl) rfl #[.agg #[.int .i64 a0_0, .int .i64 a0_1, .slice A0_2 l0_2.length c0_2, .slice A0_3 l0_3.length c0_3], .int .i64 a1_0] rfl (by (try simp only [List.map_toArray, List.map_cons, List.map_nil]); first | rfl ) ?_; (with_reducible refine (cipher_Book_own.calls a0_0 a0_1 _ _ l0_2 _ _ l0_3 a1_0 true _ ?side1 ?side2 ?side3 ?side4 A3.1).mono ?_); (case side1 => repeat (first | exact (Kd.C_below HR0_2.1 HB.1) )); (case side2 => exact HC0_2.1); (case side3 => repeat (first | exact (Kd.C_below HR0_3.1 HB.1) )); (case side4 => exact HC0_3.1); rintro e w11 ⟨rfl, hb⟩; refine ⟨_, rfl, ?_⟩; replace BK178 := Sd.mk (kB (g := gb178) (o := .cells #[.int .i64 a0_0, .int .i64 a0_1, .slice A0_2 l0_2.length c0_2, .slice A0_3 l0_3.length c0_3] 32 (0, 0)) (by (with_reducible repeat (fail)); exact BK178.1) hb); replace BK179 := Sd.mk (kB (g := gb179) (o := .cells #[.int .i64 a1_0, .int .i64 a1_1] 110 (0, 0)) (by (with_reducible repeat (fail)); exact BK179.1) hb); replace HB := Sd.mk (bT (by repeat (first | (with_reducible first | exact HB.1 ) )) hb); (try clear hb); have z_12_0 : w11.cell? ⟨gb178, 0, none⟩ = some (.int .i64 a0_0) := (kC BK178.1 0).trans rfl; have z_12_1 : w11.cell? ⟨gb178, 1, none⟩ = some (.int .i64 a0_1) := (kC BK178.1 1).trans rfl; have z_12_2 : w11.cell? ⟨gb178, 2, none⟩ = some (.slice A0_2 l0_2.length c0_2) := (kC BK178.1 2).trans rfl; have z_12_3 : w11.cell? ⟨gb178, 3, none⟩ = some (.slice A0_3 l0_3.length c0_3) := (kC BK178.1 3).trans rfl; have hfz12_0 := kF BK178.1 0; have hfz12_1 := kF BK178.1 1; have z_13_1 : w11.cell? ⟨gb179, 1, none⟩ = some (.int .i64 a1_1) := (kC BK179.1 1).trans rfl) | (go_at_call 56; (with_reducible refine (cipher_Book_day.calls a0_0 a0_1 _ _ l0_2 _ _ l0_3 a1_1 t181 _ ?side1 ?side2 ?side3 ?side4 A5.1).mono ?_); (case side1 => repeat (first | exact (Kd.C_below HR0_2.1 HB.1) )); (case side2 => exact HC0_2.1); (case side3 => repeat (first | exact (Kd.C_below HR0_3.1 HB.1) )); (case side4 => exact HC0_3.1); rintro e w14 ⟨rfl, hb⟩; replace BK178 := Sd.mk (kB (g := gb178) (o := .cells #[.int .i64 a0_0, .int .i64 a0_1, .slice A0_2 l0_2.length c0_2, .slice A0_3 l0_3.length c0_3] 32 (0, 0)) (by (with_reducible repeat (fail)); exact BK178.1) hb); replace BK179 := Sd.mk (kB (g := gb179) (o := .cells #[.int .i64 a1_0, .int .i64 a1_1] 110 (0, 0)) (by (with_reducible repeat (fail)); exact BK179.1) hb); replace HB := Sd.mk (bT (by repeat (first | (with_reducible first | exact HB.1 ) )) hb); (try clear hb)))
  go_ret
  exact ⟨by first | rfl , by repeat (first | (with_reducible first | exact HB.1 ) )⟩
 ·replace c4 := Bool.eq_false_iff.mpr c4
  subst c4
  rw [if_neg (show ¬ (false = true) by decide)] at H
  obtain rfl := Option.some.inj H
  go_enter Try.func91, Try.ntmps91
  go_wp2_with (first | ((with_reducible refine gD (N := 2) rfl ?_); refine xE ?hg (N := 2) ?hd (cs := #[.int .i64 a0_0, .int .i64 a0_1, .slice A0_2 l0_2.length c0_2, .slice A0_3 l0_3.length c0_3]) (t := 32) ?hr ?_; (case hd => rfl); (case hg => rfl); (case hr => first | (go_simp; done) ); intro gb178 hg w15 hbox hb; have BK178 := Sd.mk (hbox); have GW178 := Sd.mk ((by rw [hg]; exact (bZ (by repeat (first | (with_reducible first | exact HB.1 ) ))) : w.heap.size ≤ gb178)); have GE178 := Sd.mk ((by rw [hg]; exact (bZ (by repeat (first | (with_reducible first | exact HB.1 ) ))) : w.heap.size ≤ gb178)); replace HB := Sd.mk (bT (by repeat (first | (with_reducible first | exact HB.1 ) )) hb); clear hb hbox hg) | ((with_reducible refine gD (N := 3) rfl ?_); refine xE ?hg (N := 3) ?hd (cs := #[.int .i64 a1_0, .int .i64 a1_1]) (t := 110) ?hr ?_; (case hd => rfl); (case hg => rfl); (case hr => first | (go_simp; done) ); intro gb179 hg w16 hbox hb; have BK179 := Sd.mk (hbox); have GW179 := Sd.mk ((by rw [hg]; exact (bZ (by repeat (first | (with_reducible first | exact HB.1 ) ))) : w.heap.size ≤ gb179)); have GE179 := Sd.mk ((by rw [hg]; exact (bZ (by repeat (first | (with_reducible first | exact HB.1 ) ))) : w.heap.size ≤ gb179)); replace HB := Sd.mk (bT (by repeat (first | (with_reducible first | exact HB.1 ) )) hb); have NB178_179 := Sd.mk ((by rw [hg]; exact Nat.ne_of_lt (blk_lt (g := gb178) (o := .cells #[.int .i64 a0_0, .int .i64 a0_1, .slice A0_2 l0_2.length c0_2, .slice A0_3 l0_3.length c0_3] 32 (0, 0)) (by (with_reducible repeat (fail)); exact BK178.1)) : gb178 ≠ gb179)); have NB179_178 := Sd.mk ((by rw [hg]; exact Nat.ne_of_gt (blk_lt (g := gb178) (o := .cells #[.int .i64 a0_0, .int .i64 a0_1, .slice A0_2 l0_2.length c0_2, .slice A0_3 l0_3.length c0_3] 32 (0, 0)) (by (with_reducible repeat (fail)); exact BK178.1)) : gb179 ≠ gb178)); replace BK178 := Sd.mk (kB (g := gb178) (o := .cells #[.int .i64 a0_0, .int .i64 a0_1, .slice A0_2 l0_2.length c0_2, .slice A0_3 l0_3.length c0_3] 32 (0, 0)) (by (with_reducible repeat (fail)); exact BK178.1) hb); clear hb hbox hg; have hnb17 := NB178_179.1; have hnc17 := NB179_178.1; have z_18_0 : w16.cell? ⟨gb178, 0, none⟩ = some (.int .i64 a0_0) := (kC BK178.1 0).trans rfl; have z_18_1 : w16.cell? ⟨gb178, 1, none⟩ = some (.int .i64 a0_1) := (kC BK178.1 1).trans rfl; have z_18_2 : w16.cell? ⟨gb178, 2, none⟩ = some (.slice A0_2 l0_2.length c0_2) := (kC BK178.1 2).trans rfl; have z_18_3 : w16.cell? ⟨gb178, 3, none⟩ = some (.slice A0_3 l0_3.length c0_3) := (kC BK178.1 3).trans rfl; have z_19_0 : w16.cell? ⟨gb179, 0, none⟩ = some (.int .i64 a1_0) := (kC BK179.1 0).trans rfl) | ((with_reducible refine gate_callee (f := 50) rfl ?_); refine goesL_ (some 8) rfl rfl Try.func50 (by kernel_rfl) rfl #[.agg #[.int .i64 a0_0, .int .i64 a0_1, .slice A0_2 l0_2.length c0_2, .slice A0_3 l0_3.length c0_3], .int .i64 a1_0] rfl (by (try simp only [List.map_toArray, List.map_cons, List.map_nil]); first | rfl ) ?_; (with_reducible refine (cipher_Book_own.calls a0_0 a0_1 _ _ l0_2 _ _ l0_3 a1_0 false _ ?side1 ?side2 ?side3 ?side4 A3.1).mono ?_); (case side1 => repeat (first | exact (Kd.C_below HR0_2.1 HB.1) )); (case side2 => exact HC0_2.1); (case side3 => repeat (first | exact (Kd.C_below HR0_3.1 HB.1) )); (case side4 => exact HC0_3.1); rintro e w20 ⟨rfl, hb⟩; refine ⟨_, rfl, ?_⟩; replace BK178 := Sd.mk (kB (g := gb178) (o := .cells #[.int .i64 a0_0, .int .i64 a0_1, .slice A0_2 l0_2.length c0_2, .slice A0_3 l0_3.length c0_3] 32 (0, 0)) (by (with_reducible repeat (fail)); exact BK178.1) hb); replace BK179 := Sd.mk (kB (g := gb179) (o := .cells #[.int .i64 a1_0, .int .i64 a1_1] 110 (0, 0)) (by (with_reducible repeat (fail)); exact BK179.1) hb); replace HB := Sd.mk (bT (by repeat (first | (with_reducible first | exact HB.1 ) )) hb); (try clear hb)))
  go_ret
  exact ⟨by first | rfl , by repeat (first | (with_reducible first | exact HB.1 ) )⟩
def glisterlaw04_Thin.f (a0_0 : Int) (a0_1 : Int) (l0_2 : List (S82)) (l0_3 : List Int) : Option (Bool) := if (l0_2.length : Int) ≤ 8 then (some (decide ((l0_3.length : Int) ≤ 11))) else (some false)
set_option maxHeartbeats 8000000 in
set_option maxRecDepth 100000 in
theorem glisterlaw04_Thin.calls (a0_0 : Int) (a0_1 : Int) (A0_2 : Option Addr) (c0_2 : Nat) (l0_2 : List (S82)) (A0_3 : Option Addr) (c0_3 : Nat) (l0_3 : List Int) (r : Bool) (w : World) (hr0_2 : Kd.C k82 w A0_2 l0_2.length l0_2) (hc0_2 : l0_2.length ≤ c0_2) (hr0_3 : Kd.C (Kd.int .i64) w A0_3 l0_3.length l0_3) (hc0_3 : l0_3.length ≤ c0_3) (h : glisterlaw04_Thin.f a0_0 a0_1 l0_2 l0_3 = some r) :
  Calls Try.prog 16 #[.agg #[.int .i64 a0_0, .int .i64 a0_1, .slice A0_2 l0_2.length c0_2, .slice A0_3 l0_3.length c0_3]] w fun e w' => e = .returned (.bool r) ∧ Below w.heap.size w w' := by
 have hu25 := Try.underlying25
 have HR0_2 := Sd.mk hr0_2
 have HC0_2 := Sd.mk hc0_2
 clear hr0_2 hc0_2
 have HR0_3 := Sd.mk hr0_3
 have HC0_3 := Sd.mk hc0_3
 clear hr0_3 hc0_3
 have HB := Sd.mk (Below.refl w.heap.size w)
 have H : (if (l0_2.length : Int) ≤ 8 then (some (decide ((l0_3.length : Int) ≤ 11))) else (some false)) = some r := h
 clear h
 by_cases c2 : (l0_2.length : Int) ≤ 8
 ·rw [if_pos c2] at H
  have c2b0 : decide ((l0_2.length : Int) ≤ 8) = true := decide_eq_true c2
  have c2b1 : decide (l0_2.length ≤ 8) = true := decide_eq_true (by omega)
  clear c2
  obtain rfl := Option.some.inj H
  go_enter Try.func16, Try.ntmps16
  go_wp2_with (first | ((with_reducible refine gD (N := 1) rfl ?_); (try (refine gG (by rfl) ?_; dsimp only)); refine xE ?hg (N := 1) ?hd (cs := #[.int .i64 a0_0, .int .i64 a0_1, .slice A0_2 l0_2.length c0_2, .slice A0_3 l0_3.length c0_3]) (t := 25) ?hr ?_; (case hd => rfl); (case hg => rfl); (case hr => first | (go_simp; done) ); intro gb182 hg w3 hbox hb; have BK182 := Sd.mk (hbox); have GW182 := Sd.mk ((by rw [hg]; exact (bZ (by repeat (first | (with_reducible first | exact HB.1 ) ))) : w.heap.size ≤ gb182)); have GE182 := Sd.mk ((by rw [hg]; exact (bZ (by repeat (first | (with_reducible first | exact HB.1 ) ))) : w.heap.size ≤ gb182)); replace HB := Sd.mk (bT (by repeat (first | (with_reducible first | exact HB.1 ) )) hb); clear hb hbox hg; have z_4_2 : w3.cell? ⟨gb182, 2, none⟩ = some (.slice A0_2 l0_2.length c0_2) := (kC BK182.1 2).trans rfl; have z_4_3 : w3.cell? ⟨gb182, 3, none⟩ = some (.slice A0_3 l0_3.length c0_3) := (kC BK182.1 3).trans rfl))
  go_ret
  exact ⟨by first | rfl , by repeat (first | (with_reducible first | exact HB.1 ) )⟩
 ·rw [if_neg c2] at H
  have c2b0 : decide ((l0_2.length : Int) ≤ 8) = false := decide_eq_false c2
  have c2b1 : decide (l0_2.length ≤ 8) = false := decide_eq_false (by omega)
  clear c2
  obtain rfl := Option.some.inj H
  go_enter Try.func16, Try.ntmps16
  go_wp2_with (first | ((with_reducible refine gD (N := 1) rfl ?_); (try (refine gG (by rfl) ?_; dsimp only)); refine xE ?hg (N := 1) ?hd (cs := #[.int .i64 a0_0, .int .i64 a0_1, .slice A0_2 l0_2.length c0_2, .slice A0_3 l0_3.length c0_3]) (t := 25) ?hr ?_; (case hd => rfl); (case hg => rfl); (case hr => first | (go_simp; done) ); intro gb182 hg w5 hbox hb; have BK182 := Sd.mk (hbox); have GW182 := Sd.mk ((by rw [hg]; exact (bZ (by repeat (first | (with_reducible first | exact HB.1 ) ))) : w.heap.size ≤ gb182)); have GE182 := Sd.mk ((by rw [hg]; exact (bZ (by repeat (first | (with_reducible first | exact HB.1 ) ))) : w.heap.size ≤ gb182)); replace HB := Sd.mk (bT (by repeat (first | (with_reducible first | exact HB.1 ) )) hb); clear hb hbox hg; have z_6_2 : w5.cell? ⟨gb182, 2, none⟩ = some (.slice A0_2 l0_2.length c0_2) := (kC BK182.1 2).trans rfl))
  go_ret
  exact ⟨by first | rfl , by repeat (first | (with_reducible first | exact HB.1 ) )⟩
end Go.Proofs.Ytnidgkmopocdkaa.P
