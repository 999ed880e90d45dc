import Derived.Test.YtnidgkmopocdkaaA4P0
import Derived.Test.YtnidgkmopocdkaaA4P5
import Derived.Test.YtnidgkmopocdkaaA4P6
namespace Go.Proofs.Ytnidgkmopocdkaa.P
open Go.RowKit Go.Proofs.YtnidgkmopocdkaaW.PrintWords Go.Proofs.YtnidgkmopocdkaaW.PrintLast Go.Proofs.YtnidgkmopocdkaaW.PrintMore
attribute [local go_sem] max2_int min2_int max_two min_two max_three min_three max_four min_four   -- for this text's walks alone
set_option linter.unusedVariables false
set_option linter.unusedSimpArgs false
mutual
def glisterref04_Decode.j0 : Nat → Int → List Int → Int → Bool → Int → Int → List (S82) → List Int → Option (List Int × List Int × Int)
 | 0, _, _, _, _, _, _, _, _ => none
 | k + 1, x1, x2, x9, x28, x305000, x305001, x305002, x305003 => if x28 = true then (some (([] : List Int), ([] : List Int), 4)) else (if 0 < (x2.length : Int) then ((glisterref04_Indicator.f x305000 x305001 x305002 x305003 x1).bind fun t307 => (if (rd x2 0) = t307 then (if 0 ≤ x9 then (if x9 < (x2.length : Int) then (if x9 ≤ (x2.length : Int) then ((glisterref04_Check.f k x305000 x305001 x305002 x305003 (x2.take (x9 : Int).toNat)).bind fun t310 => (if (rd x2 x9) = t310 then (glisterref04_Decode.l0 k x1 x2 x9 ([] : List Int) ([] : List Int) 1 x305000 x305001 x305002 x305003) else (some (([] : List Int), ([] : List Int), 11)))) else (none)) else (none)) else (none)) else (some (([] : List Int), ([] : List Int), 8)))) else (none))
def glisterref04_Decode.l0 : Nat → Int → List Int → Int → List Int → List Int → Int → Int → Int → List (S82) → List Int → Option (List Int × List Int × Int)
 | 0, _, _, _, _, _, _, _, _, _, _ => none
 | k + 1, x1, x2, x9, x10, x11, x12, x305000, x305001, x305002, x305003 => if x12 < x9 then (if 0 ≤ x1 then (if x1 < (x305003.length : Int) then (if 0 ≤ (rd x305003 x1) then (if (rd x305003 x1) < (x305002.length : Int) then (if 0 ≤ x12 then (if x12 < (x2.length : Int) then ((glisterref04_Means.f k x305000 x305001 x305002 x305003 ((rd_T82 x305002 (rd x305003 x1)).f0) ((rd_T82 x305002 (rd x305003 x1)).f1) ((rd_T82 x305002 (rd x305003 x1)).f2) (rd x2 x12) (wrap64 (x12 - 1))).bind fun t314 => (if x10.length < 17592186044416 then ((some (x10 ++ [t314] : List Int)).bind fun y315 => (if t314 < x305001 then (if x11.length < 17592186044416 then (glisterref04_Decode.l0 k x1 x2 x9 y315 (x11 ++ [t314]) (wrap64 (x12 + 1)) x305000 x305001 x305002 x305003) else (none)) else (glisterref04_Decode.l0 k x1 x2 x9 y315 x11 (wrap64 (x12 + 1)) x305000 x305001 x305002 x305003))) else (none))) else (none)) else (none)) else (none)) else (none)) else (none)) else (none)) else (some (x10, x11, 0))
end
def glisterref04_Decode.f (k : Nat) (a0_0 : Int) (a0_1 : Int) (l0_2 : List (S82)) (l0_3 : List Int) (a1 : Int) (l2 : List Int) : Option (List Int × List Int × Int) := if (wrap64 ((l2.length : Int) - 1)) < 1 then (glisterref04_Decode.j0 k a1 l2 (wrap64 ((l2.length : Int) - 1)) true a0_0 a0_1 l0_2 l0_3) else (if (wrap64 ((l2.length : Int) - 1)) > 11 then (glisterref04_Decode.j0 k a1 l2 (wrap64 ((l2.length : Int) - 1)) true a0_0 a0_1 l0_2 l0_3) else ((glisterref04_Plain.f k a0_0 a0_1 l0_2 l0_3 l2).bind fun t305 => (glisterref04_Decode.j0 k a1 l2 (wrap64 ((l2.length : Int) - 1)) (!t305) a0_0 a0_1 l0_2 l0_3)))
def glisterref04_Decode.T6 : Bool × List (List Nat × List Nat) := (true, [([], []), ([], []), ([0, 1], [0, 1]), ([2], [2]), ([], []), ([], []), ([], []), ([5, 6], [5, 6]), ([4, 7], [4, 7]), ([3, 8], [3, 8])])
def glisterref04_Decode.B6 : List Nat := [0, 0, 3, 7, 0, 0, 0, 96, 240, 511]
theorem glisterref04_Decode.tab6 : rtab .any (opsOf Try.f28 6) = glisterref04_Decode.T6 := by kernel_rfl
theorem glisterref04_Decode.bits6 : waitsOk glisterref04_Decode.T6.2 glisterref04_Decode.B6 = true := by kernel_rfl
def glisterref04_Decode.T12 : Bool × List (List Nat × List Nat) := (true, [([], []), ([], []), ([1], [1]), ([], []), ([3], [3]), ([], []), ([4, 5], [4, 5]), ([6], [6]), ([2, 7], [2, 7]), ([8], [8]), ([], []), ([], []), ([10, 11], [10, 11]), ([12], [12]), ([], []), ([14], [14]), ([0, 9, 13, 15], [0, 9, 13, 15]), ([16, 16, 0, 1, 2, 3, 4, 5, 6, 7, 8, 9, 10, 11, 12, 13, 14, 15, 16], [16])])
def glisterref04_Decode.B12 : List Nat := [0, 0, 2, 0, 8, 0, 56, 120, 254, 510, 0, 0, 3072, 7168, 0, 16384, 65535, 131071]
theorem glisterref04_Decode.tab12 : rtab .any (opsOf Try.f28 12) = glisterref04_Decode.T12 := by kernel_rfl
theorem glisterref04_Decode.bits12 : waitsOk glisterref04_Decode.T12.2 glisterref04_Decode.B12 = true := by kernel_rfl
set_option maxHeartbeats 8000000 in
set_option maxRecDepth 100000 in
theorem glisterref04_Decode.calls (k : Nat) (a0_0 : Int) (a0_1 : Int) (A0_2 : Option Addr) (c0_2 : Nat) (l0_2 : List (S82)) (A0_3 : Option Addr) (c0_3 : Nat) (l0_3 : List Int) (a1 : Int) (A2 : Option Addr) (c2 : Nat) (l2 : List Int) (r1 : List Int) (r2 : List Int) (r3 : Int) (w : World) (hr0_2 : Kd.C k82 w A0_2 l0_2.length l0_2) (hc0_2 : l0_2.length ≤ c0_2) (hr0_3 : Kd.C (Kd.int .i64) w A0_3 l0_3.length l0_3) (hc0_3 : l0_3.length ≤ c0_3) (hr2 : Kd.C (Kd.int .i64) w A2 l2.length l2) (hc2 : l2.length ≤ c2) (h : glisterref04_Decode.f k a0_0 a0_1 l0_2 l0_3 a1 l2 = some (r1, r2, r3)) :
  Calls Try.prog 28 #[.agg #[.int .i64 a0_0, .int .i64 a0_1, .slice A0_2 l0_2.length c0_2, .slice A0_3 l0_3.length c0_3], .int .i64 a1, .slice A2 l2.length c2] w fun e w' => ∃ v0_ v1_ : Value, e = .returned (.tuple #[v0_, v1_, .int .i64 r3]) ∧ Kd.R (Kd.int .i64) 3 w' w.heap.size (fun k_ => some k_ ≠ (v1_ : Value).ownBlock) v0_ r1 ∧ Kd.R (Kd.int .i64) 3 w' w.heap.size (fun k_ => some k_ ≠ (v0_ : Value).ownBlock) v1_ r2 ∧ Below w.heap.size w w' := by
 have hu25 := Try.underlying25
 have hu82 := Try.underlying82
 have HR0_2 := Sd.mk hr0_2
 have HC0_2 := Sd.mk hc0_2
 clear hr0_2 hc0_2
 have HR0_3 := Sd.mk hr0_3
 have HC0_3 := Sd.mk hc0_3
 clear hr0_3 hc0_3
 have HR2 := Sd.mk hr2
 have HC2 := Sd.mk hc2
 clear hr2 hc2
 have HB := Sd.mk (Below.refl w.heap.size w)
 have H : (if (wrap64 ((l2.length : Int) - 1)) < 1 then (glisterref04_Decode.j0 k a1 l2 (wrap64 ((l2.length : Int) - 1)) true a0_0 a0_1 l0_2 l0_3) else (if (wrap64 ((l2.length : Int) - 1)) > 11 then (glisterref04_Decode.j0 k a1 l2 (wrap64 ((l2.length : Int) - 1)) true a0_0 a0_1 l0_2 l0_3) else ((glisterref04_Plain.f k a0_0 a0_1 l0_2 l0_3 l2).bind fun t305 => (glisterref04_Decode.j0 k a1 l2 (wrap64 ((l2.length : Int) - 1)) (!t305) a0_0 a0_1 l0_2 l0_3)))) = some (r1, r2, r3) := h
 clear h
 have HC4 := Sd.mk H
 clear H
 go_enter Try.func28, Try.ntmps28
 go_upto_region 2 with (first | ((with_reducible refine gD (N := 3) rfl ?_); refine xE ?hg (N := 3) ?hd (cs := #[.int .i64 a0_0, .int .i64 a0_1, .slice A0_2 l0_2.length c0_2, .slice A0_3 l0_3.length c0_3]) (t := 25) ?hr ?_; (case hd => rfl); (case hg => rfl); (case hr => first | (go_simp; done) ); intro gb304 hg w5 hbox hb; have BK304 := Sd.mk (hbox); have GW304 := Sd.mk ((by rw [hg]; exact (bZ (by repeat (first | (with_reducible first | exact HB.1 ) ))) : w.heap.size ≤ gb304)); have GE304 := Sd.mk ((by rw [hg]; exact (bZ (by repeat (first | (with_reducible first | exact HB.1 ) ))) : w.heap.size ≤ gb304)); replace HB := Sd.mk (bT (by repeat (first | (with_reducible first | exact HB.1 ) )) hb); clear hb hbox hg))
 go_cut [28] (fun v28 wc => ∃ (kq : Nat) (x28_3 : Bool), v28 = .bool x28_3 ∧ Sd (glisterref04_Decode.j0 kq a1 l2 (wrap64 ((l2.length : Int) - 1)) x28_3 a0_0 a0_1 l0_2 l0_3 = some (r1, r2, r3)) ∧ Sd (kq ≤ k) ∧ Sd (wc.heap[gb304]? = some (.cells #[.int .i64 a0_0, .int .i64 a0_1, (.slice A0_2 l0_2.length c0_2), (.slice A0_3 l0_3.length c0_3)] 25 (0, 0))) ∧ Sd (Below w.heap.size w wc))
 case first =>
  have H := HC4.1
  clear HC4
  by_cases c6 : (wrap64 ((l2.length : Int) - 1)) < 1
  ·rw [if_pos c6] at H
   have c6b0 : decide ((wrap64 ((l2.length : Int) - 1)) < 1) = true := decide_eq_true c6
   clear c6
   have H' := Sd.mk H
   clear H
   go_wp2
   go_meet
   case rel => exact ⟨_, (true), (by first | rfl ), H', ⟨by first | omega ⟩, ⟨by (with_reducible repeat (fail)); exact BK304.1⟩, ⟨by repeat (first | (with_reducible first | exact HB.1 ) )⟩⟩
  ·rw [if_neg c6] at H
   have c6b0 : decide ((wrap64 ((l2.length : Int) - 1)) < 1) = false := decide_eq_false c6
   clear c6
   by_cases c7 : (wrap64 ((l2.length : Int) - 1)) > 11
   ·rw [if_pos c7] at H
    have c7b0 : decide (11 < (wrap64 ((l2.length : Int) - 1))) = true := decide_eq_true c7
    clear c7
    have H' := Sd.mk H
    clear H
    go_wp2
    go_meet
    case rel => exact ⟨_, (true), (by first | rfl ), H', ⟨by first | omega ⟩, ⟨by (with_reducible repeat (fail)); exact BK304.1⟩, ⟨by repeat (first | (with_reducible first | exact HB.1 ) )⟩⟩
   ·rw [if_neg c7] at H
    have c7b0 : decide (11 < (wrap64 ((l2.length : Int) - 1))) = false := decide_eq_false c7
    clear c7
    obtain ⟨t305, A80, H⟩ := Option.bind_eq_some_iff.mp H
    have A8 := Sd.mk A80
    clear A80
    have H' := Sd.mk H
    clear H
    have z_9_0 : w5.cell? ⟨gb304, 0, none⟩ = some (.int .i64 a0_0) := (kC BK304.1 0).trans rfl
    have z_9_1 : w5.cell? ⟨gb304, 1, none⟩ = some (.int .i64 a0_1) := (kC BK304.1 1).trans rfl
    have z_9_2 : w5.cell? ⟨gb304, 2, none⟩ = some (.slice A0_2 l0_2.length c0_2) := (kC BK304.1 2).trans rfl
    have z_9_3 : w5.cell? ⟨gb304, 3, none⟩ = some (.slice A0_3 l0_3.length c0_3) := (kC BK304.1 3).trans rfl
    go_wp2_with (first | (go_at_call 24; (with_reducible refine (glisterref04_Plain.calls k a0_0 a0_1 _ _ l0_2 _ _ l0_3 _ _ l2 t305 _ ?side1 ?side2 ?side3 ?side4 ?side5 ?side6 A8.1).mono ?_); (case side1 => repeat (first | exact (Kd.C_below HR0_2.1 HB.1) )); (case side2 => exact HC0_2.1); (case side3 => repeat (first | exact (Kd.C_below HR0_3.1 HB.1) )); (case side4 => exact HC0_3.1); (case side5 => repeat (first | exact (Kd.C_below HR2.1 HB.1) )); (case side6 => exact HC2.1); rintro e w10 ⟨rfl, hb⟩; replace BK304 := Sd.mk (kB (g := gb304) (o := .cells #[.int .i64 a0_0, .int .i64 a0_1, .slice A0_2 l0_2.length c0_2, .slice A0_3 l0_3.length c0_3] 25 (0, 0)) (by (with_reducible repeat (fail)); exact BK304.1) hb); replace HB := Sd.mk (bT (by repeat (first | (with_reducible first | exact HB.1 ) )) hb); (try clear hb)))
    go_meet
    case rel => exact ⟨_, (!t305), (by first | rfl ), H', ⟨by first | omega ⟩, ⟨by (with_reducible repeat (fail)); exact BK304.1⟩, ⟨by repeat (first | (with_reducible first | exact HB.1 ) )⟩⟩
 case rest =>
  clear HC4
  obtain ⟨kq, x28_3, rfl, HA, HJ3, BK304, HB⟩ := hcut
  cases kq with
  | zero => exact absurd HA.1 (by simp [glisterref04_Decode.j0])
  | succ kj3 =>
   have H := HA.1
   clear HA
   simp only [glisterref04_Decode.j0] at H
   by_cases c11 : x28_3 = true
   ·subst c11
    rw [if_pos rfl] at H
    simp only [Option.some.injEq, Prod.mk.injEq] at H
    obtain ⟨rfl, rfl, rfl⟩ := H
    go_wp2
    go_ret3
    exact ⟨_, _, by first | rfl , by first | exact Kd.R_nil _ _ _ _ _ , by first | exact Kd.R_nil _ _ _ _ _ , by repeat (first | (with_reducible first | exact HB.1 ) )⟩
   ·replace c11 := Bool.eq_false_iff.mpr c11
    subst c11
    rw [if_neg (show ¬ (false = true) by decide)] at H
    by_cases c12 : 0 < (l2.length : Int)
    ·rw [if_pos c12] at H
     have c12b0 : decide (0 < (l2.length : Int)) = true := decide_eq_true c12
     have c12b1 : decide (0 < l2.length) = true := decide_eq_true (by omega)
     clear c12
     obtain ⟨t307, A130, H⟩ := Option.bind_eq_some_iff.mp H
     have A13 := Sd.mk A130
     clear A130
     by_cases c14 : (rd l2 0) = t307
     ·rw [if_pos c14] at H
      have c14b0 : ((rd l2 0) == t307) = true := beq_iff_eq.mpr c14
      have c14b1 : ((rd l2 0) != t307) = false := bne_eq_false_iff_eq.mpr c14
      clear c14
      obtain ⟨ji15, hji15⟩ : ∃ j_ : Int, (wrap64 ((l2.length : Int) - 1)) = j_ := ⟨_, rfl⟩
      replace H : (if 0 ≤ (ji15) then (if (ji15) < (l2.length : Int) then (if (ji15) ≤ (l2.length : Int) then ((glisterref04_Check.f kj3 a0_0 a0_1 l0_2 l0_3 (l2.take ((ji15) : Int).toNat)).bind fun t310 => (if (rd l2 (ji15)) = t310 then (glisterref04_Decode.l0 kj3 a1 l2 (ji15) ([] : List Int) ([] : List Int) 1 a0_0 a0_1 l0_2 l0_3) else (some (([] : List Int), ([] : List Int), 11)))) else (none)) else (none)) else (none)) = some (r1, r2, r3) := by first | (rw [hji15] at H; exact H) 
      have hji15w : (IntKind.i64.wrap ((l2.length : Int) - 1)) = ji15 := (i64_w _).trans hji15
      by_cases c16 : 0 ≤ (ji15)
      ·rw [if_pos c16] at H
       have c16b0 : decide (0 ≤ (ji15)) = true := decide_eq_true c16
       clear c16
       by_cases c17 : (ji15) < (l2.length : Int)
       ·rw [if_pos c17] at H
        have c17b0 : decide ((ji15) < (l2.length : Int)) = true := decide_eq_true c17
        clear c17
        have c18b0 := eq_true (of_decide_eq_true (by first | (with_reducible assumption) ) : 0 ≤ (ji15))
        by_cases c19 : (ji15) ≤ (l2.length : Int)
        ·rw [if_pos c19] at H
         have c19b0 := eq_true c19
         have c19b1 : decide ((ji15) ≤ (l2.length : Int)) = true := decide_eq_true c19
         clear c19
         obtain ⟨t310, A200, H⟩ := Option.bind_eq_some_iff.mp H
         have A20 := Sd.mk A200
         clear A200
         by_cases c21 : (rd l2 (ji15)) = t310
         ·rw [if_pos c21] at H
          have c21b0 : ((rd l2 (ji15)) == t310) = true := beq_iff_eq.mpr c21
          have c21b1 : ((rd l2 (ji15)) != t310) = false := bne_eq_false_iff_eq.mpr c21
          clear c21
          have H' := Sd.mk H
          clear H
          try go_wp2
          have n0_ := Sd.mk (kD BK304.1)
          have n1_ := Sd.mk (bD HB.1)
          clear BK304
          clear HB
          have BK304 := n0_
          have HB := n1_
          clear n0_ n1_
          have p306 : 0 ≤ (0 : Int) := (by omega)
          have q306 : 0 < (l2.length : Int) := of_decide_eq_true (by first | (with_reducible assumption) )
          obtain ⟨ad306, e306, hx306_0⟩ := Kd.at_int HR2.1 0 p306 q306
          have hw306_0 := hx306_0
          (try rw [show ((0 : Int)).toNat = 0 from rfl] at hw306_0)
          (try rw [Addr.add_zero'] at hw306_0)
          cases e306
          have qi306 : (0 < l2.length) = True := eq_true (by omega)
          (try rw [show ((0 : Int)).toNat = 0 from rfl] at hx306_0)
          (try rw [Addr.add_zero'] at hx306_0)
          replace hx306_0 := (HB.1.cell (World.block_lt_of_cell? w _ hx306_0)).trans hx306_0
          replace p306 := eq_true p306
          replace q306 := eq_true q306
          refine start_ (n := 7) (S := fun w' => w'.cell? ⟨gb304, 0, none⟩ = some (.int .i64 a0_0) ∧ w'.cell? ⟨gb304, 1, none⟩ = some (.int .i64 a0_1) ∧ w'.cell? ⟨gb304, 2, none⟩ = some (.slice A0_2 l0_2.length c0_2) ∧ w'.cell? ⟨gb304, 3, none⟩ = some (.slice A0_3 l0_3.length c0_3) ∧ w'.cell? ad306 = some (.int .i64 (rd l2 0))) (ds := []) #[false, false, false, false, false, false, false] (by kernel_rfl) rfl rfl ⟨(kC BK304.1 0).trans rfl, (kC BK304.1 1).trans rfl, (kC BK304.1 2).trans rfl, (kC BK304.1 3).trans rfl, ((HB.1.cell (World.block_lt_of_cell? w _ hw306_0)).trans hw306_0)⟩ (fun hHeld => ?_)
          generalize wc.drew = w22 at BK304 HB hx306_0 hHeld ⊢
          refine pure_ (i := 0) (N := some 29) (v := ?_) (a' := ?_) #[true, false, false, false, false, false, false] rfl rfl (by kernel_rfl) (fun _ _ _ h => h) (Or.inl ⟨by rfl, ?_⟩) ?_ ?_
          rotate_left
          ·intro w'
           go_simp
           with_reducible rfl
          rotate_left
          ·simp only [Act.put, List.setIfInBounds_toArray, List.set_cons_zero, List.set_cons_succ, i64_w, i32_w]
           rfl
          refine pure_ (i := 1) (N := some 30) (v := ?_) (a' := ?_) #[true, true, false, false, false, false, false] rfl rfl (by kernel_rfl) (fun _ _ _ h => h) (Or.inl ⟨by rfl, ?_⟩) ?_ ?_
          rotate_left
          ·intro w'
           go_simp
           with_reducible rfl
          rotate_left
          ·simp only [Act.put, List.setIfInBounds_toArray, List.set_cons_zero, List.set_cons_succ, i64_w, i32_w]
           rfl
          refine pure_ (i := 4) (N := some 33) (v := ?_) (a' := ?_) #[true, true, false, false, true, false, false] rfl rfl (by kernel_rfl) (fun _ _ _ h => h) (Or.inl ⟨by rfl, ?_⟩) ?_ ?_
          rotate_left
          ·intro w'
           go_simp
           with_reducible rfl
          rotate_left
          ·simp only [Act.put, List.setIfInBounds_toArray, List.set_cons_zero, List.set_cons_succ, i64_w, i32_w]
           rfl
          refine take_ (i := 2) (N := some 31) (v := ?_) (a' := ?_) #[true, true, true, false, true, false, false] rfl rfl (by kernel_rfl) (fun _ _ _ h => h) (Or.inl ⟨by rfl, ?_⟩) hHeld ?_ ?_
          rotate_left
          ·rintro w' ⟨s0, s1, s2, s3, s4⟩
           go_simp
           with_reducible rfl
          rotate_left
          ·simp only [Act.put, List.setIfInBounds_toArray, List.set_cons_zero, List.set_cons_succ, i64_w, i32_w]
           rfl
          refine take_ (i := 3) (N := some 32) (v := ?_) (a' := ?_) #[true, true, true, true, true, false, false] rfl rfl (by kernel_rfl) (fun _ _ _ h => h) (Or.inl ⟨by rfl, ?_⟩) hHeld ?_ ?_
          rotate_left
          ·rintro w' ⟨s0, s1, s2, s3, s4⟩
           go_simp
           with_reducible rfl
          rotate_left
          ·simp only [Act.put, List.setIfInBounds_toArray, List.set_cons_zero, List.set_cons_succ, i64_w, i32_w]
           rfl
          refine one_ (i := 5) (N := some 34) #[true, true, true, true, true, true, false] rfl rfl (by kernel_rfl) (by decide) (fun K hK => ?_)
          refine goes_ Try.func63 (by kernel_rfl) rfl #[.agg #[.int .i64 a0_0, .int .i64 a0_1, .slice A0_2 l0_2.length c0_2, .slice A0_3 l0_3.length c0_3], .int .i64 a1] (by rfl) rfl rfl (by (try simp only [List.map_toArray, List.map_cons, List.map_nil]); first | rfl ) ?_
          with_reducible refine (glisterref04_Indicator.calls a0_0 a0_1 _ _ l0_2 _ _ l0_3 a1 t307 _ ?side1 ?side2 ?side3 ?side4 A13.1).mono ?_
          (case side1 => repeat (first | exact (Kd.C_below HR0_2.1 HB.1) ))
          (case side2 => exact HC0_2.1)
          (case side3 => repeat (first | exact (Kd.C_below HR0_3.1 HB.1) ))
          (case side4 => exact HC0_3.1)
          rintro e w23 ⟨rfl, hb⟩
          refine ⟨_, rfl, ?_⟩
          have n0_ := Sd.mk (kB (g := gb304) (o := .cells #[.int .i64 a0_0, .int .i64 a0_1, .slice A0_2 l0_2.length c0_2, .slice A0_3 l0_3.length c0_3] 25 (0, 0)) (by (with_reducible repeat (fail)); exact BK304.1) hb)
          have n1_ := Sd.mk (bT (by repeat (first | (with_reducible first | exact HB.1 ) )) hb)
          clear BK304
          clear HB
          have BK304 := n0_
          have HB := n1_
          clear n0_ n1_
          (try clear hb)
          refine hK.out _ _ ⟨(kC BK304.1 0).trans rfl, (kC BK304.1 1).trans rfl, (kC BK304.1 2).trans rfl, (kC BK304.1 3).trans rfl, ((HB.1.cell (World.block_lt_of_cell? w _ hw306_0)).trans hw306_0)⟩ (fun hHeld => ?_)
          clear hK K
          refine norm_ (a' := ?_) ?_ ?_
          rotate_left
          ·show Act.put _ (some 34) _ = _
           simp only [Act.put, List.setIfInBounds_toArray, List.set_cons_zero, List.set_cons_succ, i64_w, i32_w]
           rfl
          refine pure_ (i := 6) (N := some 35) (v := ?_) (a' := ?_) #[true, true, true, true, true, true, true] rfl rfl (by kernel_rfl) (fun _ _ _ h => h) (Or.inl ⟨by rfl, ?_⟩) ?_ ?_
          rotate_left
          ·intro w'
           go_simp
           with_reducible rfl
          rotate_left
          ·simp only [Act.put, List.setIfInBounds_toArray, List.set_cons_zero, List.set_cons_succ, i64_w, i32_w]
           rfl
          refine done_ (by kernel_rfl) ?_
          try go_wp2
          have n0_ := Sd.mk (kD BK304.1)
          have n1_ := Sd.mk (bD HB.1)
          clear BK304
          clear HB
          have BK304 := n0_
          have HB := n1_
          clear n0_ n1_
          have p308 : 0 ≤ ((ji15) : Int) := of_decide_eq_true (by first | (with_reducible assumption) )
          have q308 : (ji15) < (l2.length : Int) := of_decide_eq_true (by first | (with_reducible assumption) )
          obtain ⟨ad308, e308, hx308_0⟩ := Kd.at_int HR2.1 (ji15) p308 q308
          have hw308_0 := hx308_0
          obtain rfl : ad306 = ad308 := (by injection e308)
          replace hx308_0 := (HB.1.cell (World.block_lt_of_cell? w _ hx308_0)).trans hx308_0
          replace p308 := eq_true p308
          replace q308 := eq_true q308
          obtain ⟨i025, hi025, _, hsz25, _⟩ := info_parts info3
          obtain ⟨hcut25, hA25, hC25⟩ := print_take_of (P := Try.prog) (Value.int .i64) 0 23 3 .i64 Try.underlying23 hi025 hsz25 (some ad306) c2 l2 (ji15) (of_decide_eq_true (by first | (with_reducible assumption) )) (of_decide_eq_true (by first | (with_reducible assumption) )) HC2.1
          have HR309 := Sd.mk (Kd.C_of_reads (h1 := fun _ => rfl) (hA25 _ (Kd.reads_of_C HR2.1)))
          have HC309 := Sd.mk hC25
          clear hA25 hC25 hi025 hsz25
          refine start_ (n := 10) (S := fun w' => w'.cell? ⟨gb304, 0, none⟩ = some (.int .i64 a0_0) ∧ w'.cell? ⟨gb304, 1, none⟩ = some (.int .i64 a0_1) ∧ w'.cell? ⟨gb304, 2, none⟩ = some (.slice A0_2 l0_2.length c0_2) ∧ w'.cell? ⟨gb304, 3, none⟩ = some (.slice A0_3 l0_3.length c0_3) ∧ w'.cell? (ad306.add ((ji15)).toNat) = some (.int .i64 (rd l2 (ji15)))) (ds := []) #[false, false, false, false, false, false, false, false, false, false] (by kernel_rfl) rfl rfl ⟨(kC BK304.1 0).trans rfl, (kC BK304.1 1).trans rfl, (kC BK304.1 2).trans rfl, (kC BK304.1 3).trans rfl, ((HB.1.cell (World.block_lt_of_cell? w _ hw308_0)).trans hw308_0)⟩ (fun hHeld => ?_); refine with_tabW glisterref04_Decode.tab6 glisterref04_Decode.bits6 (fun HT_ HW_ => ?_)
          generalize w23.drew = w24 at BK304 HB HR309 hx308_0 hHeld ⊢
          refine pure_ (i := 0) (N := some 36) (v := ?_) (a' := ?_) #[true, false, false, false, false, false, false, false, false, false] rfl rfl (any_of HT_.1 (by kernel_rfl)) (fun _ _ _ h => h) (Or.inl ⟨by rfl, ?_⟩) ?_ ?_
          rotate_left
          ·intro w'
           go_simp
           with_reducible rfl
          rotate_left
          ·simp only [Act.put, List.setIfInBounds_toArray, List.set_cons_zero, List.set_cons_succ, i64_w, i32_w]
           rfl
          refine pure_ (i := 1) (N := some 37) (v := ?_) (a' := ?_) #[true, true, false, false, false, false, false, false, false, false] rfl rfl (any_of HT_.1 (by kernel_rfl)) (fun _ _ _ h => h) (Or.inl ⟨by rfl, ?_⟩) ?_ ?_
          rotate_left
          ·intro w'
           go_simp
           with_reducible rfl
          rotate_left
          ·simp only [Act.put, List.setIfInBounds_toArray, List.set_cons_zero, List.set_cons_succ, i64_w, i32_w]
           rfl
          refine pure_ (i := 2) (N := some 38) (v := ?_) (a' := ?_) #[true, true, true, false, false, false, false, false, false, false] rfl rfl (any_of HT_.1 (by kernel_rfl)) (fun _ _ _ h => h) (Or.inl ⟨by rfl, ?_⟩) ?_ ?_
          rotate_left
          ·intro w'
           go_simp
           with_reducible rfl
          rotate_left
          ·simp only [Act.put, List.setIfInBounds_toArray, List.set_cons_zero, List.set_cons_succ, i64_w, i32_w]
           rfl
          refine pure_ (i := 5) (N := some 41) (v := ?_) (a' := ?_) #[true, true, true, false, false, true, false, false, false, false] rfl rfl (any_of HT_.1 (by kernel_rfl)) (fun _ _ _ h => h) (Or.inl ⟨by rfl, ?_⟩) ?_ ?_
          rotate_left
          ·intro w'
           go_simp
           with_reducible rfl
          rotate_left
          ·simp only [Act.put, List.setIfInBounds_toArray, List.set_cons_zero, List.set_cons_succ, i64_w, i32_w]
           rfl
          refine pure_ (i := 6) (N := some 42) (v := ?_) (a' := ?_) #[true, true, true, false, false, true, true, false, false, false] rfl rfl (any_of HT_.1 (by kernel_rfl)) (fun _ _ _ h => h) (Or.inl ⟨by rfl, ?_⟩) ?_ ?_
          rotate_left
          ·intro w'
           go_simp
           with_reducible rfl
          rotate_left
          ·simp only [Act.put, List.setIfInBounds_toArray, List.set_cons_zero, List.set_cons_succ, i64_w, i32_w]
           rfl
          refine pure_ (i := 7) (N := some 43) (v := ?_) (a' := ?_) #[true, true, true, false, false, true, true, true, false, false] rfl rfl (any_of HT_.1 (by kernel_rfl)) (fun _ _ _ h => h) (Or.inl ⟨by rfl, ?_⟩) ?_ ?_
          rotate_left
          ·intro w'
           go_simp
           with_reducible rfl
          rotate_left
          ·simp only [Act.put, List.setIfInBounds_toArray, List.set_cons_zero, List.set_cons_succ, i64_w, i32_w]
           rfl
          refine take_ (i := 3) (N := some 39) (v := ?_) (a' := ?_) #[true, true, true, true, false, true, true, true, false, false] rfl rfl (take_ofW HT_.1 HW_.1 (by kernel_rfl)) (fun _ _ _ h => h) (Or.inl ⟨by rfl, ?_⟩) hHeld ?_ ?_
          rotate_left
          ·rintro w' ⟨s0, s1, s2, s3, s4⟩
           go_simp
           with_reducible rfl
          rotate_left
          ·simp only [Act.put, List.setIfInBounds_toArray, List.set_cons_zero, List.set_cons_succ, i64_w, i32_w]
           rfl
          refine take_ (i := 4) (N := some 40) (v := ?_) (a' := ?_) #[true, true, true, true, true, true, true, true, false, false] rfl rfl (take_ofW HT_.1 HW_.1 (by kernel_rfl)) (fun _ _ _ h => h) (Or.inl ⟨by rfl, ?_⟩) hHeld ?_ ?_
          rotate_left
          ·rintro w' ⟨s0, s1, s2, s3, s4⟩
           go_simp
           with_reducible rfl
          rotate_left
          ·simp only [Act.put, List.setIfInBounds_toArray, List.set_cons_zero, List.set_cons_succ, i64_w, i32_w]
           rfl
          refine one_ (i := 8) (N := some 44) #[true, true, true, true, true, true, true, true, true, false] rfl rfl (one_of HT_.1 (by kernel_rfl)) (by decide) (fun K hK => ?_)
          refine goes_ Try.func65 (by kernel_rfl) rfl #[.agg #[.int .i64 a0_0, .int .i64 a0_1, .slice A0_2 l0_2.length c0_2, .slice A0_3 l0_3.length c0_3], .slice (some ad306) (l2.take ((ji15) : Int).toNat).length c2] (by rfl) rfl rfl (by (try simp only [List.map_toArray, List.map_cons, List.map_nil]); first | (rw [show (l2.take ((ji15) : Int).toNat).length = (ji15).toNat from (by rw [List.length_take]; have h_ : ((ji15) : Int) ≤ (l2.length : Int) := of_decide_eq_true (by first | (with_reducible assumption) ); omega)] <;> rfl) ) ?_
          with_reducible refine (glisterref04_Check.calls kj3 a0_0 a0_1 _ _ l0_2 _ _ l0_3 _ _ (l2.take ((ji15) : Int).toNat) t310 _ ?side1 ?side2 ?side3 ?side4 ?side5 ?side6 A20.1).mono ?_
          (case side1 => repeat (first | exact (Kd.C_below HR0_2.1 HB.1) ))
          (case side2 => exact HC0_2.1)
          (case side3 => repeat (first | exact (Kd.C_below HR0_3.1 HB.1) ))
          (case side4 => exact HC0_3.1)
          (case side5 => repeat (first | exact (Kd.C_below HR309.1 HB.1) ))
          (case side6 => exact HC309.1)
          rintro e w26 ⟨rfl, hb⟩
          refine ⟨_, rfl, ?_⟩
          have n0_ := Sd.mk (kB (g := gb304) (o := .cells #[.int .i64 a0_0, .int .i64 a0_1, .slice A0_2 l0_2.length c0_2, .slice A0_3 l0_3.length c0_3] 25 (0, 0)) (by (with_reducible repeat (fail)); exact BK304.1) hb)
          have n1_ := Sd.mk (bT (by repeat (first | (with_reducible first | exact HB.1 ) )) hb)
          clear BK304
          clear HB
          have BK304 := n0_
          have HB := n1_
          clear n0_ n1_
          (try clear hb)
          refine hK.out _ _ ⟨(kC BK304.1 0).trans rfl, (kC BK304.1 1).trans rfl, (kC BK304.1 2).trans rfl, (kC BK304.1 3).trans rfl, ((HB.1.cell (World.block_lt_of_cell? w _ hw308_0)).trans hw308_0)⟩ (fun hHeld => ?_)
          clear hK K
          refine norm_ (a' := ?_) ?_ ?_
          rotate_left
          ·show Act.put _ (some 44) _ = _
           simp only [Act.put, List.setIfInBounds_toArray, List.set_cons_zero, List.set_cons_succ, i64_w, i32_w]
           rfl
          refine pure_ (i := 9) (N := some 45) (v := ?_) (a' := ?_) #[true, true, true, true, true, true, true, true, true, true] rfl rfl (any_of HT_.1 (by kernel_rfl)) (fun _ _ _ h => h) (Or.inl ⟨by rfl, ?_⟩) ?_ ?_
          rotate_left
          ·intro w'
           go_simp
           with_reducible rfl
          rotate_left
          ·simp only [Act.put, List.setIfInBounds_toArray, List.set_cons_zero, List.set_cons_succ, i64_w, i32_w]
           rfl
          refine done_ (done_of HT_.1 (by kernel_rfl)) ?_
          try go_wp2
          go_loopg [10, 11, 12] kj3 (fun kq v10 v11 v12 w' => ∃ (x10_2 : List Int) (x11_2 : List Int) (x12_2 : Int), v12 = .int .i64 x12_2 ∧ Sd (glisterref04_Decode.l0 kq a1 l2 (ji15) x10_2 x11_2 x12_2 a0_0 a0_1 l0_2 l0_3 = some (r1, r2, r3)) ∧ Sd (kq ≤ kj3) ∧ Sd (Kd.R (Kd.int .i64) 3 w' w.heap.size (fun k_ => some k_ ≠ (v11 : Value).ownBlock) v10 x10_2) ∧ Sd (Kd.R (Kd.int .i64) 3 w' w.heap.size (fun k_ => some k_ ≠ (v10 : Value).ownBlock) v11 x11_2) ∧ Sd (w'.heap[gb304]? = some (.cells #[.int .i64 a0_0, .int .i64 a0_1, (.slice A0_2 l0_2.length c0_2), (.slice A0_3 l0_3.length c0_3)] 25 (0, 0))) ∧ Sd (Below w.heap.size w w'))
          case atStart => exact ⟨(([] : List Int)), (([] : List Int)), (1), (by first | rfl ), H', ⟨Nat.le_refl _⟩, ⟨by first | exact Kd.R_nil _ _ _ _ _ ⟩, ⟨by first | exact Kd.R_nil _ _ _ _ _ ⟩, ⟨by (with_reducible repeat (fail)); exact BK304.1⟩, ⟨by repeat (first | (with_reducible first | exact HB.1 ) )⟩⟩
          case round =>
           clear H'
           clear c12b0 c12b1
           clear c14b0 c14b1
           clear c16b0
           clear c17b0
           clear c18b0
           clear c19b0 c19b1
           clear c21b0 c21b1
           clear hx306_0 hx308_0
           clear p306 p308
           clear q306 q308
           obtain ⟨x10_2, x11_2, x12_2, rfl, HA, HK2, HO_10, HO_11, BK304, HB⟩ := hrel
           cases gk with
           | zero => exact absurd HA.1 (by simp [glisterref04_Decode.l0])
           | succ k2 =>
            have H := HA.1
            clear HA
            simp only [glisterref04_Decode.l0] at H
            by_cases c27 : x12_2 < (ji15)
            ·rw [if_pos c27] at H
             have c27b0 : decide (x12_2 < (ji15)) = true := decide_eq_true c27
             clear c27
             by_cases c28 : 0 ≤ a1
             ·rw [if_pos c28] at H
              have c28b0 : decide (0 ≤ a1) = true := decide_eq_true c28
              clear c28
              by_cases c29 : a1 < (l0_3.length : Int)
              ·rw [if_pos c29] at H
               have c29b0 : decide (a1 < (l0_3.length : Int)) = true := decide_eq_true c29
               clear c29
               by_cases c30 : 0 ≤ (rd l0_3 a1)
               ·rw [if_pos c30] at H
                have c30b0 : decide (0 ≤ (rd l0_3 a1)) = true := decide_eq_true c30
                clear c30
                by_cases c31 : (rd l0_3 a1) < (l0_2.length : Int)
                ·rw [if_pos c31] at H
                 have c31b0 : decide ((rd l0_3 a1) < (l0_2.length : Int)) = true := decide_eq_true c31
                 clear c31
                 by_cases c32 : 0 ≤ x12_2
                 ·rw [if_pos c32] at H
                  have c32b0 : decide (0 ≤ x12_2) = true := decide_eq_true c32
                  clear c32
                  by_cases c33 : x12_2 < (l2.length : Int)
                  ·rw [if_pos c33] at H
                   have c33b0 : decide (x12_2 < (l2.length : Int)) = true := decide_eq_true c33
                   clear c33
                   obtain ⟨t314, A340, H⟩ := Option.bind_eq_some_iff.mp H
                   have A34 := Sd.mk A340
                   clear A340
                   by_cases c35 : x10_2.length < 17592186044416
                   ·rw [if_pos c35] at H
                    have LMc35 := Sd.mk c35
                    clear c35
                    obtain ⟨y315, hy315⟩ : ∃ y_ : List Int, y_ = (x10_2 ++ [t314]) := ⟨_, rfl⟩
                    replace H : (if t314 < a0_1 then (if x11_2.length < 17592186044416 then (glisterref04_Decode.l0 k2 a1 l2 (ji15) y315 (x11_2 ++ [t314]) (wrap64 (x12_2 + 1)) a0_0 a0_1 l0_2 l0_3) else (none)) else (glisterref04_Decode.l0 k2 a1 l2 (ji15) y315 x11_2 (wrap64 (x12_2 + 1)) a0_0 a0_1 l0_2 l0_3)) = some (r1, r2, r3) := by first | (have H2_ := (Option.bind_some _ _).symm.trans H; rw [hy315]; with_reducible exact H2_) 
                    have Ny315 := Sd.mk hy315
                    clear hy315
                    by_cases c36 : t314 < a0_1
                    ·rw [if_pos c36] at H
                     have c36b0 : decide (t314 < a0_1) = true := decide_eq_true c36
                     clear c36
                     by_cases c37 : x11_2.length < 17592186044416
                     ·rw [if_pos c37] at H
                      have LMc37 := Sd.mk c37
                      clear c37
                      obtain ⟨y318, hy318⟩ : ∃ y_ : List Int, y_ = (x11_2 ++ [t314]) := ⟨_, rfl⟩
                      replace H : (glisterref04_Decode.l0 k2 a1 l2 (ji15) y315 y318 (wrap64 (x12_2 + 1)) a0_0 a0_1 l0_2 l0_3) = some (r1, r2, r3) := by first | (rw [hy318]; with_reducible exact H) 
                      have Ny318 := Sd.mk hy318
                      clear hy318
                      have H' := Sd.mk H
                      clear H
                      try go_wp2
                      have n0_ := Sd.mk (Kd.R_drew HO_10.1)
                      have n1_ := Sd.mk (Kd.R_drew HO_11.1)
                      have n2_ := Sd.mk (kD BK304.1)
                      have n3_ := Sd.mk (bD HB.1)
                      clear HO_10
                      clear HO_11
                      clear BK304
                      clear HB
                      have HO_10 := n0_
                      have HO_11 := n1_
                      have BK304 := n2_
                      have HB := n3_
                      clear n0_ n1_ n2_ n3_
                      have p311 : 0 ≤ (a1 : Int) := of_decide_eq_true (by first | (with_reducible assumption) )
                      have q311 : a1 < (l0_3.length : Int) := of_decide_eq_true (by first | (with_reducible assumption) )
                      obtain ⟨ad311, e311, hx311_0⟩ := Kd.at_int HR0_3.1 a1 p311 q311
                      have hw311_0 := hx311_0
                      cases e311
                      replace hx311_0 := (HB.1.cell (World.block_lt_of_cell? w _ hx311_0)).trans hx311_0
                      replace p311 := eq_true p311
                      replace q311 := eq_true q311
                      have p312 : 0 ≤ ((rd l0_3 a1) : Int) := of_decide_eq_true (by first | (with_reducible assumption) )
                      have q312 : (rd l0_3 a1) < (l0_2.length : Int) := of_decide_eq_true (by first | (with_reducible assumption) )
                      obtain ⟨ad312, e312, hx312_0, hx312_1, hx312_2⟩ := at_T82 HR0_2.1 (rd l0_3 a1) p312 q312
                      have hw312_2 := hx312_2
                      have hw312_1 := hx312_1
                      have hw312_0 := hx312_0
                      cases e312
                      replace hx312_0 := (HB.1.cell (World.block_lt_of_cell? w _ hx312_0)).trans hx312_0
                      replace hx312_1 := (HB.1.cell (World.block_lt_of_cell? w _ hx312_1)).trans hx312_1
                      replace hx312_2 := (HB.1.cell (World.block_lt_of_cell? w _ hx312_2)).trans hx312_2
                      replace p312 := eq_true p312
                      replace q312 := eq_true q312
                      have p313 : 0 ≤ (x12_2 : Int) := of_decide_eq_true (by first | (with_reducible assumption) )
                      have q313 : x12_2 < (l2.length : Int) := of_decide_eq_true (by first | (with_reducible assumption) )
                      obtain ⟨ad313, e313, hx313_0⟩ := Kd.at_int HR2.1 x12_2 p313 q313
                      have hw313_0 := hx313_0
                      obtain rfl : ad306 = ad313 := (by injection e313)
                      replace hx313_0 := (HB.1.cell (World.block_lt_of_cell? w _ hx313_0)).trans hx313_0
                      replace p313 := eq_true p313
                      replace q313 := eq_true q313
                      refine start_ (n := 18) (S := fun w' => w'.cell? ⟨gb304, 0, none⟩ = some (.int .i64 a0_0) ∧ w'.cell? ⟨gb304, 1, none⟩ = some (.int .i64 a0_1) ∧ w'.cell? ⟨gb304, 2, none⟩ = some (.slice (some ad312) l0_2.length c0_2) ∧ w'.cell? ⟨gb304, 3, none⟩ = some (.slice (some ad311) l0_3.length c0_3) ∧ w'.cell? (ad311.add (a1).toNat) = some (.int .i64 (rd l0_3 a1)) ∧ w'.cell? (ad312.add (((rd l0_3 a1)).toNat * 3)) = some (.int .i64 ((rd_T82 l0_2 (rd l0_3 a1)).f0)) ∧ w'.cell? ⟨(ad312.add (((rd l0_3 a1)).toNat * 3)).block, (ad312.add (((rd l0_3 a1)).toNat * 3)).off + 1, none⟩ = some (.int .i64 ((rd_T82 l0_2 (rd l0_3 a1)).f1)) ∧ w'.cell? ⟨(ad312.add (((rd l0_3 a1)).toNat * 3)).block, (ad312.add (((rd l0_3 a1)).toNat * 3)).off + 2, none⟩ = some (.int .i64 ((rd_T82 l0_2 (rd l0_3 a1)).f2)) ∧ w'.cell? (ad306.add (x12_2).toNat) = some (.int .i64 (rd l2 x12_2))) (ds := []) #[false, false, false, false, false, false, false, false, false, false, false, false, false, false, false, false, false, false] (by kernel_rfl) rfl rfl ⟨(kC BK304.1 0).trans rfl, (kC BK304.1 1).trans rfl, (kC BK304.1 2).trans rfl, (kC BK304.1 3).trans rfl, ((HB.1.cell (World.block_lt_of_cell? w _ hw311_0)).trans hw311_0), ((HB.1.cell (World.block_lt_of_cell? w _ hw312_0)).trans hw312_0), ((HB.1.cell (World.block_lt_of_cell? w _ hw312_1)).trans hw312_1), ((HB.1.cell (World.block_lt_of_cell? w _ hw312_2)).trans hw312_2), ((HB.1.cell (World.block_lt_of_cell? w _ hw313_0)).trans hw313_0)⟩ (fun hHeld => ?_); refine with_tabW glisterref04_Decode.tab12 glisterref04_Decode.bits12 (fun HT_ HW_ => ?_)
                      generalize wr.drew = w38 at HO_10 HO_11 BK304 HB hx311_0 hx312_0 hx312_1 hx312_2 hx313_0 hHeld ⊢
                      refine pure_ (i := 1) (N := some 52) (v := ?_) (a' := ?_) #[false, true, false, false, false, false, false, false, false, false, false, false, false, false, false, false, false, false] rfl rfl (any_of HT_.1 (by kernel_rfl)) (fun _ _ _ h => h) (Or.inl ⟨by rfl, ?_⟩) ?_ ?_
                      rotate_left
                      ·intro w'
                       go_simp
                       with_reducible rfl
                      rotate_left
                      ·simp only [Act.put, List.setIfInBounds_toArray, List.set_cons_zero, List.set_cons_succ, i64_w, i32_w]
                       rfl
                      refine pure_ (i := 3) (N := some 54) (v := ?_) (a' := ?_) #[false, true, false, true, false, false, false, false, false, false, false, false, false, false, false, false, false, false] rfl rfl (any_of HT_.1 (by kernel_rfl)) (fun _ _ _ h => h) (Or.inl ⟨by rfl, ?_⟩) ?_ ?_
                      rotate_left
                      ·intro w'
                       go_simp
                       with_reducible rfl
                      rotate_left
                      ·simp only [Act.put, List.setIfInBounds_toArray, List.set_cons_zero, List.set_cons_succ, i64_w, i32_w]
                       rfl
                      refine pure_ (i := 5) (N := some 56) (v := ?_) (a' := ?_) #[false, true, false, true, false, true, false, false, false, false, false, false, false, false, false, false, false, false] rfl rfl (any_of HT_.1 (by kernel_rfl)) (fun _ _ _ h => h) (Or.inl ⟨by rfl, ?_⟩) ?_ ?_
                      rotate_left
                      ·intro w'
                       go_simp
                       with_reducible rfl
                      rotate_left
                      ·simp only [Act.put, List.setIfInBounds_toArray, List.set_cons_zero, List.set_cons_succ, i64_w, i32_w]
                       rfl
                      refine pure_ (i := 10) (N := some 61) (v := ?_) (a' := ?_) #[false, true, false, true, false, true, false, false, false, false, true, false, false, false, false, false, false, false] rfl rfl (any_of HT_.1 (by kernel_rfl)) (fun _ _ _ h => h) (Or.inl ⟨by rfl, ?_⟩) ?_ ?_
                      rotate_left
                      ·intro w'
                       go_simp
                       with_reducible rfl
                      rotate_left
                      ·simp only [Act.put, List.setIfInBounds_toArray, List.set_cons_zero, List.set_cons_succ, i64_w, i32_w]
                       rfl
                      refine pure_ (i := 11) (N := some 62) (v := ?_) (a' := ?_) #[false, true, false, true, false, true, false, false, false, false, true, true, false, false, false, false, false, false] rfl rfl (any_of HT_.1 (by kernel_rfl)) (fun _ _ _ h => h) (Or.inl ⟨by rfl, ?_⟩) ?_ ?_
                      rotate_left
                      ·intro w'
                       go_simp
                       with_reducible rfl
                      rotate_left
                      ·simp only [Act.put, List.setIfInBounds_toArray, List.set_cons_zero, List.set_cons_succ, i64_w, i32_w]
                       rfl
                      refine pure_ (i := 12) (N := some 63) (v := ?_) (a' := ?_) #[false, true, false, true, false, true, false, false, false, false, true, true, true, false, false, false, false, false] rfl rfl (any_of HT_.1 (by kernel_rfl)) (fun _ _ _ h => h) (Or.inl ⟨by rfl, ?_⟩) ?_ ?_
                      rotate_left
                      ·intro w'
                       go_simp
                       with_reducible rfl
                      rotate_left
                      ·simp only [Act.put, List.setIfInBounds_toArray, List.set_cons_zero, List.set_cons_succ, i64_w, i32_w]
                       rfl
                      refine pure_ (i := 14) (N := some 65) (v := ?_) (a' := ?_) #[false, true, false, true, false, true, false, false, false, false, true, true, true, false, true, false, false, false] rfl rfl (any_of HT_.1 (by kernel_rfl)) (fun _ _ _ h => h) (Or.inl ⟨by rfl, ?_⟩) ?_ ?_
                      rotate_left
                      ·intro w'
                       go_simp
                       with_reducible rfl
                      rotate_left
                      ·simp only [Act.put, List.setIfInBounds_toArray, List.set_cons_zero, List.set_cons_succ, i64_w, i32_w]
                       rfl
                      refine pure_ (i := 15) (N := some 66) (v := ?_) (a' := ?_) #[false, true, false, true, false, true, false, false, false, false, true, true, true, false, true, true, false, false] rfl rfl (any_of HT_.1 (by kernel_rfl)) (fun _ _ _ h => h) (Or.inl ⟨by rfl, ?_⟩) ?_ ?_
                      rotate_left
                      ·intro w'
                       go_simp
                       with_reducible rfl
                      rotate_left
                      ·simp only [Act.put, List.setIfInBounds_toArray, List.set_cons_zero, List.set_cons_succ, i64_w, i32_w]
                       rfl
                      refine take_ (i := 0) (N := some 51) (v := ?_) (a' := ?_) #[true, true, false, true, false, true, false, false, false, false, true, true, true, false, true, true, false, false] rfl rfl (take_ofW HT_.1 HW_.1 (by kernel_rfl)) (fun _ _ _ h => h) (Or.inl ⟨by rfl, ?_⟩) hHeld ?_ ?_
                      rotate_left
                      ·rintro w' ⟨s0, s1, s2, s3, s4, s5, s6, s7, s8⟩
                       go_simp
                       with_reducible rfl
                      rotate_left
                      ·simp only [Act.put, List.setIfInBounds_toArray, List.set_cons_zero, List.set_cons_succ, i64_w, i32_w]
                       rfl
                      refine take_ (i := 2) (N := some 53) (v := ?_) (a' := ?_) #[true, true, true, true, false, true, false, false, false, false, true, true, true, false, true, true, false, false] rfl rfl (take_ofW HT_.1 HW_.1 (by kernel_rfl)) (fun _ _ _ h => h) (Or.inl ⟨by rfl, ?_⟩) hHeld ?_ ?_
                      rotate_left
                      ·rintro w' ⟨s0, s1, s2, s3, s4, s5, s6, s7, s8⟩
                       go_simp
                       with_reducible rfl
                      rotate_left
                      ·simp only [Act.put, List.setIfInBounds_toArray, List.set_cons_zero, List.set_cons_succ, i64_w, i32_w]
                       rfl
                      refine take_ (i := 4) (N := some 55) (v := ?_) (a' := ?_) #[true, true, true, true, true, true, false, false, false, false, true, true, true, false, true, true, false, false] rfl rfl (take_ofW HT_.1 HW_.1 (by kernel_rfl)) (fun _ _ _ h => h) (Or.inl ⟨by rfl, ?_⟩) hHeld ?_ ?_
                      rotate_left
                      ·rintro w' ⟨s0, s1, s2, s3, s4, s5, s6, s7, s8⟩
                       go_simp
                       with_reducible rfl
                      rotate_left
                      ·simp only [Act.put, List.setIfInBounds_toArray, List.set_cons_zero, List.set_cons_succ, i64_w, i32_w]
                       rfl
                      refine pure_ (i := 6) (N := some 57) (v := ?_) (a' := ?_) #[true, true, true, true, true, true, true, false, false, false, true, true, true, false, true, true, false, false] rfl rfl (any_of HT_.1 (by kernel_rfl)) (fun _ _ _ h => h) (Or.inl ⟨by rfl, ?_⟩) ?_ ?_
                      rotate_left
                      ·intro w'
                       go_simp
                       with_reducible rfl
                      rotate_left
                      ·simp only [Act.put, List.setIfInBounds_toArray, List.set_cons_zero, List.set_cons_succ, i64_w, i32_w]
                       rfl
                      refine take_ (i := 7) (N := some 58) (v := ?_) (a' := ?_) #[true, true, true, true, true, true, true, true, false, false, true, true, true, false, true, true, false, false] rfl rfl (take_ofW HT_.1 HW_.1 (by kernel_rfl)) (fun _ _ _ h => h) (Or.inl ⟨by rfl, ?_⟩) hHeld ?_ ?_
                      rotate_left
                      ·rintro w' ⟨s0, s1, s2, s3, s4, s5, s6, s7, s8⟩
                       go_simp
                       with_reducible rfl
                      rotate_left
                      ·simp only [Act.put, List.setIfInBounds_toArray, List.set_cons_zero, List.set_cons_succ, i64_w, i32_w]
                       rfl
                      refine pure_ (i := 8) (N := some 59) (v := ?_) (a' := ?_) #[true, true, true, true, true, true, true, true, true, false, true, true, true, false, true, true, false, false] rfl rfl (any_of HT_.1 (by kernel_rfl)) (fun _ _ _ h => h) (Or.inl ⟨by rfl, ?_⟩) ?_ ?_
                      rotate_left
                      ·intro w'
                       go_simp
                       with_reducible rfl
                      rotate_left
                      ·simp only [Act.put, List.setIfInBounds_toArray, List.set_cons_zero, List.set_cons_succ, i64_w, i32_w]
                       rfl
                      refine take_ (i := 9) (N := some 60) (v := ?_) (a' := ?_) #[true, true, true, true, true, true, true, true, true, true, true, true, true, false, true, true, false, false] rfl rfl (take_ofW HT_.1 HW_.1 (by kernel_rfl)) (fun _ _ _ h => h) (Or.inl ⟨by rfl, ?_⟩) hHeld ?_ ?_
                      rotate_left
                      ·rintro w' ⟨s0, s1, s2, s3, s4, s5, s6, s7, s8⟩
                       go_simp
                       with_reducible rfl
                      rotate_left
                      ·simp only [Act.put, List.setIfInBounds_toArray, List.set_cons_zero, List.set_cons_succ, i64_w, i32_w]
                       rfl
                      refine take_ (i := 13) (N := some 64) (v := ?_) (a' := ?_) #[true, true, true, true, true, true, true, true, true, true, true, true, true, true, true, true, false, false] rfl rfl (take_ofW HT_.1 HW_.1 (by kernel_rfl)) (fun _ _ _ h => h) (Or.inl ⟨by rfl, ?_⟩) hHeld ?_ ?_
                      rotate_left
                      ·rintro w' ⟨s0, s1, s2, s3, s4, s5, s6, s7, s8⟩
                       go_simp
                       with_reducible rfl
                      rotate_left
                      ·simp only [Act.put, List.setIfInBounds_toArray, List.set_cons_zero, List.set_cons_succ, i64_w, i32_w]
                       rfl
                      refine one_ (i := 16) (N := some 67) #[true, true, true, true, true, true, true, true, true, true, true, true, true, true, true, true, true, false] rfl rfl (one_of HT_.1 (by kernel_rfl)) (by decide) (fun K hK => ?_)
                      refine goes_ Try.func70 (by kernel_rfl) rfl #[.agg #[.int .i64 a0_0, .int .i64 a0_1, .slice (some ad312) l0_2.length c0_2, .slice (some ad311) l0_3.length c0_3], .agg #[.int .i64 ((rd_T82 l0_2 (rd l0_3 a1)).f0), .int .i64 ((rd_T82 l0_2 (rd l0_3 a1)).f1), .int .i64 ((rd_T82 l0_2 (rd l0_3 a1)).f2)], .int .i64 (rd l2 x12_2), .int .i64 (wrap64 (x12_2 - 1))] (by rfl) rfl rfl (by (try simp only [List.map_toArray, List.map_cons, List.map_nil]); first | rfl ) ?_
                      with_reducible refine (glisterref04_Means.calls k2 a0_0 a0_1 _ _ l0_2 _ _ l0_3 ((rd_T82 l0_2 (rd l0_3 a1)).f0) ((rd_T82 l0_2 (rd l0_3 a1)).f1) ((rd_T82 l0_2 (rd l0_3 a1)).f2) (rd l2 x12_2) (wrap64 (x12_2 - 1)) t314 _ ?side1 ?side2 ?side3 ?side4 A34.1).mono ?_
                      (case side1 => repeat (first | exact (Kd.C_below HR0_2.1 HB.1) ))
                      (case side2 => exact HC0_2.1)
                      (case side3 => repeat (first | exact (Kd.C_below HR0_3.1 HB.1) ))
                      (case side4 => exact HC0_3.1)
                      rintro e w39 ⟨rfl, hb⟩
                      refine ⟨_, rfl, ?_⟩
                      have n0_ := Sd.mk (Kd.R_below (by (with_reducible repeat (fail)); exact HO_10.1) hb)
                      have n1_ := Sd.mk (Kd.R_below (by (with_reducible repeat (fail)); exact HO_11.1) hb)
                      have n2_ := Sd.mk (kB (g := gb304) (o := .cells #[.int .i64 a0_0, .int .i64 a0_1, .slice (some ad312) l0_2.length c0_2, .slice (some ad311) l0_3.length c0_3] 25 (0, 0)) (by (with_reducible repeat (fail)); exact BK304.1) hb)
                      have n3_ := Sd.mk (bT (by repeat (first | (with_reducible first | exact HB.1 ) )) hb)
                      clear HO_10
                      clear HO_11
                      clear BK304
                      clear HB
                      have HO_10 := n0_
                      have HO_11 := n1_
                      have BK304 := n2_
                      have HB := n3_
                      clear n0_ n1_ n2_ n3_
                      (try clear hb)
                      refine hK.out _ _ ⟨(kC BK304.1 0).trans rfl, (kC BK304.1 1).trans rfl, (kC BK304.1 2).trans rfl, (kC BK304.1 3).trans rfl, ((HB.1.cell (World.block_lt_of_cell? w _ hw311_0)).trans hw311_0), ((HB.1.cell (World.block_lt_of_cell? w _ hw312_0)).trans hw312_0), ((HB.1.cell (World.block_lt_of_cell? w _ hw312_1)).trans hw312_1), ((HB.1.cell (World.block_lt_of_cell? w _ hw312_2)).trans hw312_2), ((HB.1.cell (World.block_lt_of_cell? w _ hw313_0)).trans hw313_0)⟩ (fun hHeld => ?_)
                      clear hK K
                      refine norm_ (a' := ?_) ?_ ?_
                      rotate_left
                      ·show Act.put _ (some 67) _ = _
                       simp only [Act.put, List.setIfInBounds_toArray, List.set_cons_zero, List.set_cons_succ, i64_w, i32_w]
                       rfl
                      refine pure_ (i := 17) (N := some 13) (v := ?_) (a' := ?_) #[true, true, true, true, true, true, true, true, true, true, true, true, true, true, true, true, true, true] rfl rfl (any_of HT_.1 (by kernel_rfl)) (fun _ _ _ h => h) (Or.inl ⟨by rfl, ?_⟩) ?_ ?_
                      rotate_left
                      ·intro w'
                       go_simp
                       with_reducible rfl
                      rotate_left
                      ·simp only [Act.put, List.setIfInBounds_toArray, List.set_cons_zero, List.set_cons_succ, i64_w, i32_w]
                       rfl
                      refine done_ (done_of HT_.1 (by kernel_rfl)) ?_
                      try go_wp2_with (first | ((with_reducible refine gate_builtin (b := .append) (xs := #[.tmp 68, .tmp 70]) rfl ?_); at_builtin; refine Kd.R_append (Kd.int .i64) (w0 := w) w.heap.size rfl (.tmp 68) (.tmp 70) 23 3 (.int .i64 0) 8 rfl Try.underlying23 info3 rfl (by decide) (by omega) u10 x10_2 t314 [.int .i64 t314] (fun k_ => some k_ ≠ (u11 : Value).ownBlock) (fun _ => False) rfl rfl ?aP (fun _ hk => hk.elim) ?aF ?aO ?aB ?aS ?aL ?_; (case aP => exact rfl); (case aB => exact (by repeat (first | (with_reducible first | exact HB.1 ) ))); (case aF => exact (fun k_ hk => Kd.fresh' (Kd.R_lt (by (with_reducible repeat (fail)); exact HO_11.1)) k_ hk)); (case aO => exact (by (with_reducible repeat (fail)); exact HO_10.1)); (case aS => exact (bZ (by repeat (first | (with_reducible first | exact HB.1 ) )))); (case aL => have := LMc35.1; omega); intro v316 w40 ho hb hg hat; rw [← Ny315.1] at ho; replace HO_11 := Sd.mk (Kd.R_after (ok := (fun _ => True)) (by (with_reducible repeat (fail)); exact Kd.R_mono HO_11.1 (fun _ hk => ⟨trivial, hk⟩)) hg hat); replace BK304 := Sd.mk (blk_grown (g := gb304) (o := .cells #[.int .i64 a0_0, .int .i64 a0_1, .slice (some ad312) l0_2.length c0_2, .slice (some ad311) l0_3.length c0_3] 25 (0, 0)) (by (with_reducible repeat (fail)); exact BK304.1) hg (Kd.R_ne HO_10.1 BK304.1 (by decide))); replace HB := Sd.mk (hb); have HO317 := Sd.mk (ho); clear HO_10; clear ho hb hg hat; have z_41_1 : w40.cell? ⟨gb304, 1, none⟩ = some (.int .i64 a0_1) := (kC BK304.1 1).trans rfl) | ((with_reducible refine gate_builtin (b := .append) (xs := #[.tmp 76, .tmp 78]) rfl ?_); at_builtin; refine Kd.R_append (Kd.int .i64) (w0 := w) w.heap.size rfl (.tmp 76) (.tmp 78) 23 3 (.int .i64 0) 8 rfl Try.underlying23 info3 rfl (by decide) (by omega) u11 x11_2 t314 [.int .i64 t314] (fun k_ => some k_ ≠ (v316 : Value).ownBlock) (fun _ => False) rfl rfl ?aP (fun _ hk => hk.elim) ?aF ?aO ?aB ?aS ?aL ?_; (case aP => exact rfl); (case aB => exact (by repeat (first | (with_reducible first | exact HB.1 ) ))); (case aF => exact (fun k_ hk => Kd.fresh' (Kd.R_lt (by (with_reducible repeat (fail)); exact HO317.1)) k_ hk)); (case aO => exact (by (with_reducible repeat (fail)); exact Kd.R_mono HO_11.1 (fun _ hk => hk.2))); (case aS => exact (bZ (by repeat (first | (with_reducible first | exact HB.1 ) )))); (case aL => have := LMc37.1; omega); intro v319 w42 ho hb hg hat; rw [← Ny318.1] at ho; replace BK304 := Sd.mk (blk_grown (g := gb304) (o := .cells #[.int .i64 a0_0, .int .i64 a0_1, .slice (some ad312) l0_2.length c0_2, .slice (some ad311) l0_3.length c0_3] 25 (0, 0)) (by (with_reducible repeat (fail)); exact BK304.1) hg (Kd.R_ne HO_11.1 BK304.1 (by decide))); replace HO317 := Sd.mk (Kd.R_after (ok := (fun _ => True)) (by (with_reducible repeat (fail)); exact Kd.R_mono HO317.1 (fun _ hk => ⟨trivial, hk⟩)) hg hat); replace HB := Sd.mk (hb); have HO320 := Sd.mk (ho); clear HO_11; clear ho hb hg hat))
                      go_roundg k2
                      case measure => have := HJ3.1; have := HK2.1; omega
                      case rel => exact ⟨(y315), (y318), (wrap64 (x12_2 + 1)), (by first | rfl ), H', ⟨by have := HJ3.1; have := HK2.1; omega⟩, ⟨by (with_reducible repeat (fail)); exact Kd.R_mono HO317.1 (fun _ hk => hk.2)⟩, ⟨by (with_reducible repeat (fail)); exact HO320.1⟩, ⟨by (with_reducible repeat (fail)); exact BK304.1⟩, ⟨by repeat (first | (with_reducible first | exact HB.1 ) )⟩⟩
                     ·rw [if_neg c37] at H
                      exact absurd H (by simp)
                    ·rw [if_neg c36] at H
                     have c36b0 : decide (t314 < a0_1) = false := decide_eq_false c36
                     clear c36
                     have H' := Sd.mk H
                     clear H
                     try go_wp2
                     have n0_ := Sd.mk (Kd.R_drew HO_10.1)
                     have n1_ := Sd.mk (Kd.R_drew HO_11.1)
                     have n2_ := Sd.mk (kD BK304.1)
                     have n3_ := Sd.mk (bD HB.1)
                     clear HO_10
                     clear HO_11
                     clear BK304
                     clear HB
                     have HO_10 := n0_
                     have HO_11 := n1_
                     have BK304 := n2_
                     have HB := n3_
                     clear n0_ n1_ n2_ n3_
                     have p311 : 0 ≤ (a1 : Int) := of_decide_eq_true (by first | (with_reducible assumption) )
                     have q311 : a1 < (l0_3.length : Int) := of_decide_eq_true (by first | (with_reducible assumption) )
                     obtain ⟨ad311, e311, hx311_0⟩ := Kd.at_int HR0_3.1 a1 p311 q311
                     have hw311_0 := hx311_0
                     cases e311
                     replace hx311_0 := (HB.1.cell (World.block_lt_of_cell? w _ hx311_0)).trans hx311_0
                     replace p311 := eq_true p311
                     replace q311 := eq_true q311
                     have p312 : 0 ≤ ((rd l0_3 a1) : Int) := of_decide_eq_true (by first | (with_reducible assumption) )
                     have q312 : (rd l0_3 a1) < (l0_2.length : Int) := of_decide_eq_true (by first | (with_reducible assumption) )
                     obtain ⟨ad312, e312, hx312_0, hx312_1, hx312_2⟩ := at_T82 HR0_2.1 (rd l0_3 a1) p312 q312
                     have hw312_2 := hx312_2
                     have hw312_1 := hx312_1
                     have hw312_0 := hx312_0
                     cases e312
                     replace hx312_0 := (HB.1.cell (World.block_lt_of_cell? w _ hx312_0)).trans hx312_0
                     replace hx312_1 := (HB.1.cell (World.block_lt_of_cell? w _ hx312_1)).trans hx312_1
                     replace hx312_2 := (HB.1.cell (World.block_lt_of_cell? w _ hx312_2)).trans hx312_2
                     replace p312 := eq_true p312
                     replace q312 := eq_true q312
                     have p313 : 0 ≤ (x12_2 : Int) := of_decide_eq_true (by first | (with_reducible assumption) )
                     have q313 : x12_2 < (l2.length : Int) := of_decide_eq_true (by first | (with_reducible assumption) )
                     obtain ⟨ad313, e313, hx313_0⟩ := Kd.at_int HR2.1 x12_2 p313 q313
                     have hw313_0 := hx313_0
                     obtain rfl : ad306 = ad313 := (by injection e313)
                     replace hx313_0 := (HB.1.cell (World.block_lt_of_cell? w _ hx313_0)).trans hx313_0
                     replace p313 := eq_true p313
                     replace q313 := eq_true q313
                     refine start_ (n := 18) (S := fun w' => w'.cell? ⟨gb304, 0, none⟩ = some (.int .i64 a0_0) ∧ w'.cell? ⟨gb304, 1, none⟩ = some (.int .i64 a0_1) ∧ w'.cell? ⟨gb304, 2, none⟩ = some (.slice (some ad312) l0_2.length c0_2) ∧ w'.cell? ⟨gb304, 3, none⟩ = some (.slice (some ad311) l0_3.length c0_3) ∧ w'.cell? (ad311.add (a1).toNat) = some (.int .i64 (rd l0_3 a1)) ∧ w'.cell? (ad312.add (((rd l0_3 a1)).toNat * 3)) = some (.int .i64 ((rd_T82 l0_2 (rd l0_3 a1)).f0)) ∧ w'.cell? ⟨(ad312.add (((rd l0_3 a1)).toNat * 3)).block, (ad312.add (((rd l0_3 a1)).toNat * 3)).off + 1, none⟩ = some (.int .i64 ((rd_T82 l0_2 (rd l0_3 a1)).f1)) ∧ w'.cell? ⟨(ad312.add (((rd l0_3 a1)).toNat * 3)).block, (ad312.add (((rd l0_3 a1)).toNat * 3)).off + 2, none⟩ = some (.int .i64 ((rd_T82 l0_2 (rd l0_3 a1)).f2)) ∧ w'.cell? (ad306.add (x12_2).toNat) = some (.int .i64 (rd l2 x12_2))) (ds := []) #[false, false, false, false, false, false, false, false, false, false, false, false, false, false, false, false, false, false] (by kernel_rfl) rfl rfl ⟨(kC BK304.1 0).trans rfl, (kC BK304.1 1).trans rfl, (kC BK304.1 2).trans rfl, (kC BK304.1 3).trans rfl, ((HB.1.cell (World.block_lt_of_cell? w _ hw311_0)).trans hw311_0), ((HB.1.cell (World.block_lt_of_cell? w _ hw312_0)).trans hw312_0), ((HB.1.cell (World.block_lt_of_cell? w _ hw312_1)).trans hw312_1), ((HB.1.cell (World.block_lt_of_cell? w _ hw312_2)).trans hw312_2), ((HB.1.cell (World.block_lt_of_cell? w _ hw313_0)).trans hw313_0)⟩ (fun hHeld => ?_); refine with_tabW glisterref04_Decode.tab12 glisterref04_Decode.bits12 (fun HT_ HW_ => ?_)
                     generalize wr.drew = w43 at HO_10 HO_11 BK304 HB hx311_0 hx312_0 hx312_1 hx312_2 hx313_0 hHeld ⊢
                     refine pure_ (i := 1) (N := some 52) (v := ?_) (a' := ?_) #[false, true, false, false, false, false, false, false, false, false, false, false, false, false, false, false, false, false] rfl rfl (any_of HT_.1 (by kernel_rfl)) (fun _ _ _ h => h) (Or.inl ⟨by rfl, ?_⟩) ?_ ?_
                     rotate_left
                     ·intro w'
                      go_simp
                      with_reducible rfl
                     rotate_left
                     ·simp only [Act.put, List.setIfInBounds_toArray, List.set_cons_zero, List.set_cons_succ, i64_w, i32_w]
                      rfl
                     refine pure_ (i := 3) (N := some 54) (v := ?_) (a' := ?_) #[false, true, false, true, false, false, false, false, false, false, false, false, false, false, false, false, false, false] rfl rfl (any_of HT_.1 (by kernel_rfl)) (fun _ _ _ h => h) (Or.inl ⟨by rfl, ?_⟩) ?_ ?_
                     rotate_left
                     ·intro w'
                      go_simp
                      with_reducible rfl
                     rotate_left
                     ·simp only [Act.put, List.setIfInBounds_toArray, List.set_cons_zero, List.set_cons_succ, i64_w, i32_w]
                      rfl
                     refine pure_ (i := 5) (N := some 56) (v := ?_) (a' := ?_) #[false, true, false, true, false, true, false, false, false, false, false, false, false, false, false, false, false, false] rfl rfl (any_of HT_.1 (by kernel_rfl)) (fun _ _ _ h => h) (Or.inl ⟨by rfl, ?_⟩) ?_ ?_
                     rotate_left
                     ·intro w'
                      go_simp
                      with_reducible rfl
                     rotate_left
                     ·simp only [Act.put, List.setIfInBounds_toArray, List.set_cons_zero, List.set_cons_succ, i64_w, i32_w]
                      rfl
                     refine pure_ (i := 10) (N := some 61) (v := ?_) (a' := ?_) #[false, true, false, true, false, true, false, false, false, false, true, false, false, false, false, false, false, false] rfl rfl (any_of HT_.1 (by kernel_rfl)) (fun _ _ _ h => h) (Or.inl ⟨by rfl, ?_⟩) ?_ ?_
                     rotate_left
                     ·intro w'
                      go_simp
                      with_reducible rfl
                     rotate_left
                     ·simp only [Act.put, List.setIfInBounds_toArray, List.set_cons_zero, List.set_cons_succ, i64_w, i32_w]
                      rfl
                     refine pure_ (i := 11) (N := some 62) (v := ?_) (a' := ?_) #[false, true, false, true, false, true, false, false, false, false, true, true, false, false, false, false, false, false] rfl rfl (any_of HT_.1 (by kernel_rfl)) (fun _ _ _ h => h) (Or.inl ⟨by rfl, ?_⟩) ?_ ?_
                     rotate_left
                     ·intro w'
                      go_simp
                      with_reducible rfl
                     rotate_left
                     ·simp only [Act.put, List.setIfInBounds_toArray, List.set_cons_zero, List.set_cons_succ, i64_w, i32_w]
                      rfl
                     refine pure_ (i := 12) (N := some 63) (v := ?_) (a' := ?_) #[false, true, false, true, false, true, false, false, false, false, true, true, true, false, false, false, false, false] rfl rfl (any_of HT_.1 (by kernel_rfl)) (fun _ _ _ h => h) (Or.inl ⟨by rfl, ?_⟩) ?_ ?_
                     rotate_left
                     ·intro w'
                      go_simp
                      with_reducible rfl
                     rotate_left
                     ·simp only [Act.put, List.setIfInBounds_toArray, List.set_cons_zero, List.set_cons_succ, i64_w, i32_w]
                      rfl
                     refine pure_ (i := 14) (N := some 65) (v := ?_) (a' := ?_) #[false, true, false, true, false, true, false, false, false, false, true, true, true, false, true, false, false, false] rfl rfl (any_of HT_.1 (by kernel_rfl)) (fun _ _ _ h => h) (Or.inl ⟨by rfl, ?_⟩) ?_ ?_
                     rotate_left
                     ·intro w'
                      go_simp
                      with_reducible rfl
                     rotate_left
                     ·simp only [Act.put, List.setIfInBounds_toArray, List.set_cons_zero, List.set_cons_succ, i64_w, i32_w]
                      rfl
                     refine pure_ (i := 15) (N := some 66) (v := ?_) (a' := ?_) #[false, true, false, true, false, true, false, false, false, false, true, true, true, false, true, true, false, false] rfl rfl (any_of HT_.1 (by kernel_rfl)) (fun _ _ _ h => h) (Or.inl ⟨by rfl, ?_⟩) ?_ ?_
                     rotate_left
                     ·intro w'
                      go_simp
                      with_reducible rfl
                     rotate_left
                     ·simp only [Act.put, List.setIfInBounds_toArray, List.set_cons_zero, List.set_cons_succ, i64_w, i32_w]
                      rfl
                     refine take_ (i := 0) (N := some 51) (v := ?_) (a' := ?_) #[true, true, false, true, false, true, false, false, false, false, true, true, true, false, true, true, false, false] rfl rfl (take_ofW HT_.1 HW_.1 (by kernel_rfl)) (fun _ _ _ h => h) (Or.inl ⟨by rfl, ?_⟩) hHeld ?_ ?_
                     rotate_left
                     ·rintro w' ⟨s0, s1, s2, s3, s4, s5, s6, s7, s8⟩
                      go_simp
                      with_reducible rfl
                     rotate_left
                     ·simp only [Act.put, List.setIfInBounds_toArray, List.set_cons_zero, List.set_cons_succ, i64_w, i32_w]
                      rfl
                     refine take_ (i := 2) (N := some 53) (v := ?_) (a' := ?_) #[true, true, true, true, false, true, false, false, false, false, true, true, true, false, true, true, false, false] rfl rfl (take_ofW HT_.1 HW_.1 (by kernel_rfl)) (fun _ _ _ h => h) (Or.inl ⟨by rfl, ?_⟩) hHeld ?_ ?_
                     rotate_left
                     ·rintro w' ⟨s0, s1, s2, s3, s4, s5, s6, s7, s8⟩
                      go_simp
                      with_reducible rfl
                     rotate_left
                     ·simp only [Act.put, List.setIfInBounds_toArray, List.set_cons_zero, List.set_cons_succ, i64_w, i32_w]
                      rfl
                     refine take_ (i := 4) (N := some 55) (v := ?_) (a' := ?_) #[true, true, true, true, true, true, false, false, false, false, true, true, true, false, true, true, false, false] rfl rfl (take_ofW HT_.1 HW_.1 (by kernel_rfl)) (fun _ _ _ h => h) (Or.inl ⟨by rfl, ?_⟩) hHeld ?_ ?_
                     rotate_left
                     ·rintro w' ⟨s0, s1, s2, s3, s4, s5, s6, s7, s8⟩
                      go_simp
                      with_reducible rfl
                     rotate_left
                     ·simp only [Act.put, List.setIfInBounds_toArray, List.set_cons_zero, List.set_cons_succ, i64_w, i32_w]
                      rfl
                     refine pure_ (i := 6) (N := some 57) (v := ?_) (a' := ?_) #[true, true, true, true, true, true, true, false, false, false, true, true, true, false, true, true, false, false] rfl rfl (any_of HT_.1 (by kernel_rfl)) (fun _ _ _ h => h) (Or.inl ⟨by rfl, ?_⟩) ?_ ?_
                     rotate_left
                     ·intro w'
                      go_simp
                      with_reducible rfl
                     rotate_left
                     ·simp only [Act.put, List.setIfInBounds_toArray, List.set_cons_zero, List.set_cons_succ, i64_w, i32_w]
                      rfl
                     refine take_ (i := 7) (N := some 58) (v := ?_) (a' := ?_) #[true, true, true, true, true, true, true, true, false, false, true, true, true, false, true, true, false, false] rfl rfl (take_ofW HT_.1 HW_.1 (by kernel_rfl)) (fun _ _ _ h => h) (Or.inl ⟨by rfl, ?_⟩) hHeld ?_ ?_
                     rotate_left
                     ·rintro w' ⟨s0, s1, s2, s3, s4, s5, s6, s7, s8⟩
                      go_simp
                      with_reducible rfl
                     rotate_left
                     ·simp only [Act.put, List.setIfInBounds_toArray, List.set_cons_zero, List.set_cons_succ, i64_w, i32_w]
                      rfl
                     refine pure_ (i := 8) (N := some 59) (v := ?_) (a' := ?_) #[true, true, true, true, true, true, true, true, true, false, true, true, true, false, true, true, false, false] rfl rfl (any_of HT_.1 (by kernel_rfl)) (fun _ _ _ h => h) (Or.inl ⟨by rfl, ?_⟩) ?_ ?_
                     rotate_left
                     ·intro w'
                      go_simp
                      with_reducible rfl
                     rotate_left
                     ·simp only [Act.put, List.setIfInBounds_toArray, List.set_cons_zero, List.set_cons_succ, i64_w, i32_w]
                      rfl
                     refine take_ (i := 9) (N := some 60) (v := ?_) (a' := ?_) #[true, true, true, true, true, true, true, true, true, true, true, true, true, false, true, true, false, false] rfl rfl (take_ofW HT_.1 HW_.1 (by kernel_rfl)) (fun _ _ _ h => h) (Or.inl ⟨by rfl, ?_⟩) hHeld ?_ ?_
                     rotate_left
                     ·rintro w' ⟨s0, s1, s2, s3, s4, s5, s6, s7, s8⟩
                      go_simp
                      with_reducible rfl
                     rotate_left
                     ·simp only [Act.put, List.setIfInBounds_toArray, List.set_cons_zero, List.set_cons_succ, i64_w, i32_w]
                      rfl
                     refine take_ (i := 13) (N := some 64) (v := ?_) (a' := ?_) #[true, true, true, true, true, true, true, true, true, true, true, true, true, true, true, true, false, false] rfl rfl (take_ofW HT_.1 HW_.1 (by kernel_rfl)) (fun _ _ _ h => h) (Or.inl ⟨by rfl, ?_⟩) hHeld ?_ ?_
                     rotate_left
                     ·rintro w' ⟨s0, s1, s2, s3, s4, s5, s6, s7, s8⟩
                      go_simp
                      with_reducible rfl
                     rotate_left
                     ·simp only [Act.put, List.setIfInBounds_toArray, List.set_cons_zero, List.set_cons_succ, i64_w, i32_w]
                      rfl
                     refine one_ (i := 16) (N := some 67) #[true, true, true, true, true, true, true, true, true, true, true, true, true, true, true, true, true, false] rfl rfl (one_of HT_.1 (by kernel_rfl)) (by decide) (fun K hK => ?_)
                     refine goes_ Try.func70 (by kernel_rfl) rfl #[.agg #[.int .i64 a0_0, .int .i64 a0_1, .slice (some ad312) l0_2.length c0_2, .slice (some ad311) l0_3.length c0_3], .agg #[.int .i64 ((rd_T82 l0_2 (rd l0_3 a1)).f0), .int .i64 ((rd_T82 l0_2 (rd l0_3 a1)).f1), .int .i64 ((rd_T82 l0_2 (rd l0_3 a1)).f2)], .int .i64 (rd l2 x12_2), .int .i64 (wrap64 (x12_2 - 1))] (by rfl) rfl rfl (by (try simp only [List.map_toArray, List.map_cons, List.map_nil]); first | rfl ) ?_
                     with_reducible refine (glisterref04_Means.calls k2 a0_0 a0_1 _ _ l0_2 _ _ l0_3 ((rd_T82 l0_2 (rd l0_3 a1)).f0) ((rd_T82 l0_2 (rd l0_3 a1)).f1) ((rd_T82 l0_2 (rd l0_3 a1)).f2) (rd l2 x12_2) (wrap64 (x12_2 - 1)) t314 _ ?side1 ?side2 ?side3 ?side4 A34.1).mono ?_
                     (case side1 => repeat (first | exact (Kd.C_below HR0_2.1 HB.1) ))
                     (case side2 => exact HC0_2.1)
                     (case side3 => repeat (first | exact (Kd.C_below HR0_3.1 HB.1) ))
                     (case side4 => exact HC0_3.1)
                     rintro e w44 ⟨rfl, hb⟩
                     refine ⟨_, rfl, ?_⟩
                     have n0_ := Sd.mk (Kd.R_below (by (with_reducible repeat (fail)); exact HO_10.1) hb)
                     have n1_ := Sd.mk (Kd.R_below (by (with_reducible repeat (fail)); exact HO_11.1) hb)
                     have n2_ := Sd.mk (kB (g := gb304) (o := .cells #[.int .i64 a0_0, .int .i64 a0_1, .slice (some ad312) l0_2.length c0_2, .slice (some ad311) l0_3.length c0_3] 25 (0, 0)) (by (with_reducible repeat (fail)); exact BK304.1) hb)
                     have n3_ := Sd.mk (bT (by repeat (first | (with_reducible first | exact HB.1 ) )) hb)
                     clear HO_10
                     clear HO_11
                     clear BK304
                     clear HB
                     have HO_10 := n0_
                     have HO_11 := n1_
                     have BK304 := n2_
                     have HB := n3_
                     clear n0_ n1_ n2_ n3_
                     (try clear hb)
                     refine hK.out _ _ ⟨(kC BK304.1 0).trans rfl, (kC BK304.1 1).trans rfl, (kC BK304.1 2).trans rfl, (kC BK304.1 3).trans rfl, ((HB.1.cell (World.block_lt_of_cell? w _ hw311_0)).trans hw311_0), ((HB.1.cell (World.block_lt_of_cell? w _ hw312_0)).trans hw312_0), ((HB.1.cell (World.block_lt_of_cell? w _ hw312_1)).trans hw312_1), ((HB.1.cell (World.block_lt_of_cell? w _ hw312_2)).trans hw312_2), ((HB.1.cell (World.block_lt_of_cell? w _ hw313_0)).trans hw313_0)⟩ (fun hHeld => ?_)
                     clear hK K
                     refine norm_ (a' := ?_) ?_ ?_
                     rotate_left
                     ·show Act.put _ (some 67) _ = _
                      simp only [Act.put, List.setIfInBounds_toArray, List.set_cons_zero, List.set_cons_succ, i64_w, i32_w]
                      rfl
                     refine pure_ (i := 17) (N := some 13) (v := ?_) (a' := ?_) #[true, true, true, true, true, true, true, true, true, true, true, true, true, true, true, true, true, true] rfl rfl (any_of HT_.1 (by kernel_rfl)) (fun _ _ _ h => h) (Or.inl ⟨by rfl, ?_⟩) ?_ ?_
                     rotate_left
                     ·intro w'
                      go_simp
                      with_reducible rfl
                     rotate_left
                     ·simp only [Act.put, List.setIfInBounds_toArray, List.set_cons_zero, List.set_cons_succ, i64_w, i32_w]
                      rfl
                     refine done_ (done_of HT_.1 (by kernel_rfl)) ?_
                     try go_wp2_with (first | ((with_reducible refine gate_builtin (b := .append) (xs := #[.tmp 68, .tmp 70]) rfl ?_); at_builtin; refine Kd.R_append (Kd.int .i64) (w0 := w) w.heap.size rfl (.tmp 68) (.tmp 70) 23 3 (.int .i64 0) 8 rfl Try.underlying23 info3 rfl (by decide) (by omega) u10 x10_2 t314 [.int .i64 t314] (fun k_ => some k_ ≠ (u11 : Value).ownBlock) (fun _ => False) rfl rfl ?aP (fun _ hk => hk.elim) ?aF ?aO ?aB ?aS ?aL ?_; (case aP => exact rfl); (case aB => exact (by repeat (first | (with_reducible first | exact HB.1 ) ))); (case aF => exact (fun k_ hk => Kd.fresh' (Kd.R_lt (by (with_reducible repeat (fail)); exact HO_11.1)) k_ hk)); (case aO => exact (by (with_reducible repeat (fail)); exact HO_10.1)); (case aS => exact (bZ (by repeat (first | (with_reducible first | exact HB.1 ) )))); (case aL => have := LMc35.1; omega); intro v316 w45 ho hb hg hat; rw [← Ny315.1] at ho; replace HO_11 := Sd.mk (Kd.R_after (ok := (fun _ => True)) (by (with_reducible repeat (fail)); exact Kd.R_mono HO_11.1 (fun _ hk => ⟨trivial, hk⟩)) hg hat); replace BK304 := Sd.mk (blk_grown (g := gb304) (o := .cells #[.int .i64 a0_0, .int .i64 a0_1, .slice (some ad312) l0_2.length c0_2, .slice (some ad311) l0_3.length c0_3] 25 (0, 0)) (by (with_reducible repeat (fail)); exact BK304.1) hg (Kd.R_ne HO_10.1 BK304.1 (by decide))); replace HB := Sd.mk (hb); have HO317 := Sd.mk (ho); clear HO_10; clear ho hb hg hat; have z_46_1 : w45.cell? ⟨gb304, 1, none⟩ = some (.int .i64 a0_1) := (kC BK304.1 1).trans rfl))
                     go_roundg k2
                     case measure => have := HJ3.1; have := HK2.1; omega
                     case rel => exact ⟨(y315), (x11_2), (wrap64 (x12_2 + 1)), (by first | rfl ), H', ⟨by have := HJ3.1; have := HK2.1; omega⟩, ⟨by (with_reducible repeat (fail)); exact HO317.1⟩, ⟨by (with_reducible repeat (fail)); exact Kd.R_mono HO_11.1 (fun _ hk => hk.2)⟩, ⟨by (with_reducible repeat (fail)); exact BK304.1⟩, ⟨by repeat (first | (with_reducible first | exact HB.1 ) )⟩⟩
                   ·rw [if_neg c35] at H
                    exact absurd H (by simp)
                  ·rw [if_neg c33] at H
                   exact absurd H (by simp)
                 ·rw [if_neg c32] at H
                  exact absurd H (by simp)
                ·rw [if_neg c31] at H
                 exact absurd H (by simp)
               ·rw [if_neg c30] at H
                exact absurd H (by simp)
              ·rw [if_neg c29] at H
               exact absurd H (by simp)
             ·rw [if_neg c28] at H
              exact absurd H (by simp)
            ·rw [if_neg c27] at H
             have c27b0 : decide (x12_2 < (ji15)) = false := decide_eq_false c27
             clear c27
             simp only [Option.some.injEq, Prod.mk.injEq] at H
             obtain ⟨rfl, rfl, rfl⟩ := H
             go_wp2
             go_ret3
             exact ⟨_, _, by first | rfl , by (with_reducible repeat (fail)); exact HO_10.1, by (with_reducible repeat (fail)); exact HO_11.1, by repeat (first | (with_reducible first | exact HB.1 ) )⟩
         ·rw [if_neg c21] at H
          have c21b0 : ((rd l2 (ji15)) == t310) = false := beq_eq_false_iff_ne.mpr c21
          have c21b1 : ((rd l2 (ji15)) != t310) = true := bne_iff_ne.mpr c21
          simp only [Option.some.injEq, Prod.mk.injEq] at H
          obtain ⟨rfl, rfl, rfl⟩ := H
          try go_wp2
          have n0_ := Sd.mk (kD BK304.1)
          have n1_ := Sd.mk (bD HB.1)
          clear BK304
          clear HB
          have BK304 := n0_
          have HB := n1_
          clear n0_ n1_
          have p306 : 0 ≤ (0 : Int) := (by omega)
          have q306 : 0 < (l2.length : Int) := of_decide_eq_true (by first | (with_reducible assumption) )
          obtain ⟨ad306, e306, hx306_0⟩ := Kd.at_int HR2.1 0 p306 q306
          have hw306_0 := hx306_0
          (try rw [show ((0 : Int)).toNat = 0 from rfl] at hw306_0)
          (try rw [Addr.add_zero'] at hw306_0)
          cases e306
          have qi306 : (0 < l2.length) = True := eq_true (by omega)
          (try rw [show ((0 : Int)).toNat = 0 from rfl] at hx306_0)
          (try rw [Addr.add_zero'] at hx306_0)
          replace hx306_0 := (HB.1.cell (World.block_lt_of_cell? w _ hx306_0)).trans hx306_0
          replace p306 := eq_true p306
          replace q306 := eq_true q306
          refine start_ (n := 7) (S := fun w' => w'.cell? ⟨gb304, 0, none⟩ = some (.int .i64 a0_0) ∧ w'.cell? ⟨gb304, 1, none⟩ = some (.int .i64 a0_1) ∧ w'.cell? ⟨gb304, 2, none⟩ = some (.slice A0_2 l0_2.length c0_2) ∧ w'.cell? ⟨gb304, 3, none⟩ = some (.slice A0_3 l0_3.length c0_3) ∧ w'.cell? ad306 = some (.int .i64 (rd l2 0))) (ds := []) #[false, false, false, false, false, false, false] (by kernel_rfl) rfl rfl ⟨(kC BK304.1 0).trans rfl, (kC BK304.1 1).trans rfl, (kC BK304.1 2).trans rfl, (kC BK304.1 3).trans rfl, ((HB.1.cell (World.block_lt_of_cell? w _ hw306_0)).trans hw306_0)⟩ (fun hHeld => ?_)
          generalize wc.drew = w47 at BK304 HB hx306_0 hHeld ⊢
          refine pure_ (i := 0) (N := some 29) (v := ?_) (a' := ?_) #[true, false, false, false, false, false, false] rfl rfl (by kernel_rfl) (fun _ _ _ h => h) (Or.inl ⟨by rfl, ?_⟩) ?_ ?_
          rotate_left
          ·intro w'
           go_simp
           with_reducible rfl
          rotate_left
          ·simp only [Act.put, List.setIfInBounds_toArray, List.set_cons_zero, List.set_cons_succ, i64_w, i32_w]
           rfl
          refine pure_ (i := 1) (N := some 30) (v := ?_) (a' := ?_) #[true, true, false, false, false, false, false] rfl rfl (by kernel_rfl) (fun _ _ _ h => h) (Or.inl ⟨by rfl, ?_⟩) ?_ ?_
          rotate_left
          ·intro w'
           go_simp
           with_reducible rfl
          rotate_left
          ·simp only [Act.put, List.setIfInBounds_toArray, List.set_cons_zero, List.set_cons_succ, i64_w, i32_w]
           rfl
          refine pure_ (i := 4) (N := some 33) (v := ?_) (a' := ?_) #[true, true, false, false, true, false, false] rfl rfl (by kernel_rfl) (fun _ _ _ h => h) (Or.inl ⟨by rfl, ?_⟩) ?_ ?_
          rotate_left
          ·intro w'
           go_simp
           with_reducible rfl
          rotate_left
          ·simp only [Act.put, List.setIfInBounds_toArray, List.set_cons_zero, List.set_cons_succ, i64_w, i32_w]
           rfl
          refine take_ (i := 2) (N := some 31) (v := ?_) (a' := ?_) #[true, true, true, false, true, false, false] rfl rfl (by kernel_rfl) (fun _ _ _ h => h) (Or.inl ⟨by rfl, ?_⟩) hHeld ?_ ?_
          rotate_left
          ·rintro w' ⟨s0, s1, s2, s3, s4⟩
           go_simp
           with_reducible rfl
          rotate_left
          ·simp only [Act.put, List.setIfInBounds_toArray, List.set_cons_zero, List.set_cons_succ, i64_w, i32_w]
           rfl
          refine take_ (i := 3) (N := some 32) (v := ?_) (a' := ?_) #[true, true, true, true, true, false, false] rfl rfl (by kernel_rfl) (fun _ _ _ h => h) (Or.inl ⟨by rfl, ?_⟩) hHeld ?_ ?_
          rotate_left
          ·rintro w' ⟨s0, s1, s2, s3, s4⟩
           go_simp
           with_reducible rfl
          rotate_left
          ·simp only [Act.put, List.setIfInBounds_toArray, List.set_cons_zero, List.set_cons_succ, i64_w, i32_w]
           rfl
          refine one_ (i := 5) (N := some 34) #[true, true, true, true, true, true, false] rfl rfl (by kernel_rfl) (by decide) (fun K hK => ?_)
          refine goes_ Try.func63 (by kernel_rfl) rfl #[.agg #[.int .i64 a0_0, .int .i64 a0_1, .slice A0_2 l0_2.length c0_2, .slice A0_3 l0_3.length c0_3], .int .i64 a1] (by rfl) rfl rfl (by (try simp only [List.map_toArray, List.map_cons, List.map_nil]); first | rfl ) ?_
          with_reducible refine (glisterref04_Indicator.calls a0_0 a0_1 _ _ l0_2 _ _ l0_3 a1 t307 _ ?side1 ?side2 ?side3 ?side4 A13.1).mono ?_
          (case side1 => repeat (first | exact (Kd.C_below HR0_2.1 HB.1) ))
          (case side2 => exact HC0_2.1)
          (case side3 => repeat (first | exact (Kd.C_below HR0_3.1 HB.1) ))
          (case side4 => exact HC0_3.1)
          rintro e w48 ⟨rfl, hb⟩
          refine ⟨_, rfl, ?_⟩
          have n0_ := Sd.mk (kB (g := gb304) (o := .cells #[.int .i64 a0_0, .int .i64 a0_1, .slice A0_2 l0_2.length c0_2, .slice A0_3 l0_3.length c0_3] 25 (0, 0)) (by (with_reducible repeat (fail)); exact BK304.1) hb)
          have n1_ := Sd.mk (bT (by repeat (first | (with_reducible first | exact HB.1 ) )) hb)
          clear BK304
          clear HB
          have BK304 := n0_
          have HB := n1_
          clear n0_ n1_
          (try clear hb)
          refine hK.out _ _ ⟨(kC BK304.1 0).trans rfl, (kC BK304.1 1).trans rfl, (kC BK304.1 2).trans rfl, (kC BK304.1 3).trans rfl, ((HB.1.cell (World.block_lt_of_cell? w _ hw306_0)).trans hw306_0)⟩ (fun hHeld => ?_)
          clear hK K
          refine norm_ (a' := ?_) ?_ ?_
          rotate_left
          ·show Act.put _ (some 34) _ = _
           simp only [Act.put, List.setIfInBounds_toArray, List.set_cons_zero, List.set_cons_succ, i64_w, i32_w]
           rfl
          refine pure_ (i := 6) (N := some 35) (v := ?_) (a' := ?_) #[true, true, true, true, true, true, true] rfl rfl (by kernel_rfl) (fun _ _ _ h => h) (Or.inl ⟨by rfl, ?_⟩) ?_ ?_
          rotate_left
          ·intro w'
           go_simp
           with_reducible rfl
          rotate_left
          ·simp only [Act.put, List.setIfInBounds_toArray, List.set_cons_zero, List.set_cons_succ, i64_w, i32_w]
           rfl
          refine done_ (by kernel_rfl) ?_
          try go_wp2
          have n0_ := Sd.mk (kD BK304.1)
          have n1_ := Sd.mk (bD HB.1)
          clear BK304
          clear HB
          have BK304 := n0_
          have HB := n1_
          clear n0_ n1_
          have p308 : 0 ≤ ((ji15) : Int) := of_decide_eq_true (by first | (with_reducible assumption) )
          have q308 : (ji15) < (l2.length : Int) := of_decide_eq_true (by first | (with_reducible assumption) )
          obtain ⟨ad308, e308, hx308_0⟩ := Kd.at_int HR2.1 (ji15) p308 q308
          have hw308_0 := hx308_0
          obtain rfl : ad306 = ad308 := (by injection e308)
          replace hx308_0 := (HB.1.cell (World.block_lt_of_cell? w _ hx308_0)).trans hx308_0
          replace p308 := eq_true p308
          replace q308 := eq_true q308
          obtain ⟨i050, hi050, _, hsz50, _⟩ := info_parts info3
          obtain ⟨hcut50, hA50, hC50⟩ := print_take_of (P := Try.prog) (Value.int .i64) 0 23 3 .i64 Try.underlying23 hi050 hsz50 (some ad306) c2 l2 (ji15) (of_decide_eq_true (by first | (with_reducible assumption) )) (of_decide_eq_true (by first | (with_reducible assumption) )) HC2.1
          have HR309 := Sd.mk (Kd.C_of_reads (h1 := fun _ => rfl) (hA50 _ (Kd.reads_of_C HR2.1)))
          have HC309 := Sd.mk hC50
          clear hA50 hC50 hi050 hsz50
          refine start_ (n := 10) (S := fun w' => w'.cell? ⟨gb304, 0, none⟩ = some (.int .i64 a0_0) ∧ w'.cell? ⟨gb304, 1, none⟩ = some (.int .i64 a0_1) ∧ w'.cell? ⟨gb304, 2, none⟩ = some (.slice A0_2 l0_2.length c0_2) ∧ w'.cell? ⟨gb304, 3, none⟩ = some (.slice A0_3 l0_3.length c0_3) ∧ w'.cell? (ad306.add ((ji15)).toNat) = some (.int .i64 (rd l2 (ji15)))) (ds := []) #[false, false, false, false, false, false, false, false, false, false] (by kernel_rfl) rfl rfl ⟨(kC BK304.1 0).trans rfl, (kC BK304.1 1).trans rfl, (kC BK304.1 2).trans rfl, (kC BK304.1 3).trans rfl, ((HB.1.cell (World.block_lt_of_cell? w _ hw308_0)).trans hw308_0)⟩ (fun hHeld => ?_); refine with_tabW glisterref04_Decode.tab6 glisterref04_Decode.bits6 (fun HT_ HW_ => ?_)
          generalize w48.drew = w49 at BK304 HB HR309 hx308_0 hHeld ⊢
          refine pure_ (i := 0) (N := some 36) (v := ?_) (a' := ?_) #[true, false, false, false, false, false, false, false, false, false] rfl rfl (any_of HT_.1 (by kernel_rfl)) (fun _ _ _ h => h) (Or.inl ⟨by rfl, ?_⟩) ?_ ?_
          rotate_left
          ·intro w'
           go_simp
           with_reducible rfl
          rotate_left
          ·simp only [Act.put, List.setIfInBounds_toArray, List.set_cons_zero, List.set_cons_succ, i64_w, i32_w]
           rfl
          refine pure_ (i := 1) (N := some 37) (v := ?_) (a' := ?_) #[true, true, false, false, false, false, false, false, false, false] rfl rfl (any_of HT_.1 (by kernel_rfl)) (fun _ _ _ h => h) (Or.inl ⟨by rfl, ?_⟩) ?_ ?_
          rotate_left
          ·intro w'
           go_simp
           with_reducible rfl
          rotate_left
          ·simp only [Act.put, List.setIfInBounds_toArray, List.set_cons_zero, List.set_cons_succ, i64_w, i32_w]
           rfl
          refine pure_ (i := 2) (N := some 38) (v := ?_) (a' := ?_) #[true, true, true, false, false, false, false, false, false, false] rfl rfl (any_of HT_.1 (by kernel_rfl)) (fun _ _ _ h => h) (Or.inl ⟨by rfl, ?_⟩) ?_ ?_
          rotate_left
          ·intro w'
           go_simp
           with_reducible rfl
          rotate_left
          ·simp only [Act.put, List.setIfInBounds_toArray, List.set_cons_zero, List.set_cons_succ, i64_w, i32_w]
           rfl
          refine pure_ (i := 5) (N := some 41) (v := ?_) (a' := ?_) #[true, true, true, false, false, true, false, false, false, false] rfl rfl (any_of HT_.1 (by kernel_rfl)) (fun _ _ _ h => h) (Or.inl ⟨by rfl, ?_⟩) ?_ ?_
          rotate_left
          ·intro w'
           go_simp
           with_reducible rfl
          rotate_left
          ·simp only [Act.put, List.setIfInBounds_toArray, List.set_cons_zero, List.set_cons_succ, i64_w, i32_w]
           rfl
          refine pure_ (i := 6) (N := some 42) (v := ?_) (a' := ?_) #[true, true, true, false, false, true, true, false, false, false] rfl rfl (any_of HT_.1 (by kernel_rfl)) (fun _ _ _ h => h) (Or.inl ⟨by rfl, ?_⟩) ?_ ?_
          rotate_left
          ·intro w'
           go_simp
           with_reducible rfl
          rotate_left
          ·simp only [Act.put, List.setIfInBounds_toArray, List.set_cons_zero, List.set_cons_succ, i64_w, i32_w]
           rfl
          refine pure_ (i := 7) (N := some 43) (v := ?_) (a' := ?_) #[true, true, true, false, false, true, true, true, false, false] rfl rfl (any_of HT_.1 (by kernel_rfl)) (fun _ _ _ h => h) (Or.inl ⟨by rfl, ?_⟩) ?_ ?_
          rotate_left
          ·intro w'
           go_simp
           with_reducible rfl
          rotate_left
          ·simp only [Act.put, List.setIfInBounds_toArray, List.set_cons_zero, List.set_cons_succ, i64_w, i32_w]
           rfl
          refine take_ (i := 3) (N := some 39) (v := ?_) (a' := ?_) #[true, true, true, true, false, true, true, true, false, false] rfl rfl (take_ofW HT_.1 HW_.1 (by kernel_rfl)) (fun _ _ _ h => h) (Or.inl ⟨by rfl, ?_⟩) hHeld ?_ ?_
          rotate_left
          ·rintro w' ⟨s0, s1, s2, s3, s4⟩
           go_simp
           with_reducible rfl
          rotate_left
          ·simp only [Act.put, List.setIfInBounds_toArray, List.set_cons_zero, List.set_cons_succ, i64_w, i32_w]
           rfl
          refine take_ (i := 4) (N := some 40) (v := ?_) (a' := ?_) #[true, true, true, true, true, true, true, true, false, false] rfl rfl (take_ofW HT_.1 HW_.1 (by kernel_rfl)) (fun _ _ _ h => h) (Or.inl ⟨by rfl, ?_⟩) hHeld ?_ ?_
          rotate_left
          ·rintro w' ⟨s0, s1, s2, s3, s4⟩
           go_simp
           with_reducible rfl
          rotate_left
          ·simp only [Act.put, List.setIfInBounds_toArray, List.set_cons_zero, List.set_cons_succ, i64_w, i32_w]
           rfl
          refine one_ (i := 8) (N := some 44) #[true, true, true, true, true, true, true, true, true, false] rfl rfl (one_of HT_.1 (by kernel_rfl)) (by decide) (fun K hK => ?_)
          refine goes_ Try.func65 (by kernel_rfl) rfl #[.agg #[.int .i64 a0_0, .int .i64 a0_1, .slice A0_2 l0_2.length c0_2, .slice A0_3 l0_3.length c0_3], .slice (some ad306) (l2.take ((ji15) : Int).toNat).length c2] (by rfl) rfl rfl (by (try simp only [List.map_toArray, List.map_cons, List.map_nil]); first | (rw [show (l2.take ((ji15) : Int).toNat).length = (ji15).toNat from (by rw [List.length_take]; have h_ : ((ji15) : Int) ≤ (l2.length : Int) := of_decide_eq_true (by first | (with_reducible assumption) ); omega)] <;> rfl) ) ?_
          with_reducible refine (glisterref04_Check.calls kj3 a0_0 a0_1 _ _ l0_2 _ _ l0_3 _ _ (l2.take ((ji15) : Int).toNat) t310 _ ?side1 ?side2 ?side3 ?side4 ?side5 ?side6 A20.1).mono ?_
          (case side1 => repeat (first | exact (Kd.C_below HR0_2.1 HB.1) ))
          (case side2 => exact HC0_2.1)
          (case side3 => repeat (first | exact (Kd.C_below HR0_3.1 HB.1) ))
          (case side4 => exact HC0_3.1)
          (case side5 => repeat (first | exact (Kd.C_below HR309.1 HB.1) ))
          (case side6 => exact HC309.1)
          rintro e w51 ⟨rfl, hb⟩
          refine ⟨_, rfl, ?_⟩
          have n0_ := Sd.mk (kB (g := gb304) (o := .cells #[.int .i64 a0_0, .int .i64 a0_1, .slice A0_2 l0_2.length c0_2, .slice A0_3 l0_3.length c0_3] 25 (0, 0)) (by (with_reducible repeat (fail)); exact BK304.1) hb)
          have n1_ := Sd.mk (bT (by repeat (first | (with_reducible first | exact HB.1 ) )) hb)
          clear BK304
          clear HB
          have BK304 := n0_
          have HB := n1_
          clear n0_ n1_
          (try clear hb)
          refine hK.out _ _ ⟨(kC BK304.1 0).trans rfl, (kC BK304.1 1).trans rfl, (kC BK304.1 2).trans rfl, (kC BK304.1 3).trans rfl, ((HB.1.cell (World.block_lt_of_cell? w _ hw308_0)).trans hw308_0)⟩ (fun hHeld => ?_)
          clear hK K
          refine norm_ (a' := ?_) ?_ ?_
          rotate_left
          ·show Act.put _ (some 44) _ = _
           simp only [Act.put, List.setIfInBounds_toArray, List.set_cons_zero, List.set_cons_succ, i64_w, i32_w]
           rfl
          refine pure_ (i := 9) (N := some 45) (v := ?_) (a' := ?_) #[true, true, true, true, true, true, true, true, true, true] rfl rfl (any_of HT_.1 (by kernel_rfl)) (fun _ _ _ h => h) (Or.inl ⟨by rfl, ?_⟩) ?_ ?_
          rotate_left
          ·intro w'
           go_simp
           with_reducible rfl
          rotate_left
          ·simp only [Act.put, List.setIfInBounds_toArray, List.set_cons_zero, List.set_cons_succ, i64_w, i32_w]
           rfl
          refine done_ (done_of HT_.1 (by kernel_rfl)) ?_
          try go_wp2
          go_ret3
          exact ⟨_, _, by first | rfl , by first | exact Kd.R_nil _ _ _ _ _ , by first | exact Kd.R_nil _ _ _ _ _ , by repeat (first | (with_reducible first | exact HB.1 ) )⟩
        ·rw [if_neg c19] at H
         exact absurd H (by simp)
       ·rw [if_neg c17] at H
        exact absurd H (by simp)
      ·rw [if_neg c16] at H
       exact absurd H (by simp)
     ·rw [if_neg c14] at H
      have c14b0 : ((rd l2 0) == t307) = false := beq_eq_false_iff_ne.mpr c14
      have c14b1 : ((rd l2 0) != t307) = true := bne_iff_ne.mpr c14
      simp only [Option.some.injEq, Prod.mk.injEq] at H
      obtain ⟨rfl, rfl, rfl⟩ := H
      try go_wp2
      have n0_ := Sd.mk (kD BK304.1)
      have n1_ := Sd.mk (bD HB.1)
      clear BK304
      clear HB
      have BK304 := n0_
      have HB := n1_
      clear n0_ n1_
      have p306 : 0 ≤ (0 : Int) := (by omega)
      have q306 : 0 < (l2.length : Int) := of_decide_eq_true (by first | (with_reducible assumption) )
      obtain ⟨ad306, e306, hx306_0⟩ := Kd.at_int HR2.1 0 p306 q306
      have hw306_0 := hx306_0
      (try rw [show ((0 : Int)).toNat = 0 from rfl] at hw306_0)
      (try rw [Addr.add_zero'] at hw306_0)
      cases e306
      have qi306 : (0 < l2.length) = True := eq_true (by omega)
      (try rw [show ((0 : Int)).toNat = 0 from rfl] at hx306_0)
      (try rw [Addr.add_zero'] at hx306_0)
      replace hx306_0 := (HB.1.cell (World.block_lt_of_cell? w _ hx306_0)).trans hx306_0
      replace p306 := eq_true p306
      replace q306 := eq_true q306
      refine start_ (n := 7) (S := fun w' => w'.cell? ⟨gb304, 0, none⟩ = some (.int .i64 a0_0) ∧ w'.cell? ⟨gb304, 1, none⟩ = some (.int .i64 a0_1) ∧ w'.cell? ⟨gb304, 2, none⟩ = some (.slice A0_2 l0_2.length c0_2) ∧ w'.cell? ⟨gb304, 3, none⟩ = some (.slice A0_3 l0_3.length c0_3) ∧ w'.cell? ad306 = some (.int .i64 (rd l2 0))) (ds := []) #[false, false, false, false, false, false, false] (by kernel_rfl) rfl rfl ⟨(kC BK304.1 0).trans rfl, (kC BK304.1 1).trans rfl, (kC BK304.1 2).trans rfl, (kC BK304.1 3).trans rfl, ((HB.1.cell (World.block_lt_of_cell? w _ hw306_0)).trans hw306_0)⟩ (fun hHeld => ?_)
      generalize wc.drew = w52 at BK304 HB hx306_0 hHeld ⊢
      refine pure_ (i := 0) (N := some 29) (v := ?_) (a' := ?_) #[true, false, false, false, false, false, false] rfl rfl (by kernel_rfl) (fun _ _ _ h => h) (Or.inl ⟨by rfl, ?_⟩) ?_ ?_
      rotate_left
      ·intro w'
       go_simp
       with_reducible rfl
      rotate_left
      ·simp only [Act.put, List.setIfInBounds_toArray, List.set_cons_zero, List.set_cons_succ, i64_w, i32_w]
       rfl
      refine pure_ (i := 1) (N := some 30) (v := ?_) (a' := ?_) #[true, true, false, false, false, false, false] rfl rfl (by kernel_rfl) (fun _ _ _ h => h) (Or.inl ⟨by rfl, ?_⟩) ?_ ?_
      rotate_left
      ·intro w'
       go_simp
       with_reducible rfl
      rotate_left
      ·simp only [Act.put, List.setIfInBounds_toArray, List.set_cons_zero, List.set_cons_succ, i64_w, i32_w]
       rfl
      refine pure_ (i := 4) (N := some 33) (v := ?_) (a' := ?_) #[true, true, false, false, true, false, false] rfl rfl (by kernel_rfl) (fun _ _ _ h => h) (Or.inl ⟨by rfl, ?_⟩) ?_ ?_
      rotate_left
      ·intro w'
       go_simp
       with_reducible rfl
      rotate_left
      ·simp only [Act.put, List.setIfInBounds_toArray, List.set_cons_zero, List.set_cons_succ, i64_w, i32_w]
       rfl
      refine take_ (i := 2) (N := some 31) (v := ?_) (a' := ?_) #[true, true, true, false, true, false, false] rfl rfl (by kernel_rfl) (fun _ _ _ h => h) (Or.inl ⟨by rfl, ?_⟩) hHeld ?_ ?_
      rotate_left
      ·rintro w' ⟨s0, s1, s2, s3, s4⟩
       go_simp
       with_reducible rfl
      rotate_left
      ·simp only [Act.put, List.setIfInBounds_toArray, List.set_cons_zero, List.set_cons_succ, i64_w, i32_w]
       rfl
      refine take_ (i := 3) (N := some 32) (v := ?_) (a' := ?_) #[true, true, true, true, true, false, false] rfl rfl (by kernel_rfl) (fun _ _ _ h => h) (Or.inl ⟨by rfl, ?_⟩) hHeld ?_ ?_
      rotate_left
      ·rintro w' ⟨s0, s1, s2, s3, s4⟩
       go_simp
       with_reducible rfl
      rotate_left
      ·simp only [Act.put, List.setIfInBounds_toArray, List.set_cons_zero, List.set_cons_succ, i64_w, i32_w]
       rfl
      refine one_ (i := 5) (N := some 34) #[true, true, true, true, true, true, false] rfl rfl (by kernel_rfl) (by decide) (fun K hK => ?_)
      refine goes_ Try.func63 (by kernel_rfl) rfl #[.agg #[.int .i64 a0_0, .int .i64 a0_1, .slice A0_2 l0_2.length c0_2, .slice A0_3 l0_3.length c0_3], .int .i64 a1] (by rfl) rfl rfl (by (try simp only [List.map_toArray, List.map_cons, List.map_nil]); first | rfl ) ?_
      with_reducible refine (glisterref04_Indicator.calls a0_0 a0_1 _ _ l0_2 _ _ l0_3 a1 t307 _ ?side1 ?side2 ?side3 ?side4 A13.1).mono ?_
      (case side1 => repeat (first | exact (Kd.C_below HR0_2.1 HB.1) ))
      (case side2 => exact HC0_2.1)
      (case side3 => repeat (first | exact (Kd.C_below HR0_3.1 HB.1) ))
      (case side4 => exact HC0_3.1)
      rintro e w53 ⟨rfl, hb⟩
      refine ⟨_, rfl, ?_⟩
      have n0_ := Sd.mk (kB (g := gb304) (o := .cells #[.int .i64 a0_0, .int .i64 a0_1, .slice A0_2 l0_2.length c0_2, .slice A0_3 l0_3.length c0_3] 25 (0, 0)) (by (with_reducible repeat (fail)); exact BK304.1) hb)
      have n1_ := Sd.mk (bT (by repeat (first | (with_reducible first | exact HB.1 ) )) hb)
      clear BK304
      clear HB
      have BK304 := n0_
      have HB := n1_
      clear n0_ n1_
      (try clear hb)
      refine hK.out _ _ ⟨(kC BK304.1 0).trans rfl, (kC BK304.1 1).trans rfl, (kC BK304.1 2).trans rfl, (kC BK304.1 3).trans rfl, ((HB.1.cell (World.block_lt_of_cell? w _ hw306_0)).trans hw306_0)⟩ (fun hHeld => ?_)
      clear hK K
      refine norm_ (a' := ?_) ?_ ?_
      rotate_left
      ·show Act.put _ (some 34) _ = _
       simp only [Act.put, List.setIfInBounds_toArray, List.set_cons_zero, List.set_cons_succ, i64_w, i32_w]
       rfl
      refine pure_ (i := 6) (N := some 35) (v := ?_) (a' := ?_) #[true, true, true, true, true, true, true] rfl rfl (by kernel_rfl) (fun _ _ _ h => h) (Or.inl ⟨by rfl, ?_⟩) ?_ ?_
      rotate_left
      ·intro w'
       go_simp
       with_reducible rfl
      rotate_left
      ·simp only [Act.put, List.setIfInBounds_toArray, List.set_cons_zero, List.set_cons_succ, i64_w, i32_w]
       rfl
      refine done_ (by kernel_rfl) ?_
      try go_wp2
      go_ret3
      exact ⟨_, _, by first | rfl , by first | exact Kd.R_nil _ _ _ _ _ , by first | exact Kd.R_nil _ _ _ _ _ , by repeat (first | (with_reducible first | exact HB.1 ) )⟩
    ·rw [if_neg c12] at H
     exact absurd H (by simp)
end Go.Proofs.Ytnidgkmopocdkaa.P
