import Derived.Test.YtnidgkmopocdkaaA13P0
import Derived.Test.YtnidgkmopocdkaaA13P4
import Derived.Test.YtnidgkmopocdkaaA13P5
namespace Go.Proofs.Ytnidgkmopocdkaa.P
open Go.RowKit Go.Proofs.YtnidgkmopocdkaaW.PrintWords Go.Proofs.YtnidgkmopocdkaaW.PrintLast Go.Proofs.YtnidgkmopocdkaaW.PrintMore
attribute [local go_sem] max2_int min2_int max_two min_two max_three min_three max_four min_four   -- for this text's walks alone
set_option linter.unusedVariables false
set_option linter.unusedSimpArgs false
mutual
def glisterref04_AskFault.j0 : Nat → List Int → List (S85) → Bool → Int → Int → List (S82) → List Int → Option (Int)
 | 0, _, _, _, _, _, _, _ => none
 | k + 1, x1, x2, x15, x734000, x734001, x734002, x734003 => if x15 = true then (some 3) else ((glisterref04_Plain.f k x734000 x734001 x734002 x734003 x1).bind fun t734 => (if t734 = true then (glisterref04_AskFault.l0 k x1 x2 0 x734000 x734001 x734002 x734003) else (some 2)))
def glisterref04_AskFault.l0 : Nat → List Int → List (S85) → Int → Int → Int → List (S82) → List Int → Option (Int)
 | 0, _, _, _, _, _, _, _ => none
 | k + 1, x1, x2, x7, x734000, x734001, x734002, x734003 => if x7 < (x2.length : Int) then (if 0 ≤ x7 then ((glisterref04_In.f ((rd_T85 x2 x7).f0) 0 (wrap64 ((x1.length : Int) - 1))).bind fun t736 => (if t736 = true then ((glisterref04_In.f ((rd_T85 x2 x7).f1) 0 (wrap64 (x734000 - 1))).bind fun t738 => (if t738 = true then (glisterref04_AskFault.l0 k x1 x2 (wrap64 (x7 + 1)) x734000 x734001 x734002 x734003) else (some 2))) else (some 2))) else (none)) else (some 0)
end
def glisterref04_AskFault.f (k : Nat) (a0_0 : Int) (a0_1 : Int) (l0_2 : List (S82)) (l0_3 : List Int) (l1 : List Int) (l2 : List (S85)) : Option (Int) := if (l1.length : Int) > 10 then (glisterref04_AskFault.j0 k l1 l2 true a0_0 a0_1 l0_2 l0_3) else (glisterref04_AskFault.j0 k l1 l2 (decide ((l2.length : Int) > 6)) a0_0 a0_1 l0_2 l0_3)
set_option maxHeartbeats 8000000 in
set_option maxRecDepth 100000 in
theorem glisterref04_AskFault.calls (k : Nat) (a0_0 : Int) (a0_1 : Int) (A0_2 : Option Addr) (c0_2 : Nat) (l0_2 : List (S82)) (A0_3 : Option Addr) (c0_3 : Nat) (l0_3 : List Int) (A1 : Option Addr) (c1 : Nat) (l1 : List Int) (A2 : Option Addr) (c2 : Nat) (l2 : List (S85)) (r : Int) (w : World) (hr0_2 : Kd.C k82 w A0_2 l0_2.length l0_2) (hc0_2 : l0_2.length ≤ c0_2) (hr0_3 : Kd.C (Kd.int .i64) w A0_3 l0_3.length l0_3) (hc0_3 : l0_3.length ≤ c0_3) (hr1 : Kd.C (Kd.int .i64) w A1 l1.length l1) (hc1 : l1.length ≤ c1) (hr2 : Kd.C k85 w A2 l2.length l2) (hc2 : l2.length ≤ c2) (h : glisterref04_AskFault.f k a0_0 a0_1 l0_2 l0_3 l1 l2 = some r) :
  Calls Try.prog 81 #[.agg #[.int .i64 a0_0, .int .i64 a0_1, .slice A0_2 l0_2.length c0_2, .slice A0_3 l0_3.length c0_3], .slice A1 l1.length c1, .slice A2 l2.length c2] w fun e w' => e = .returned (.int .i64 r) ∧ Below w.heap.size w w' := by
 have hu25 := Try.underlying25
 have HR0_2 := Sd.mk hr0_2
 have HC0_2 := Sd.mk hc0_2
 clear hr0_2 hc0_2
 have HR0_3 := Sd.mk hr0_3
 have HC0_3 := Sd.mk hc0_3
 clear hr0_3 hc0_3
 have HR1 := Sd.mk hr1
 have HC1 := Sd.mk hc1
 clear hr1 hc1
 have HR2 := Sd.mk hr2
 have HC2 := Sd.mk hc2
 clear hr2 hc2
 have HB := Sd.mk (Below.refl w.heap.size w)
 have H : (if (l1.length : Int) > 10 then (glisterref04_AskFault.j0 k l1 l2 true a0_0 a0_1 l0_2 l0_3) else (glisterref04_AskFault.j0 k l1 l2 (decide ((l2.length : Int) > 6)) a0_0 a0_1 l0_2 l0_3)) = some r := h
 clear h
 have HC4 := Sd.mk H
 clear H
 go_enter Try.func81, Try.ntmps81
 go_upto_region 1 with (first | ((with_reducible refine gD (N := 3) rfl ?_); (try (refine gG (by rfl) ?_; dsimp only)); refine xE ?hg (N := 3) ?hd (cs := #[.int .i64 a0_0, .int .i64 a0_1, .slice A0_2 l0_2.length c0_2, .slice A0_3 l0_3.length c0_3]) (t := 25) ?hr ?_; (case hd => rfl); (case hg => rfl); (case hr => first | (go_simp; done) ); intro gb733 hg w5 hbox hb; have BK733 := Sd.mk (hbox); have GW733 := Sd.mk ((by rw [hg]; exact (bZ (by repeat (first | (with_reducible first | exact HB.1 ) ))) : w.heap.size ≤ gb733)); have GE733 := Sd.mk ((by rw [hg]; exact (bZ (by repeat (first | (with_reducible first | exact HB.1 ) ))) : w.heap.size ≤ gb733)); replace HB := Sd.mk (bT (by repeat (first | (with_reducible first | exact HB.1 ) )) hb); clear hb hbox hg))
 repeat (go_quiet (fail); go_upto_region 1 with (fail))
 go_cut [15] (fun v15 wc => ∃ (kq : Nat) (x15_3 : Bool), v15 = .bool x15_3 ∧ Sd (glisterref04_AskFault.j0 kq l1 l2 x15_3 a0_0 a0_1 l0_2 l0_3 = some r) ∧ Sd (kq ≤ k) ∧ Sd (wc.heap[gb733]? = some (.cells #[.int .i64 a0_0, .int .i64 a0_1, (.slice A0_2 l0_2.length c0_2), (.slice A0_3 l0_3.length c0_3)] 25 (0, 0))) ∧ Sd (Below w.heap.size w wc))
 case first =>
  have H := HC4.1
  clear HC4
  by_cases c6 : (l1.length : Int) > 10
  ·rw [if_pos c6] at H
   have c6b0 : decide (10 < (l1.length : Int)) = true := decide_eq_true c6
   have c6b1 : decide (10 < l1.length) = true := decide_eq_true (by omega)
   clear c6
   have H' := Sd.mk H
   clear H
   go_wp2
   repeat (go_quiet (fail))
   go_meet
   case rel => exact ⟨_, (true), (by first | rfl ), H', ⟨by first | omega ⟩, ⟨by (with_reducible repeat (fail)); exact BK733.1⟩, ⟨by repeat (first | (with_reducible first | exact HB.1 ) )⟩⟩
  ·rw [if_neg c6] at H
   have c6b0 : decide (10 < (l1.length : Int)) = false := decide_eq_false c6
   have c6b1 : decide (10 < l1.length) = false := decide_eq_false (by omega)
   clear c6
   have H' := Sd.mk H
   clear H
   go_wp2
   repeat (go_quiet (fail))
   go_meet
   case rel => exact ⟨_, (decide ((l2.length : Int) > 6)), (by first | rfl ), H', ⟨by first | omega ⟩, ⟨by (with_reducible repeat (fail)); exact BK733.1⟩, ⟨by repeat (first | (with_reducible first | exact HB.1 ) )⟩⟩
 case rest =>
  clear HC4
  obtain ⟨kq, x15_3, rfl, HA, HJ3, BK733, HB⟩ := hcut
  cases kq with
  | zero => exact absurd HA.1 (by simp [glisterref04_AskFault.j0])
  | succ kj3 =>
   have H := HA.1
   clear HA
   simp only [glisterref04_AskFault.j0] at H
   by_cases c7 : x15_3 = true
   ·subst c7
    rw [if_pos rfl] at H
    obtain rfl := Option.some.inj H
    go_wp2
    repeat (go_quiet (fail))
    go_ret
    exact ⟨by first | rfl , by repeat (first | (with_reducible first | exact HB.1 ) )⟩
   ·replace c7 := Bool.eq_false_iff.mpr c7
    subst c7
    rw [if_neg (show ¬ (false = true) by decide)] at H
    obtain ⟨t734, A80, H⟩ := Option.bind_eq_some_iff.mp H
    have A8 := Sd.mk A80
    clear A80
    by_cases c9 : t734 = true
    ·subst c9
     rw [if_pos rfl] at H
     have H' := Sd.mk H
     clear H
     have z_10_0 : wc.cell? ⟨gb733, 0, none⟩ = some (.int .i64 a0_0) := (kC BK733.1 0).trans rfl
     have z_10_1 : wc.cell? ⟨gb733, 1, none⟩ = some (.int .i64 a0_1) := (kC BK733.1 1).trans rfl
     have z_10_2 : wc.cell? ⟨gb733, 2, none⟩ = some (.slice A0_2 l0_2.length c0_2) := (kC BK733.1 2).trans rfl
     have z_10_3 : wc.cell? ⟨gb733, 3, none⟩ = some (.slice A0_3 l0_3.length c0_3) := (kC BK733.1 3).trans rfl
     go_wp2_with (first | (go_at_call 24; (with_reducible refine (glisterref04_Plain.calls kj3 a0_0 a0_1 _ _ l0_2 _ _ l0_3 _ _ l1 true _ ?side1 ?side2 ?side3 ?side4 ?side5 ?side6 A8.1).mono ?_); (case side1 => repeat (first | exact (Kd.C_below HR0_2.1 HB.1) )); (case side2 => exact HC0_2.1); (case side3 => repeat (first | exact (Kd.C_below HR0_3.1 HB.1) )); (case side4 => exact HC0_3.1); (case side5 => repeat (first | exact (Kd.C_below HR1.1 HB.1) )); (case side6 => exact HC1.1); rintro e w11 ⟨rfl, hb⟩; replace BK733 := Sd.mk (kB (g := gb733) (o := .cells #[.int .i64 a0_0, .int .i64 a0_1, .slice A0_2 l0_2.length c0_2, .slice A0_3 l0_3.length c0_3] 25 (0, 0)) (by (with_reducible repeat (fail)); exact BK733.1) hb); replace HB := Sd.mk (bT (by repeat (first | (with_reducible first | exact HB.1 ) )) hb); (try clear hb)))
     repeat (go_quiet (fail))
     go_loopg [7] kj3 (fun kq v7 w' => ∃ (x7_2 : Int), v7 = .int .i64 x7_2 ∧ Sd (glisterref04_AskFault.l0 kq l1 l2 x7_2 a0_0 a0_1 l0_2 l0_3 = some r) ∧ Sd (kq ≤ kj3) ∧ Sd (w'.heap[gb733]? = some (.cells #[.int .i64 a0_0, .int .i64 a0_1, (.slice A0_2 l0_2.length c0_2), (.slice A0_3 l0_3.length c0_3)] 25 (0, 0))) ∧ Sd (Below w.heap.size w w'))
     case atStart => exact ⟨(0), (by first | rfl ), H', ⟨Nat.le_refl _⟩, ⟨by (with_reducible repeat (fail)); exact BK733.1⟩, ⟨by repeat (first | (with_reducible first | exact HB.1 ) )⟩⟩
     case round =>
      clear H'
      clear z_10_0 z_10_1 z_10_2 z_10_3
      obtain ⟨x7_2, rfl, HA, HK2, BK733, HB⟩ := hrel
      cases gk with
      | zero => exact absurd HA.1 (by simp [glisterref04_AskFault.l0])
      | succ k2 =>
       have H := HA.1
       clear HA
       simp only [glisterref04_AskFault.l0] at H
       by_cases c12 : x7_2 < (l2.length : Int)
       ·rw [if_pos c12] at H
        have c12b0 : decide (x7_2 < (l2.length : Int)) = true := decide_eq_true c12
        clear c12
        by_cases c13 : 0 ≤ x7_2
        ·rw [if_pos c13] at H
         have c13b0 : decide (0 ≤ x7_2) = true := decide_eq_true c13
         clear c13
         obtain ⟨t736, A140, H⟩ := Option.bind_eq_some_iff.mp H
         have A14 := Sd.mk A140
         clear A140
         by_cases c15 : t736 = true
         ·subst c15
          rw [if_pos rfl] at H
          obtain ⟨t738, A160, H⟩ := Option.bind_eq_some_iff.mp H
          have A16 := Sd.mk A160
          clear A160
          by_cases c17 : t738 = true
          ·subst c17
           rw [if_pos rfl] at H
           have H' := Sd.mk H
           clear H
           have p735 : 0 ≤ (x7_2 : Int) := of_decide_eq_true (by first | (with_reducible assumption) )
           have q735 : x7_2 < (l2.length : Int) := of_decide_eq_true (by first | (with_reducible assumption) )
           obtain ⟨ad735, e735, hx735_0, hx735_1⟩ := at_T85 HR2.1 x7_2 p735 q735
           cases e735
           replace hx735_0 := (HB.1.cell (World.block_lt_of_cell? w _ hx735_0)).trans hx735_0
           replace hx735_1 := (HB.1.cell (World.block_lt_of_cell? w _ hx735_1)).trans hx735_1
           replace p735 := eq_true p735
           replace q735 := eq_true q735
           have z_18_0 : wr.cell? ⟨gb733, 0, none⟩ = some (.int .i64 a0_0) := (kC BK733.1 0).trans rfl
           go_wp2_with (fail)
           repeat (go_quiet (first | (go_at_call 23; (with_reducible refine (glisterref04_In.calls ((rd_T85 l2 x7_2).f0) 0 (wrap64 ((l1.length : Int) - 1)) true _ A14.1).mono ?_); rintro e w' ⟨rfl, ⟨nd, rfl⟩⟩; (try first | exact ⟨rfl, _, World.drewN_drewN _ _ _⟩ )) | (go_at_call 23; (with_reducible refine (glisterref04_In.calls ((rd_T85 l2 x7_2).f1) 0 (wrap64 (a0_0 - 1)) true _ A16.1).mono ?_); rintro e w' ⟨rfl, ⟨nd, rfl⟩⟩; (try first | exact ⟨rfl, _, World.drewN_drewN _ _ _⟩ ))); try go_wp2_with (fail))
           go_roundg k2
           case measure => have := HJ3.1; have := HK2.1; omega
           case rel => exact ⟨(wrap64 (x7_2 + 1)), (by first | rfl ), H', ⟨by have := HJ3.1; have := HK2.1; omega⟩, ⟨by (with_reducible repeat (refine kN ?_ _ )); exact BK733.1⟩, ⟨by repeat (first | (with_reducible first | exact HB.1 | apply bN ) )⟩⟩
          ·replace c17 := Bool.eq_false_iff.mpr c17
           subst c17
           rw [if_neg (show ¬ (false = true) by decide)] at H
           obtain rfl := Option.some.inj H
           have p735 : 0 ≤ (x7_2 : Int) := of_decide_eq_true (by first | (with_reducible assumption) )
           have q735 : x7_2 < (l2.length : Int) := of_decide_eq_true (by first | (with_reducible assumption) )
           obtain ⟨ad735, e735, hx735_0, hx735_1⟩ := at_T85 HR2.1 x7_2 p735 q735
           cases e735
           replace hx735_0 := (HB.1.cell (World.block_lt_of_cell? w _ hx735_0)).trans hx735_0
           replace hx735_1 := (HB.1.cell (World.block_lt_of_cell? w _ hx735_1)).trans hx735_1
           replace p735 := eq_true p735
           replace q735 := eq_true q735
           have z_19_0 : wr.cell? ⟨gb733, 0, none⟩ = some (.int .i64 a0_0) := (kC BK733.1 0).trans rfl
           go_wp2_with (fail)
           repeat (go_quiet (first | (go_at_call 23; (with_reducible refine (glisterref04_In.calls ((rd_T85 l2 x7_2).f0) 0 (wrap64 ((l1.length : Int) - 1)) true _ A14.1).mono ?_); rintro e w' ⟨rfl, ⟨nd, rfl⟩⟩; (try first | exact ⟨rfl, _, World.drewN_drewN _ _ _⟩ )) | (go_at_call 23; (with_reducible refine (glisterref04_In.calls ((rd_T85 l2 x7_2).f1) 0 (wrap64 (a0_0 - 1)) false _ A16.1).mono ?_); rintro e w' ⟨rfl, ⟨nd, rfl⟩⟩; (try first | exact ⟨rfl, _, World.drewN_drewN _ _ _⟩ ))); try go_wp2_with (fail))
           go_ret
           exact ⟨by first | rfl , by repeat (first | (with_reducible first | exact HB.1 | apply bN ) )⟩
         ·replace c15 := Bool.eq_false_iff.mpr c15
          subst c15
          rw [if_neg (show ¬ (false = true) by decide)] at H
          obtain rfl := Option.some.inj H
          have p735 : 0 ≤ (x7_2 : Int) := of_decide_eq_true (by first | (with_reducible assumption) )
          have q735 : x7_2 < (l2.length : Int) := of_decide_eq_true (by first | (with_reducible assumption) )
          obtain ⟨ad735, e735, hx735_0, hx735_1⟩ := at_T85 HR2.1 x7_2 p735 q735
          cases e735
          replace hx735_0 := (HB.1.cell (World.block_lt_of_cell? w _ hx735_0)).trans hx735_0
          replace hx735_1 := (HB.1.cell (World.block_lt_of_cell? w _ hx735_1)).trans hx735_1
          replace p735 := eq_true p735
          replace q735 := eq_true q735
          go_wp2_with (fail)
          repeat (go_quiet (first | (go_at_call 23; (with_reducible refine (glisterref04_In.calls ((rd_T85 l2 x7_2).f0) 0 (wrap64 ((l1.length : Int) - 1)) false _ A14.1).mono ?_); rintro e w' ⟨rfl, ⟨nd, rfl⟩⟩; (try first | exact ⟨rfl, _, World.drewN_drewN _ _ _⟩ ))); try go_wp2_with (fail))
          go_ret
          exact ⟨by first | rfl , by repeat (first | (with_reducible first | exact HB.1 | apply bN ) )⟩
        ·rw [if_neg c13] at H
         exact absurd H (by simp)
       ·rw [if_neg c12] at H
        have c12b0 : decide (x7_2 < (l2.length : Int)) = false := decide_eq_false c12
        clear c12
        obtain rfl := Option.some.inj H
        go_wp2
        repeat (go_quiet (fail))
        go_ret
        exact ⟨by first | rfl , by repeat (first | (with_reducible first | exact HB.1 ) )⟩
    ·replace c9 := Bool.eq_false_iff.mpr c9
     subst c9
     rw [if_neg (show ¬ (false = true) by decide)] at H
     obtain rfl := Option.some.inj H
     have z_20_0 : wc.cell? ⟨gb733, 0, none⟩ = some (.int .i64 a0_0) := (kC BK733.1 0).trans rfl
     have z_20_1 : wc.cell? ⟨gb733, 1, none⟩ = some (.int .i64 a0_1) := (kC BK733.1 1).trans rfl
     have z_20_2 : wc.cell? ⟨gb733, 2, none⟩ = some (.slice A0_2 l0_2.length c0_2) := (kC BK733.1 2).trans rfl
     have z_20_3 : wc.cell? ⟨gb733, 3, none⟩ = some (.slice A0_3 l0_3.length c0_3) := (kC BK733.1 3).trans rfl
     go_wp2_with (first | (go_at_call 24; (with_reducible refine (glisterref04_Plain.calls kj3 a0_0 a0_1 _ _ l0_2 _ _ l0_3 _ _ l1 false _ ?side1 ?side2 ?side3 ?side4 ?side5 ?side6 A8.1).mono ?_); (case side1 => repeat (first | exact (Kd.C_below HR0_2.1 HB.1) )); (case side2 => exact HC0_2.1); (case side3 => repeat (first | exact (Kd.C_below HR0_3.1 HB.1) )); (case side4 => exact HC0_3.1); (case side5 => repeat (first | exact (Kd.C_below HR1.1 HB.1) )); (case side6 => exact HC1.1); rintro e w21 ⟨rfl, hb⟩; replace BK733 := Sd.mk (kB (g := gb733) (o := .cells #[.int .i64 a0_0, .int .i64 a0_1, .slice A0_2 l0_2.length c0_2, .slice A0_3 l0_3.length c0_3] 25 (0, 0)) (by (with_reducible repeat (fail)); exact BK733.1) hb); replace HB := Sd.mk (bT (by repeat (first | (with_reducible first | exact HB.1 ) )) hb); (try clear hb)))
     repeat (go_quiet (fail))
     go_ret
     exact ⟨by first | rfl , by repeat (first | (with_reducible first | exact HB.1 ) )⟩
end Go.Proofs.Ytnidgkmopocdkaa.P
