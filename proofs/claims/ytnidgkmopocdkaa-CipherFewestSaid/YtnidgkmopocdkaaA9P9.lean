import Derived.Test.YtnidgkmopocdkaaA9P0
namespace Go.Proofs.Ytnidgkmopocdkaa.P
open Go.RowKit Go.Proofs.YtnidgkmopocdkaaW.PrintWords Go.Proofs.YtnidgkmopocdkaaW.PrintLast Go.Proofs.YtnidgkmopocdkaaW.PrintMore
attribute [local go_sem] max2_int min2_int max_two min_two max_three min_three max_four min_four   -- for this text's walks alone
set_option linter.unusedVariables false
set_option linter.unusedSimpArgs false
def glisterref04_Changes.l0 : Nat → List Int → Int → Int → Option (Int)
 | 0, _, _, _ => none
 | k + 1, x0, x3, x4 => if x4 < (x0.length : Int) then (if 0 ≤ x4 then (if 0 ≤ (wrap64 (x4 - 1)) then (if (wrap64 (x4 - 1)) < (x0.length : Int) then (if (rd x0 x4) = (rd x0 (wrap64 (x4 - 1))) then (glisterref04_Changes.l0 k x0 x3 (wrap64 (x4 + 1))) else (glisterref04_Changes.l0 k x0 (wrap64 (x3 + 1)) (wrap64 (x4 + 1)))) else (none)) else (none)) else (none)) else (some x3)
def glisterref04_Changes.f (k : Nat) (l0 : List Int) : Option (Int) := glisterref04_Changes.l0 k l0 0 1
set_option maxHeartbeats 8000000 in
set_option maxRecDepth 100000 in
theorem glisterref04_Changes.calls (k : Nat) (A0 : Option Addr) (c0 : Nat) (l0 : List Int) (r : Int) (w : World) (hr0 : Kd.C (Kd.int .i64) w A0 l0.length l0) (hc0 : l0.length ≤ c0) (h : glisterref04_Changes.f k l0 = some r) :
  Calls Try.prog 37 #[.slice A0 l0.length c0] w fun e w' => e = .returned (.int .i64 r) ∧ Drawn0 w w' := by
 have HR0 := Sd.mk hr0
 have HC0 := Sd.mk hc0
 clear hr0 hc0
 have H : (glisterref04_Changes.l0 k l0 0 1) = some r := h
 clear h
 have H' := Sd.mk H
 clear H
 go_enter Try.func37, Try.ntmps37
 go_wp2
 repeat (go_quiet (fail))
 go_loopg [3, 4] k (fun kq v3 v4 w' => ∃ (x3_1 : Int) (x4_1 : Int), v3 = .int .i64 x3_1 ∧ v4 = .int .i64 x4_1 ∧ Sd (glisterref04_Changes.l0 kq l0 x3_1 x4_1 = some r) ∧ Sd (kq ≤ k) ∧ Drawn0 w w')
 case atStart => exact ⟨(0), (1), (by first | rfl ), (by first | rfl ), H', ⟨Nat.le_refl _⟩, by exact Drawn0.refl _ ⟩
 case round =>
  clear H'
  obtain ⟨x3_1, x4_1, rfl, rfl, HA, HK1, ⟨m1, rfl⟩⟩ := hrel
  cases gk with
  | zero => exact absurd HA.1 (by simp [glisterref04_Changes.l0])
  | succ k1 =>
   have H := HA.1
   clear HA
   simp only [glisterref04_Changes.l0] at H
   by_cases c2 : x4_1 < (l0.length : Int)
   ·rw [if_pos c2] at H
    have c2b0 : decide (x4_1 < (l0.length : Int)) = true := decide_eq_true c2
    clear c2
    by_cases c3 : 0 ≤ x4_1
    ·rw [if_pos c3] at H
     have c3b0 : decide (0 ≤ x4_1) = true := decide_eq_true c3
     clear c3
     obtain ⟨ji4, hji4⟩ : ∃ j_ : Int, (wrap64 (x4_1 - 1)) = j_ := ⟨_, rfl⟩
     replace H : (if 0 ≤ (ji4) then (if (ji4) < (l0.length : Int) then (if (rd l0 x4_1) = (rd l0 (ji4)) then (glisterref04_Changes.l0 k1 l0 x3_1 (wrap64 (x4_1 + 1))) else (glisterref04_Changes.l0 k1 l0 (wrap64 (x3_1 + 1)) (wrap64 (x4_1 + 1)))) else (none)) else (none)) = some r := by first | (rw [hji4] at H; exact H) 
     have hji4w : (IntKind.i64.wrap (x4_1 - 1)) = ji4 := (i64_w _).trans hji4
     by_cases c5 : 0 ≤ (ji4)
     ·rw [if_pos c5] at H
      have c5b0 : decide (0 ≤ (ji4)) = true := decide_eq_true c5
      clear c5
      by_cases c6 : (ji4) < (l0.length : Int)
      ·rw [if_pos c6] at H
       have c6b0 : decide ((ji4) < (l0.length : Int)) = true := decide_eq_true c6
       clear c6
       by_cases c7 : (rd l0 x4_1) = (rd l0 (ji4))
       ·rw [if_pos c7] at H
        have c7b0 : ((rd l0 x4_1) == (rd l0 (ji4))) = true := beq_iff_eq.mpr c7
        have c7b1 : ((rd l0 x4_1) != (rd l0 (ji4))) = false := bne_eq_false_iff_eq.mpr c7
        clear c7
        have H' := Sd.mk H
        clear H
        have p653 : 0 ≤ (x4_1 : Int) := of_decide_eq_true (by first | (with_reducible assumption) )
        have q653 : x4_1 < (l0.length : Int) := of_decide_eq_true (by first | (with_reducible assumption) )
        obtain ⟨ad653, e653, hx653_0⟩ := Kd.at_int HR0.1 x4_1 p653 q653
        cases e653
        replace p653 := eq_true p653
        replace q653 := eq_true q653
        have p654 : 0 ≤ ((ji4) : Int) := of_decide_eq_true (by first | (with_reducible assumption) )
        have q654 : (ji4) < (l0.length : Int) := of_decide_eq_true (by first | (with_reducible assumption) )
        obtain ⟨ad654, e654, hx654_0⟩ := Kd.at_int HR0.1 (ji4) p654 q654
        obtain rfl : ad653 = ad654 := (by injection e654)
        replace p654 := eq_true p654
        replace q654 := eq_true q654
        go_wp2
        repeat (go_quiet (fail); try go_wp2)
        go_roundg k1
        case measure => have := HK1.1; omega
        case rel => exact ⟨(x3_1), (wrap64 (x4_1 + 1)), (by first | rfl ), (by first | rfl ), H', ⟨by have := HK1.1; omega⟩, by repeat (first | exact Drawn0.refl _ | apply Drawn0.step)⟩
       ·rw [if_neg c7] at H
        have c7b0 : ((rd l0 x4_1) == (rd l0 (ji4))) = false := beq_eq_false_iff_ne.mpr c7
        have c7b1 : ((rd l0 x4_1) != (rd l0 (ji4))) = true := bne_iff_ne.mpr c7
        have H' := Sd.mk H
        clear H
        have p653 : 0 ≤ (x4_1 : Int) := of_decide_eq_true (by first | (with_reducible assumption) )
        have q653 : x4_1 < (l0.length : Int) := of_decide_eq_true (by first | (with_reducible assumption) )
        obtain ⟨ad653, e653, hx653_0⟩ := Kd.at_int HR0.1 x4_1 p653 q653
        cases e653
        replace p653 := eq_true p653
        replace q653 := eq_true q653
        have p654 : 0 ≤ ((ji4) : Int) := of_decide_eq_true (by first | (with_reducible assumption) )
        have q654 : (ji4) < (l0.length : Int) := of_decide_eq_true (by first | (with_reducible assumption) )
        obtain ⟨ad654, e654, hx654_0⟩ := Kd.at_int HR0.1 (ji4) p654 q654
        obtain rfl : ad653 = ad654 := (by injection e654)
        replace p654 := eq_true p654
        replace q654 := eq_true q654
        go_wp2
        repeat (go_quiet (fail); try go_wp2)
        go_roundg k1
        case measure => have := HK1.1; omega
        case rel => exact ⟨(wrap64 (x3_1 + 1)), (wrap64 (x4_1 + 1)), (by first | rfl ), (by first | rfl ), H', ⟨by have := HK1.1; omega⟩, by repeat (first | exact Drawn0.refl _ | apply Drawn0.step)⟩
      ·rw [if_neg c6] at H
       exact absurd H (by simp)
     ·rw [if_neg c5] at H
      exact absurd H (by simp)
    ·rw [if_neg c3] at H
     exact absurd H (by simp)
   ·rw [if_neg c2] at H
    have c2b0 : decide (x4_1 < (l0.length : Int)) = false := decide_eq_false c2
    clear c2
    obtain rfl := Option.some.inj H
    go_wp2
    repeat (go_quiet (fail))
    go_ret
    exact ⟨by first | rfl , by repeat (first | exact Drawn0.refl _ | apply Drawn0.step)⟩
mutual
def glisterlaw04_before.l0 : Nat → List Int → List Int → Int → Option (Bool)
 | 0, _, _, _ => none
 | k + 1, x0, x1, x5 => if x5 < (x0.length : Int) then (glisterlaw04_before.j1 k x0 x1 x5 (decide (x5 < (x1.length : Int)))) else (glisterlaw04_before.j1 k x0 x1 x5 false)
def glisterlaw04_before.j1 : Nat → List Int → List Int → Int → Bool → Option (Bool)
 | 0, _, _, _, _ => none
 | k + 1, x0, x1, x5, x15 => if x15 = true then (if 0 ≤ x5 then (if x5 < (x0.length : Int) then (if x5 < (x1.length : Int) then (if (rd x0 x5) = (rd x1 x5) then (glisterlaw04_before.l0 k x0 x1 (wrap64 (x5 + 1))) else (some (decide ((rd x0 x5) < (rd x1 x5))))) else (none)) else (none)) else (none)) else (some (decide ((x0.length : Int) < (x1.length : Int))))
end
def glisterlaw04_before.f (k : Nat) (l0 : List Int) (l1 : List Int) : Option (Bool) := glisterlaw04_before.l0 k l0 l1 0
set_option maxHeartbeats 8000000 in
set_option maxRecDepth 100000 in
theorem glisterlaw04_before.calls (k : Nat) (A0 : Option Addr) (c0 : Nat) (l0 : List Int) (A1 : Option Addr) (c1 : Nat) (l1 : List Int) (r : Bool) (w : World) (hr0 : Kd.C (Kd.int .i64) w A0 l0.length l0) (hc0 : l0.length ≤ c0) (hr1 : Kd.C (Kd.int .i64) w A1 l1.length l1) (hc1 : l1.length ≤ c1) (h : glisterlaw04_before.f k l0 l1 = some r) :
  Calls Try.prog 39 #[.slice A0 l0.length c0, .slice A1 l1.length c1] w fun e w' => e = .returned (.bool r) ∧ Drawn0 w w' := by
 have HR0 := Sd.mk hr0
 have HC0 := Sd.mk hc0
 clear hr0 hc0
 have HR1 := Sd.mk hr1
 have HC1 := Sd.mk hc1
 clear hr1 hc1
 have H : (glisterlaw04_before.l0 k l0 l1 0) = some r := h
 clear h
 have H' := Sd.mk H
 clear H
 go_enter Try.func39, Try.ntmps39
 go_wp2
 repeat (go_quiet (fail))
 go_loopg [5] k (fun kq v5 w' => ∃ (x5_1 : Int), v5 = .int .i64 x5_1 ∧ Sd (glisterlaw04_before.l0 kq l0 l1 x5_1 = some r) ∧ Sd (kq ≤ k) ∧ Drawn0 w w')
 case atStart => exact ⟨(0), (by first | rfl ), H', ⟨Nat.le_refl _⟩, by exact Drawn0.refl _ ⟩
 case round =>
  clear H'
  obtain ⟨x5_1, rfl, HA, HK1, ⟨m1, rfl⟩⟩ := hrel
  cases gk with
  | zero => exact absurd HA.1 (by simp [glisterlaw04_before.l0])
  | succ k1 =>
   have H := HA.1
   clear HA
   simp only [glisterlaw04_before.l0] at H
   have HC3 := Sd.mk H
   clear H
   go_upto_region 2 with (fail)
   repeat (go_quiet (fail); go_upto_region 2 with (fail))
   go_cut [15] (fun v15 wc => ∃ (kq : Nat) (x15_2 : Bool), v15 = .bool x15_2 ∧ Sd (glisterlaw04_before.j1 kq l0 l1 x5_1 x15_2 = some r) ∧ Sd (kq ≤ k1) ∧ Drawn0 w wc)
   case first =>
    have H := HC3.1
    clear HC3
    by_cases c4 : x5_1 < (l0.length : Int)
    ·rw [if_pos c4] at H
     have c4b0 : decide (x5_1 < (l0.length : Int)) = true := decide_eq_true c4
     clear c4
     have H' := Sd.mk H
     clear H
     go_wp2
     repeat (go_quiet (fail))
     go_meet
     case rel => exact ⟨_, (decide (x5_1 < (l1.length : Int))), (by first | rfl ), H', ⟨by have := HK1.1; first | omega ⟩, by repeat (first | exact Drawn0.refl _ | apply Drawn0.step)⟩
    ·rw [if_neg c4] at H
     have c4b0 : decide (x5_1 < (l0.length : Int)) = false := decide_eq_false c4
     clear c4
     have H' := Sd.mk H
     clear H
     go_wp2
     repeat (go_quiet (fail))
     go_meet
     case rel => exact ⟨_, (false), (by first | rfl ), H', ⟨by have := HK1.1; first | omega ⟩, by repeat (first | exact Drawn0.refl _ | apply Drawn0.step)⟩
   case rest =>
    clear HC3
    obtain ⟨kq, x15_2, rfl, HA, HJ2, ⟨mc2, rfl⟩⟩ := hcut
    cases kq with
    | zero => exact absurd HA.1 (by simp [glisterlaw04_before.j1])
    | succ kj2 =>
     have H := HA.1
     clear HA
     simp only [glisterlaw04_before.j1] at H
     by_cases c5 : x15_2 = true
     ·subst c5
      rw [if_pos rfl] at H
      by_cases c6 : 0 ≤ x5_1
      ·rw [if_pos c6] at H
       have c6b0 : decide (0 ≤ x5_1) = true := decide_eq_true c6
       clear c6
       by_cases c7 : x5_1 < (l0.length : Int)
       ·rw [if_pos c7] at H
        have c7b0 : decide (x5_1 < (l0.length : Int)) = true := decide_eq_true c7
        clear c7
        by_cases c8 : x5_1 < (l1.length : Int)
        ·rw [if_pos c8] at H
         have c8b0 : decide (x5_1 < (l1.length : Int)) = true := decide_eq_true c8
         clear c8
         by_cases c9 : (rd l0 x5_1) = (rd l1 x5_1)
         ·rw [if_pos c9] at H
          have c9b0 : ((rd l0 x5_1) == (rd l1 x5_1)) = true := beq_iff_eq.mpr c9
          have c9b1 : ((rd l0 x5_1) != (rd l1 x5_1)) = false := bne_eq_false_iff_eq.mpr c9
          clear c9
          have H' := Sd.mk H
          clear H
          have p655 : 0 ≤ (x5_1 : Int) := of_decide_eq_true (by first | (with_reducible assumption) )
          have q655 : x5_1 < (l0.length : Int) := of_decide_eq_true (by first | (with_reducible assumption) )
          obtain ⟨ad655, e655, hx655_0⟩ := Kd.at_int HR0.1 x5_1 p655 q655
          cases e655
          replace p655 := eq_true p655
          replace q655 := eq_true q655
          have p656 : 0 ≤ (x5_1 : Int) := of_decide_eq_true (by first | (with_reducible assumption) )
          have q656 : x5_1 < (l1.length : Int) := of_decide_eq_true (by first | (with_reducible assumption) )
          obtain ⟨ad656, e656, hx656_0⟩ := Kd.at_int HR1.1 x5_1 p656 q656
          cases e656
          replace p656 := eq_true p656
          replace q656 := eq_true q656
          go_wp2
          repeat (go_quiet (fail); try go_wp2)
          go_roundg kj2
          case measure => have := HK1.1; have := HJ2.1; omega
          case rel => exact ⟨(wrap64 (x5_1 + 1)), (by first | rfl ), H', ⟨by have := HK1.1; have := HJ2.1; omega⟩, by repeat (first | exact Drawn0.refl _ | apply Drawn0.step)⟩
         ·rw [if_neg c9] at H
          have c9b0 : ((rd l0 x5_1) == (rd l1 x5_1)) = false := beq_eq_false_iff_ne.mpr c9
          have c9b1 : ((rd l0 x5_1) != (rd l1 x5_1)) = true := bne_iff_ne.mpr c9
          obtain rfl := Option.some.inj H
          have p655 : 0 ≤ (x5_1 : Int) := of_decide_eq_true (by first | (with_reducible assumption) )
          have q655 : x5_1 < (l0.length : Int) := of_decide_eq_true (by first | (with_reducible assumption) )
          obtain ⟨ad655, e655, hx655_0⟩ := Kd.at_int HR0.1 x5_1 p655 q655
          cases e655
          replace p655 := eq_true p655
          replace q655 := eq_true q655
          have p656 : 0 ≤ (x5_1 : Int) := of_decide_eq_true (by first | (with_reducible assumption) )
          have q656 : x5_1 < (l1.length : Int) := of_decide_eq_true (by first | (with_reducible assumption) )
          obtain ⟨ad656, e656, hx656_0⟩ := Kd.at_int HR1.1 x5_1 p656 q656
          cases e656
          replace p656 := eq_true p656
          replace q656 := eq_true q656
          have p657 : 0 ≤ (x5_1 : Int) := of_decide_eq_true (by first | (with_reducible assumption) )
          have q657 : x5_1 < (l0.length : Int) := of_decide_eq_true (by first | (with_reducible assumption) )
          obtain ⟨ad657, e657, hx657_0⟩ := Kd.at_int HR0.1 x5_1 p657 q657
          obtain rfl : ad655 = ad657 := (by injection e657)
          replace p657 := eq_true p657
          replace q657 := eq_true q657
          have p658 : 0 ≤ (x5_1 : Int) := of_decide_eq_true (by first | (with_reducible assumption) )
          have q658 : x5_1 < (l1.length : Int) := of_decide_eq_true (by first | (with_reducible assumption) )
          obtain ⟨ad658, e658, hx658_0⟩ := Kd.at_int HR1.1 x5_1 p658 q658
          obtain rfl : ad656 = ad658 := (by injection e658)
          replace p658 := eq_true p658
          replace q658 := eq_true q658
          go_wp2
          repeat (go_quiet (fail); try go_wp2)
          go_ret
          exact ⟨by first | rfl , by repeat (first | exact Drawn0.refl _ | apply Drawn0.step)⟩
        ·rw [if_neg c8] at H
         exact absurd H (by simp)
       ·rw [if_neg c7] at H
        exact absurd H (by simp)
      ·rw [if_neg c6] at H
       exact absurd H (by simp)
     ·replace c5 := Bool.eq_false_iff.mpr c5
      subst c5
      rw [if_neg (show ¬ (false = true) by decide)] at H
      obtain rfl := Option.some.inj H
      go_wp2
      repeat (go_quiet (fail))
      go_ret
      exact ⟨by first | rfl , by repeat (first | exact Drawn0.refl _ | apply Drawn0.step)⟩
end Go.Proofs.Ytnidgkmopocdkaa.P
