import Derived.Test.YtnidgkmopocdkaaA13P0
import Derived.Test.YtnidgkmopocdkaaA13P4
namespace Go.Proofs.Ytnidgkmopocdkaa.P
open Go.RowKit Go.Proofs.YtnidgkmopocdkaaW.PrintWords Go.Proofs.YtnidgkmopocdkaaW.PrintLast Go.Proofs.YtnidgkmopocdkaaW.PrintMore
attribute [local go_sem] max2_int min2_int max_two min_two max_three min_three max_four min_four   -- for this text's walks alone
set_option linter.unusedVariables false
set_option linter.unusedSimpArgs false
def glisterref04_Plain.l0 : Nat → List Int → Int → Int → Int → List (S82) → List Int → Option (Bool)
 | 0, _, _, _, _, _, _ => none
 | k + 1, x1, x5, x241000, x241001, x241002, x241003 => if x5 < (x1.length : Int) then (if 0 ≤ x5 then ((glisterref04_In.f (rd x1 x5) 0 (wrap64 (x241000 - 1))).bind fun t242 => (if t242 = true then (glisterref04_Plain.l0 k x1 (wrap64 (x5 + 1)) x241000 x241001 x241002 x241003) else (some false))) else (none)) else (some true)
def glisterref04_Plain.f (k : Nat) (a0_0 : Int) (a0_1 : Int) (l0_2 : List (S82)) (l0_3 : List Int) (l1 : List Int) : Option (Bool) := glisterref04_Plain.l0 k l1 0 a0_0 a0_1 l0_2 l0_3
set_option maxHeartbeats 8000000 in
set_option maxRecDepth 100000 in
theorem glisterref04_Plain.calls (k : Nat) (a0_0 : Int) (a0_1 : Int) (A0_2 : Option Addr) (c0_2 : Nat) (l0_2 : List (S82)) (A0_3 : Option Addr) (c0_3 : Nat) (l0_3 : List Int) (A1 : Option Addr) (c1 : Nat) (l1 : List Int) (r : Bool) (w : World) (hr0_2 : Kd.C k82 w A0_2 l0_2.length l0_2) (hc0_2 : l0_2.length ≤ c0_2) (hr0_3 : Kd.C (Kd.int .i64) w A0_3 l0_3.length l0_3) (hc0_3 : l0_3.length ≤ c0_3) (hr1 : Kd.C (Kd.int .i64) w A1 l1.length l1) (hc1 : l1.length ≤ c1) (h : glisterref04_Plain.f k a0_0 a0_1 l0_2 l0_3 l1 = some r) :
  Calls Try.prog 24 #[.agg #[.int .i64 a0_0, .int .i64 a0_1, .slice A0_2 l0_2.length c0_2, .slice A0_3 l0_3.length c0_3], .slice A1 l1.length c1] w fun e w' => e = .returned (.bool r) ∧ Below w.heap.size w w' := by
 have hu25 := Try.underlying25
 have HR0_2 := Sd.mk hr0_2
 have HC0_2 := Sd.mk hc0_2
 clear hr0_2 hc0_2
 have HR0_3 := Sd.mk hr0_3
 have HC0_3 := Sd.mk hc0_3
 clear hr0_3 hc0_3
 have HR1 := Sd.mk hr1
 have HC1 := Sd.mk hc1
 clear hr1 hc1
 have HB := Sd.mk (Below.refl w.heap.size w)
 have H : (glisterref04_Plain.l0 k l1 0 a0_0 a0_1 l0_2 l0_3) = some r := h
 clear h
 have H' := Sd.mk H
 clear H
 go_enter Try.func24, Try.ntmps24
 go_wp2_with (first | ((with_reducible refine gD (N := 2) rfl ?_); refine xE ?hg (N := 2) ?hd (cs := #[.int .i64 a0_0, .int .i64 a0_1, .slice A0_2 l0_2.length c0_2, .slice A0_3 l0_3.length c0_3]) (t := 25) ?hr ?_; (case hd => rfl); (case hg => rfl); (case hr => first | (go_simp; done) ); intro gb240 hg w3 hbox hb; have BK240 := Sd.mk (hbox); have GW240 := Sd.mk ((by rw [hg]; exact (bZ (by repeat (first | (with_reducible first | exact HB.1 ) ))) : w.heap.size ≤ gb240)); have GE240 := Sd.mk ((by rw [hg]; exact (bZ (by repeat (first | (with_reducible first | exact HB.1 ) ))) : w.heap.size ≤ gb240)); replace HB := Sd.mk (bT (by repeat (first | (with_reducible first | exact HB.1 ) )) hb); clear hb hbox hg))
 repeat (go_quiet (fail))
 go_loopg [5] k (fun kq v5 w' => ∃ (x5_1 : Int), v5 = .int .i64 x5_1 ∧ Sd (glisterref04_Plain.l0 kq l1 x5_1 a0_0 a0_1 l0_2 l0_3 = some r) ∧ Sd (kq ≤ k) ∧ Sd (w'.heap[gb240]? = some (.cells #[.int .i64 a0_0, .int .i64 a0_1, (.slice A0_2 l0_2.length c0_2), (.slice A0_3 l0_3.length c0_3)] 25 (0, 0))) ∧ Sd (Below w.heap.size w w'))
 case atStart => exact ⟨(0), (by first | rfl ), H', ⟨Nat.le_refl _⟩, ⟨by (with_reducible repeat (fail)); exact BK240.1⟩, ⟨by repeat (first | (with_reducible first | exact HB.1 ) )⟩⟩
 case round =>
  clear H'
  obtain ⟨x5_1, rfl, HA, HK1, BK240, HB⟩ := hrel
  cases gk with
  | zero => exact absurd HA.1 (by simp [glisterref04_Plain.l0])
  | succ k1 =>
   have H := HA.1
   clear HA
   simp only [glisterref04_Plain.l0] at H
   by_cases c4 : x5_1 < (l1.length : Int)
   ·rw [if_pos c4] at H
    have c4b0 : decide (x5_1 < (l1.length : Int)) = true := decide_eq_true c4
    clear c4
    by_cases c5 : 0 ≤ x5_1
    ·rw [if_pos c5] at H
     have c5b0 : decide (0 ≤ x5_1) = true := decide_eq_true c5
     clear c5
     obtain ⟨t242, A60, H⟩ := Option.bind_eq_some_iff.mp H
     have A6 := Sd.mk A60
     clear A60
     by_cases c7 : t242 = true
     ·subst c7
      rw [if_pos rfl] at H
      have H' := Sd.mk H
      clear H
      have p241 : 0 ≤ (x5_1 : Int) := of_decide_eq_true (by first | (with_reducible assumption) )
      have q241 : x5_1 < (l1.length : Int) := of_decide_eq_true (by first | (with_reducible assumption) )
      obtain ⟨ad241, e241, hx241_0⟩ := Kd.at_int HR1.1 x5_1 p241 q241
      cases e241
      replace hx241_0 := (HB.1.cell (World.block_lt_of_cell? w _ hx241_0)).trans hx241_0
      replace p241 := eq_true p241
      replace q241 := eq_true q241
      have z_8_0 : wr.cell? ⟨gb240, 0, none⟩ = some (.int .i64 a0_0) := (kC BK240.1 0).trans rfl
      go_wp2_with (fail)
      repeat (go_quiet (first | (go_at_call 23; (with_reducible refine (glisterref04_In.calls (rd l1 x5_1) 0 (wrap64 (a0_0 - 1)) true _ A6.1).mono ?_); rintro e w' ⟨rfl, ⟨nd, rfl⟩⟩; (try first | exact ⟨rfl, _, World.drewN_drewN _ _ _⟩ ))); try go_wp2_with (fail))
      go_roundg k1
      case measure => have := HK1.1; omega
      case rel => exact ⟨(wrap64 (x5_1 + 1)), (by first | rfl ), H', ⟨by have := HK1.1; omega⟩, ⟨by (with_reducible repeat (refine kN ?_ _ )); exact BK240.1⟩, ⟨by repeat (first | (with_reducible first | exact HB.1 | apply bN ) )⟩⟩
     ·replace c7 := Bool.eq_false_iff.mpr c7
      subst c7
      rw [if_neg (show ¬ (false = true) by decide)] at H
      obtain rfl := Option.some.inj H
      have p241 : 0 ≤ (x5_1 : Int) := of_decide_eq_true (by first | (with_reducible assumption) )
      have q241 : x5_1 < (l1.length : Int) := of_decide_eq_true (by first | (with_reducible assumption) )
      obtain ⟨ad241, e241, hx241_0⟩ := Kd.at_int HR1.1 x5_1 p241 q241
      cases e241
      replace hx241_0 := (HB.1.cell (World.block_lt_of_cell? w _ hx241_0)).trans hx241_0
      replace p241 := eq_true p241
      replace q241 := eq_true q241
      have z_9_0 : wr.cell? ⟨gb240, 0, none⟩ = some (.int .i64 a0_0) := (kC BK240.1 0).trans rfl
      have z_9_1 : wr.cell? ⟨gb240, 1, none⟩ = some (.int .i64 a0_1) := (kC BK240.1 1).trans rfl
      have z_9_2 : wr.cell? ⟨gb240, 2, none⟩ = some (.slice A0_2 l0_2.length c0_2) := (kC BK240.1 2).trans rfl
      go_wp2_with (fail)
      repeat (go_quiet (first | (go_at_call 23; (with_reducible refine (glisterref04_In.calls (rd l1 x5_1) 0 (wrap64 (a0_0 - 1)) false _ A6.1).mono ?_); rintro e w' ⟨rfl, ⟨nd, rfl⟩⟩; (try first | exact ⟨rfl, _, World.drewN_drewN _ _ _⟩ ))); try go_wp2_with (fail))
      go_ret
      exact ⟨by first | rfl , by repeat (first | (with_reducible first | exact HB.1 | apply bN ) )⟩
    ·rw [if_neg c5] at H
     exact absurd H (by simp)
   ·rw [if_neg c4] at H
    have c4b0 : decide (x5_1 < (l1.length : Int)) = false := decide_eq_false c4
    clear c4
    obtain rfl := Option.some.inj H
    go_wp2
    repeat (go_quiet (fail))
    go_ret
    exact ⟨by first | rfl , by repeat (first | (with_reducible first | exact HB.1 ) )⟩
def glisterref04_CodeOf.f (a0_0 : Int) (a0_1 : Int) (l0_2 : List (S82)) (l0_3 : List Int) (a1_0 : Int) (a1_1 : Int) (a1_2 : Int) (a2 : Int) (a3 : Int) : Option (Int) := if a0_0 = 0 then (none) else (some (Int.tmod (wrap64 ((wrap64 ((wrap64 (a1_0 * a2)) + a1_1)) + (wrap64 (a3 * a1_2)))) a0_0))
set_option maxHeartbeats 8000000 in
set_option maxRecDepth 100000 in
theorem glisterref04_CodeOf.calls (a0_0 : Int) (a0_1 : Int) (A0_2 : Option Addr) (c0_2 : Nat) (l0_2 : List (S82)) (A0_3 : Option Addr) (c0_3 : Nat) (l0_3 : List Int) (a1_0 : Int) (a1_1 : Int) (a1_2 : Int) (a2 : Int) (a3 : Int) (r : Int) (w : World) (hr0_2 : Kd.C k82 w A0_2 l0_2.length l0_2) (hc0_2 : l0_2.length ≤ c0_2) (hr0_3 : Kd.C (Kd.int .i64) w A0_3 l0_3.length l0_3) (hc0_3 : l0_3.length ≤ c0_3) (h : glisterref04_CodeOf.f a0_0 a0_1 l0_2 l0_3 a1_0 a1_1 a1_2 a2 a3 = some r) :
  Calls Try.prog 64 #[.agg #[.int .i64 a0_0, .int .i64 a0_1, .slice A0_2 l0_2.length c0_2, .slice A0_3 l0_3.length c0_3], .agg #[.int .i64 a1_0, .int .i64 a1_1, .int .i64 a1_2], .int .i64 a2, .int .i64 a3] w fun e w' => e = .returned (.int .i64 r) ∧ Below w.heap.size w w' := by
 have hu25 := Try.underlying25
 have hu82 := Try.underlying82
 have HR0_2 := Sd.mk hr0_2
 have HC0_2 := Sd.mk hc0_2
 clear hr0_2 hc0_2
 have HR0_3 := Sd.mk hr0_3
 have HC0_3 := Sd.mk hc0_3
 clear hr0_3 hc0_3
 have HB := Sd.mk (Below.refl w.heap.size w)
 have H : (if a0_0 = 0 then (none) else (some (Int.tmod (wrap64 ((wrap64 ((wrap64 (a1_0 * a2)) + a1_1)) + (wrap64 (a3 * a1_2)))) a0_0))) = some r := h
 clear h
 by_cases c5 : a0_0 = 0
 ·rw [if_pos c5] at H
  exact absurd H (by simp)
 ·rw [if_neg c5] at H
  have c5b0 : (a0_0 == 0) = false := beq_eq_false_iff_ne.mpr c5
  have c5b1 : (a0_0 != 0) = true := bne_iff_ne.mpr c5
  obtain rfl := Option.some.inj H
  go_enter Try.func64, Try.ntmps64
  go_wp2_with (first | ((with_reducible refine gD (N := 4) rfl ?_); refine xE ?hg (N := 4) ?hd (cs := #[.int .i64 a0_0, .int .i64 a0_1, .slice A0_2 l0_2.length c0_2, .slice A0_3 l0_3.length c0_3]) (t := 25) ?hr ?_; (case hd => rfl); (case hg => rfl); (case hr => first | (go_simp; done) ); intro gb245 hg w6 hbox hb; have BK245 := Sd.mk (hbox); have GW245 := Sd.mk ((by rw [hg]; exact (bZ (by repeat (first | (with_reducible first | exact HB.1 ) ))) : w.heap.size ≤ gb245)); have GE245 := Sd.mk ((by rw [hg]; exact (bZ (by repeat (first | (with_reducible first | exact HB.1 ) ))) : w.heap.size ≤ gb245)); replace HB := Sd.mk (bT (by repeat (first | (with_reducible first | exact HB.1 ) )) hb); clear hb hbox hg) | ((with_reducible refine gD (N := 5) rfl ?_); refine xE ?hg (N := 5) ?hd (cs := #[.int .i64 a1_0, .int .i64 a1_1, .int .i64 a1_2]) (t := 82) ?hr ?_; (case hd => rfl); (case hg => rfl); (case hr => first | (go_simp; done) ); intro gb246 hg w7 hbox hb; have BK246 := Sd.mk (hbox); have GW246 := Sd.mk ((by rw [hg]; exact (bZ (by repeat (first | (with_reducible first | exact HB.1 ) ))) : w.heap.size ≤ gb246)); have GE246 := Sd.mk ((by rw [hg]; exact (bZ (by repeat (first | (with_reducible first | exact HB.1 ) ))) : w.heap.size ≤ gb246)); replace HB := Sd.mk (bT (by repeat (first | (with_reducible first | exact HB.1 ) )) hb); have NB245_246 := Sd.mk ((by rw [hg]; exact Nat.ne_of_lt (blk_lt (g := gb245) (o := .cells #[.int .i64 a0_0, .int .i64 a0_1, .slice A0_2 l0_2.length c0_2, .slice A0_3 l0_3.length c0_3] 25 (0, 0)) (by (with_reducible repeat (fail)); exact BK245.1)) : gb245 ≠ gb246)); have NB246_245 := Sd.mk ((by rw [hg]; exact Nat.ne_of_gt (blk_lt (g := gb245) (o := .cells #[.int .i64 a0_0, .int .i64 a0_1, .slice A0_2 l0_2.length c0_2, .slice A0_3 l0_3.length c0_3] 25 (0, 0)) (by (with_reducible repeat (fail)); exact BK245.1)) : gb246 ≠ gb245)); replace BK245 := Sd.mk (kB (g := gb245) (o := .cells #[.int .i64 a0_0, .int .i64 a0_1, .slice A0_2 l0_2.length c0_2, .slice A0_3 l0_3.length c0_3] 25 (0, 0)) (by (with_reducible repeat (fail)); exact BK245.1) hb); clear hb hbox hg; have hnb8 := NB246_245.1; have hnc8 := NB245_246.1; have z_9_0 : w7.cell? ⟨gb246, 0, none⟩ = some (.int .i64 a1_0) := (kC BK246.1 0).trans rfl; have z_9_1 : w7.cell? ⟨gb246, 1, none⟩ = some (.int .i64 a1_1) := (kC BK246.1 1).trans rfl; have z_9_2 : w7.cell? ⟨gb246, 2, none⟩ = some (.int .i64 a1_2) := (kC BK246.1 2).trans rfl; have z_10_0 : w7.cell? ⟨gb245, 0, none⟩ = some (.int .i64 a0_0) := (kC BK245.1 0).trans rfl))
  go_ret
  exact ⟨by first | rfl , by repeat (first | (with_reducible first | exact HB.1 ) )⟩
end Go.Proofs.Ytnidgkmopocdkaa.P
