import Derived.Test.YtnidgkmopocdkaaA13P0
import Derived.Test.YtnidgkmopocdkaaA13P4
import Derived.Test.YtnidgkmopocdkaaA13HPrime
namespace Go.Proofs.Ytnidgkmopocdkaa.P
open Go.RowKit Go.Proofs.YtnidgkmopocdkaaW.PrintWords Go.Proofs.YtnidgkmopocdkaaW.PrintLast Go.Proofs.YtnidgkmopocdkaaW.PrintMore
attribute [local go_sem] max2_int min2_int max_two min_two max_three min_three max_four min_four   -- for this text's walks alone
set_option linter.unusedVariables false
set_option linter.unusedSimpArgs false
mutual
def glisterref04_Fault.j0 : Nat → Bool → Int → Int → List (S82) → List Int → Option (Int)
 | 0, _, _, _, _, _ => none
 | k + 1, x14, x232000, x232001, x232002, x232003 => if x14 = true then (some 3) else ((glisterref04_Prime.f x232000).bind fun t232 => (if t232 = true then ((glisterref04_In.f x232001 1 x232000).bind fun t233 => (if t233 = true then (if (x232002.length : Int) = 0 then (glisterref04_Fault.j1 k true x232000 x232001 x232002 x232003) else (glisterref04_Fault.j1 k ((x232003.length : Int) == 0) x232000 x232001 x232002 x232003)) else (glisterref04_Fault.j1 k true x232000 x232001 x232002 x232003))) else (glisterref04_Fault.j1 k true x232000 x232001 x232002 x232003)))
def glisterref04_Fault.j1 : Nat → Bool → Int → Int → List (S82) → List Int → Option (Int)
 | 0, _, _, _, _, _ => none
 | k + 1, x38, x232000, x232001, x232002, x232003 => if x38 = true then (some 1) else (glisterref04_Fault.l0 k 0 x232000 x232001 x232002 x232003)
def glisterref04_Fault.l0 : Nat → Int → Int → Int → List (S82) → List Int → Option (Int)
 | 0, _, _, _, _, _ => none
 | k + 1, x3, x232000, x232001, x232002, x232003 => if x3 < (x232002.length : Int) then (if 0 ≤ x3 then ((glisterref04_IsKey.f x232000 x232001 x232002 x232003 ((rd_T82 x232002 x3).f0) ((rd_T82 x232002 x3).f1) ((rd_T82 x232002 x3).f2)).bind fun t235 => (if t235 = true then (glisterref04_Fault.l0 k (wrap64 (x3 + 1)) x232000 x232001 x232002 x232003) else (some 1))) else (none)) else (glisterref04_Fault.l1 k 0 x232000 x232001 x232002 x232003)
def glisterref04_Fault.l1 : Nat → Int → Int → Int → List (S82) → List Int → Option (Int)
 | 0, _, _, _, _, _ => none
 | k + 1, x4, x232000, x232001, x232002, x232003 => if x4 < (x232003.length : Int) then (if 0 ≤ x4 then ((glisterref04_In.f (rd x232003 x4) 0 (wrap64 ((x232002.length : Int) - 1))).bind fun t237 => (if t237 = true then (glisterref04_Fault.l1 k (wrap64 (x4 + 1)) x232000 x232001 x232002 x232003) else (some 1))) else (none)) else (some 0)
end
def glisterref04_Fault.f (k : Nat) (a0_0 : Int) (a0_1 : Int) (l0_2 : List (S82)) (l0_3 : List Int) : Option (Int) := if (l0_2.length : Int) > 5 then (glisterref04_Fault.j0 k true a0_0 a0_1 l0_2 l0_3) else (glisterref04_Fault.j0 k (decide ((l0_3.length : Int) > 8)) a0_0 a0_1 l0_2 l0_3)
def glisterref04_Fault.T8 : Bool × List (List Nat × List Nat) := (true, [([], []), ([], []), ([1], [1]), ([], []), ([2, 3], [2, 3]), ([4], [4]), ([0, 5], [0, 5]), ([6], [6])])
def glisterref04_Fault.B8 : List Nat := [0, 0, 2, 0, 14, 30, 63, 127]
theorem glisterref04_Fault.tab8 : rtab .any (opsOf Try.f62 8) = glisterref04_Fault.T8 := by kernel_rfl
theorem glisterref04_Fault.bits8 : waitsOk glisterref04_Fault.T8.2 glisterref04_Fault.B8 = true := by kernel_rfl
def glisterref04_Fault.T13 : Bool × List (List Nat × List Nat) := (true, [([], []), ([0], [0]), ([], []), ([1, 2], [1, 2]), ([3], [3]), ([], []), ([5], [5]), ([6], [6]), ([7], [7]), ([4, 8], [4, 8]), ([9], [9])])
def glisterref04_Fault.B13 : List Nat := [0, 1, 0, 7, 15, 0, 32, 96, 224, 511, 1023]
theorem glisterref04_Fault.tab13 : rtab .any (opsOf Try.f62 13) = glisterref04_Fault.T13 := by kernel_rfl
theorem glisterref04_Fault.bits13 : waitsOk glisterref04_Fault.T13.2 glisterref04_Fault.B13 = true := by kernel_rfl
set_option maxHeartbeats 8000000 in
set_option maxRecDepth 100000 in
theorem glisterref04_Fault.calls (k : Nat) (a0_0 : Int) (a0_1 : Int) (A0_2 : Option Addr) (c0_2 : Nat) (l0_2 : List (S82)) (A0_3 : Option Addr) (c0_3 : Nat) (l0_3 : List Int) (r : Int) (w : World) (hr0_2 : Kd.C k82 w A0_2 l0_2.length l0_2) (hc0_2 : l0_2.length ≤ c0_2) (hr0_3 : Kd.C (Kd.int .i64) w A0_3 l0_3.length l0_3) (hc0_3 : l0_3.length ≤ c0_3) (h : glisterref04_Fault.f k a0_0 a0_1 l0_2 l0_3 = some r) :
  Calls Try.prog 62 #[.agg #[.int .i64 a0_0, .int .i64 a0_1, .slice A0_2 l0_2.length c0_2, .slice A0_3 l0_3.length c0_3]] w fun e w' => e = .returned (.int .i64 r) ∧ Below w.heap.size w w' := by
 have hu25 := Try.underlying25
 have hu82 := Try.underlying82
 have HR0_2 := Sd.mk hr0_2
 have HC0_2 := Sd.mk hc0_2
 clear hr0_2 hc0_2
 have HR0_3 := Sd.mk hr0_3
 have HC0_3 := Sd.mk hc0_3
 clear hr0_3 hc0_3
 have HB := Sd.mk (Below.refl w.heap.size w)
 have H : (if (l0_2.length : Int) > 5 then (glisterref04_Fault.j0 k true a0_0 a0_1 l0_2 l0_3) else (glisterref04_Fault.j0 k (decide ((l0_3.length : Int) > 8)) a0_0 a0_1 l0_2 l0_3)) = some r := h
 clear h
 have HC2 := Sd.mk H
 clear H
 go_enter Try.func62, Try.ntmps62
 go_upto_region 1 with (first | ((with_reducible refine gD (N := 1) rfl ?_); (try (refine gG (by rfl) ?_; dsimp only)); refine xE ?hg (N := 1) ?hd (cs := #[.int .i64 a0_0, .int .i64 a0_1, .slice A0_2 l0_2.length c0_2, .slice A0_3 l0_3.length c0_3]) (t := 25) ?hr ?_; (case hd => rfl); (case hg => rfl); (case hr => first | (go_simp; done) ); intro gb231 hg w3 hbox hb; have BK231 := Sd.mk (hbox); have GW231 := Sd.mk ((by rw [hg]; exact (bZ (by repeat (first | (with_reducible first | exact HB.1 ) ))) : w.heap.size ≤ gb231)); have GE231 := Sd.mk ((by rw [hg]; exact (bZ (by repeat (first | (with_reducible first | exact HB.1 ) ))) : w.heap.size ≤ gb231)); replace HB := Sd.mk (bT (by repeat (first | (with_reducible first | exact HB.1 ) )) hb); clear hb hbox hg))
 go_cut [14] (fun v14 wc => ∃ (kq : Nat) (x14_1 : Bool), v14 = .bool x14_1 ∧ Sd (glisterref04_Fault.j0 kq x14_1 a0_0 a0_1 l0_2 l0_3 = some r) ∧ Sd (kq ≤ k) ∧ Sd (wc.heap[gb231]? = some (.cells #[.int .i64 a0_0, .int .i64 a0_1, (.slice A0_2 l0_2.length c0_2), (.slice A0_3 l0_3.length c0_3)] 25 (0, 0))) ∧ Sd (Below w.heap.size w wc))
 case first =>
  have H := HC2.1
  clear HC2
  by_cases c4 : (l0_2.length : Int) > 5
  ·rw [if_pos c4] at H
   have c4b0 : decide (5 < (l0_2.length : Int)) = true := decide_eq_true c4
   have c4b1 : decide (5 < l0_2.length) = true := decide_eq_true (by omega)
   clear c4
   have H' := Sd.mk H
   clear H
   have z_5_2 : w3.cell? ⟨gb231, 2, none⟩ = some (.slice A0_2 l0_2.length c0_2) := (kC BK231.1 2).trans rfl
   go_wp2
   go_meet
   case rel => exact ⟨_, (true), (by first | rfl ), H', ⟨by first | omega ⟩, ⟨by (with_reducible repeat (fail)); exact BK231.1⟩, ⟨by repeat (first | (with_reducible first | exact HB.1 ) )⟩⟩
  ·rw [if_neg c4] at H
   have c4b0 : decide (5 < (l0_2.length : Int)) = false := decide_eq_false c4
   have c4b1 : decide (5 < l0_2.length) = false := decide_eq_false (by omega)
   clear c4
   have H' := Sd.mk H
   clear H
   have z_6_2 : w3.cell? ⟨gb231, 2, none⟩ = some (.slice A0_2 l0_2.length c0_2) := (kC BK231.1 2).trans rfl
   have z_6_3 : w3.cell? ⟨gb231, 3, none⟩ = some (.slice A0_3 l0_3.length c0_3) := (kC BK231.1 3).trans rfl
   go_wp2
   go_meet
   case rel => exact ⟨_, (decide ((l0_3.length : Int) > 8)), (by first | rfl ), H', ⟨by first | omega ⟩, ⟨by (with_reducible repeat (fail)); exact BK231.1⟩, ⟨by repeat (first | (with_reducible first | exact HB.1 ) )⟩⟩
 case rest =>
  clear HC2
  obtain ⟨kq, x14_1, rfl, HA, HJ1, BK231, HB⟩ := hcut
  cases kq with
  | zero => exact absurd HA.1 (by simp [glisterref04_Fault.j0])
  | succ kj1 =>
   have H := HA.1
   clear HA
   simp only [glisterref04_Fault.j0] at H
   by_cases c7 : x14_1 = true
   ·subst c7
    rw [if_pos rfl] at H
    obtain rfl := Option.some.inj H
    go_wp2
    go_ret
    exact ⟨by first | rfl , by repeat (first | (with_reducible first | exact HB.1 ) )⟩
   ·replace c7 := Bool.eq_false_iff.mpr c7
    subst c7
    rw [if_neg (show ¬ (false = true) by decide)] at H
    have HC8 := Sd.mk H
    clear H
    go_upto_region 3 with (fail)
    go_cut [38] (fun v38 wc => ∃ (kq : Nat) (x38_7 : Bool), v38 = .bool x38_7 ∧ Sd (glisterref04_Fault.j1 kq x38_7 a0_0 a0_1 l0_2 l0_3 = some r) ∧ Sd (kq ≤ kj1) ∧ Sd (wc.heap[gb231]? = some (.cells #[.int .i64 a0_0, .int .i64 a0_1, (.slice A0_2 l0_2.length c0_2), (.slice A0_3 l0_3.length c0_3)] 25 (0, 0))) ∧ Sd (Below w.heap.size w wc))
    case first =>
     have H := HC8.1
     clear HC8
     obtain ⟨t232, A90, H⟩ := Option.bind_eq_some_iff.mp H
     have A9 := Sd.mk A90
     clear A90
     by_cases c10 : t232 = true
     ·subst c10
      rw [if_pos rfl] at H
      obtain ⟨t233, A110, H⟩ := Option.bind_eq_some_iff.mp H
      have A11 := Sd.mk A110
      clear A110
      by_cases c12 : t233 = true
      ·subst c12
       rw [if_pos rfl] at H
       by_cases c13 : (l0_2.length : Int) = 0
       ·rw [if_pos c13] at H
        have c13b0 : ((l0_2.length : Int) == 0) = true := beq_iff_eq.mpr c13
        have c13b1 : ((l0_2.length : Int) != 0) = false := bne_eq_false_iff_eq.mpr c13
        clear c13
        have H' := Sd.mk H
        clear H
        have z_14_0 : wc.cell? ⟨gb231, 0, none⟩ = some (.int .i64 a0_0) := (kC BK231.1 0).trans rfl
        go_wp2_with (first | ((with_reducible refine gate_callee (f := 87) rfl ?_); refine goesL_ (some 17) rfl rfl Try.func87 (by kernel_rfl) rfl #[.int .i64 a0_0] rfl (by (try simp only [List.map_toArray, List.map_cons, List.map_nil]); first | rfl ) ?_; (with_reducible refine (glisterref04_Prime.calls a0_0 true _ A9.1).mono ?_); rintro e w15 ⟨rfl, hb⟩; refine ⟨_, rfl, ?_⟩; replace BK231 := Sd.mk (kB (g := gb231) (o := .cells #[.int .i64 a0_0, .int .i64 a0_1, .slice A0_2 l0_2.length c0_2, .slice A0_3 l0_3.length c0_3] 25 (0, 0)) (by (with_reducible repeat (fail)); exact BK231.1) hb); replace HB := Sd.mk (bT (by repeat (first | (with_reducible first | exact HB.1 ) )) hb); (try clear hb); have z_16_0 : w15.cell? ⟨gb231, 0, none⟩ = some (.int .i64 a0_0) := (kC BK231.1 0).trans rfl; have z_16_1 : w15.cell? ⟨gb231, 1, none⟩ = some (.int .i64 a0_1) := (kC BK231.1 1).trans rfl; have z_16_2 : w15.cell? ⟨gb231, 2, none⟩ = some (.slice A0_2 l0_2.length c0_2) := (kC BK231.1 2).trans rfl) | (go_at_call 23; (with_reducible refine (glisterref04_In.calls a0_1 1 a0_0 true _ A11.1).mono ?_); rintro e w' ⟨rfl, ⟨nd, rfl⟩⟩))
        go_meet
        case rel => exact ⟨_, (true), (by first | rfl ), H', ⟨by have := HJ1.1; first | omega ⟩, ⟨by (with_reducible repeat (refine kN ?_ _ )); exact BK231.1⟩, ⟨by repeat (first | (with_reducible first | exact HB.1 | apply bN ) )⟩⟩
       ·rw [if_neg c13] at H
        have c13b0 : ((l0_2.length : Int) == 0) = false := beq_eq_false_iff_ne.mpr c13
        have c13b1 : ((l0_2.length : Int) != 0) = true := bne_iff_ne.mpr c13
        have c13b2 : ¬ (l0_2 = []) := fun h_ => c13 (by rw [h_]; rfl)
        have H' := Sd.mk H
        clear H
        have z_17_0 : wc.cell? ⟨gb231, 0, none⟩ = some (.int .i64 a0_0) := (kC BK231.1 0).trans rfl
        go_wp2_with (first | ((with_reducible refine gate_callee (f := 87) rfl ?_); refine goesL_ (some 17) rfl rfl Try.func87 (by kernel_rfl) rfl #[.int .i64 a0_0] rfl (by (try simp only [List.map_toArray, List.map_cons, List.map_nil]); first | rfl ) ?_; (with_reducible refine (glisterref04_Prime.calls a0_0 true _ A9.1).mono ?_); rintro e w18 ⟨rfl, hb⟩; refine ⟨_, rfl, ?_⟩; replace BK231 := Sd.mk (kB (g := gb231) (o := .cells #[.int .i64 a0_0, .int .i64 a0_1, .slice A0_2 l0_2.length c0_2, .slice A0_3 l0_3.length c0_3] 25 (0, 0)) (by (with_reducible repeat (fail)); exact BK231.1) hb); replace HB := Sd.mk (bT (by repeat (first | (with_reducible first | exact HB.1 ) )) hb); (try clear hb); have z_19_0 : w18.cell? ⟨gb231, 0, none⟩ = some (.int .i64 a0_0) := (kC BK231.1 0).trans rfl; have z_19_1 : w18.cell? ⟨gb231, 1, none⟩ = some (.int .i64 a0_1) := (kC BK231.1 1).trans rfl; have z_19_2 : w18.cell? ⟨gb231, 2, none⟩ = some (.slice A0_2 l0_2.length c0_2) := (kC BK231.1 2).trans rfl; have z_19_3 : w18.cell? ⟨gb231, 3, none⟩ = some (.slice A0_3 l0_3.length c0_3) := (kC BK231.1 3).trans rfl) | (go_at_call 23; (with_reducible refine (glisterref04_In.calls a0_1 1 a0_0 true _ A11.1).mono ?_); rintro e w' ⟨rfl, ⟨nd, rfl⟩⟩))
        go_meet
        case rel => exact ⟨_, (((l0_3.length : Int) == 0)), (by first | rfl ), H', ⟨by have := HJ1.1; first | omega ⟩, ⟨by (with_reducible repeat (refine kN ?_ _ )); exact BK231.1⟩, ⟨by repeat (first | (with_reducible first | exact HB.1 | apply bN ) )⟩⟩
      ·replace c12 := Bool.eq_false_iff.mpr c12
       subst c12
       rw [if_neg (show ¬ (false = true) by decide)] at H
       have H' := Sd.mk H
       clear H
       have z_20_0 : wc.cell? ⟨gb231, 0, none⟩ = some (.int .i64 a0_0) := (kC BK231.1 0).trans rfl
       go_wp2_with (first | ((with_reducible refine gate_callee (f := 87) rfl ?_); refine goesL_ (some 17) rfl rfl Try.func87 (by kernel_rfl) rfl #[.int .i64 a0_0] rfl (by (try simp only [List.map_toArray, List.map_cons, List.map_nil]); first | rfl ) ?_; (with_reducible refine (glisterref04_Prime.calls a0_0 true _ A9.1).mono ?_); rintro e w21 ⟨rfl, hb⟩; refine ⟨_, rfl, ?_⟩; replace BK231 := Sd.mk (kB (g := gb231) (o := .cells #[.int .i64 a0_0, .int .i64 a0_1, .slice A0_2 l0_2.length c0_2, .slice A0_3 l0_3.length c0_3] 25 (0, 0)) (by (with_reducible repeat (fail)); exact BK231.1) hb); replace HB := Sd.mk (bT (by repeat (first | (with_reducible first | exact HB.1 ) )) hb); (try clear hb); have z_22_0 : w21.cell? ⟨gb231, 0, none⟩ = some (.int .i64 a0_0) := (kC BK231.1 0).trans rfl; have z_22_1 : w21.cell? ⟨gb231, 1, none⟩ = some (.int .i64 a0_1) := (kC BK231.1 1).trans rfl) | (go_at_call 23; (with_reducible refine (glisterref04_In.calls a0_1 1 a0_0 false _ A11.1).mono ?_); rintro e w' ⟨rfl, ⟨nd, rfl⟩⟩))
       go_meet
       case rel => exact ⟨_, (true), (by first | rfl ), H', ⟨by have := HJ1.1; first | omega ⟩, ⟨by (with_reducible repeat (refine kN ?_ _ )); exact BK231.1⟩, ⟨by repeat (first | (with_reducible first | exact HB.1 | apply bN ) )⟩⟩
     ·replace c10 := Bool.eq_false_iff.mpr c10
      subst c10
      rw [if_neg (show ¬ (false = true) by decide)] at H
      have H' := Sd.mk H
      clear H
      have z_23_0 : wc.cell? ⟨gb231, 0, none⟩ = some (.int .i64 a0_0) := (kC BK231.1 0).trans rfl
      go_wp2_with (first | ((with_reducible refine gate_callee (f := 87) rfl ?_); refine goesL_ (some 17) rfl rfl Try.func87 (by kernel_rfl) rfl #[.int .i64 a0_0] rfl (by (try simp only [List.map_toArray, List.map_cons, List.map_nil]); first | rfl ) ?_; (with_reducible refine (glisterref04_Prime.calls a0_0 false _ A9.1).mono ?_); rintro e w24 ⟨rfl, hb⟩; refine ⟨_, rfl, ?_⟩; replace BK231 := Sd.mk (kB (g := gb231) (o := .cells #[.int .i64 a0_0, .int .i64 a0_1, .slice A0_2 l0_2.length c0_2, .slice A0_3 l0_3.length c0_3] 25 (0, 0)) (by (with_reducible repeat (fail)); exact BK231.1) hb); replace HB := Sd.mk (bT (by repeat (first | (with_reducible first | exact HB.1 ) )) hb); (try clear hb)))
      go_meet
      case rel => exact ⟨_, (true), (by first | rfl ), H', ⟨by have := HJ1.1; first | omega ⟩, ⟨by (with_reducible repeat (fail)); exact BK231.1⟩, ⟨by repeat (first | (with_reducible first | exact HB.1 ) )⟩⟩
    case rest =>
     clear HC8
     obtain ⟨kq, x38_7, rfl, HA, HJ7, BK231, HB⟩ := hcut
     cases kq with
     | zero => exact absurd HA.1 (by simp [glisterref04_Fault.j1])
     | succ kj7 =>
      have H := HA.1
      clear HA
      simp only [glisterref04_Fault.j1] at H
      by_cases c25 : x38_7 = true
      ·subst c25
       rw [if_pos rfl] at H
       obtain rfl := Option.some.inj H
       go_wp2
       go_ret
       exact ⟨by first | rfl , by repeat (first | (with_reducible first | exact HB.1 ) )⟩
      ·replace c25 := Bool.eq_false_iff.mpr c25
       subst c25
       rw [if_neg (show ¬ (false = true) by decide)] at H
       have H' := Sd.mk H
       clear H
       go_wp2
       go_loopg [3] kj7 (fun kq v3 w' => ∃ (x3_3 : Int), v3 = .int .i64 x3_3 ∧ Sd (glisterref04_Fault.l0 kq x3_3 a0_0 a0_1 l0_2 l0_3 = some r) ∧ Sd (kq ≤ kj7) ∧ Sd (w'.heap[gb231]? = some (.cells #[.int .i64 a0_0, .int .i64 a0_1, (.slice A0_2 l0_2.length c0_2), (.slice A0_3 l0_3.length c0_3)] 25 (0, 0))) ∧ Sd (Below w.heap.size w w'))
       case atStart => exact ⟨(0), (by first | rfl ), H', ⟨Nat.le_refl _⟩, ⟨by (with_reducible repeat (fail)); exact BK231.1⟩, ⟨by repeat (first | (with_reducible first | exact HB.1 ) )⟩⟩
       case round =>
        clear H'
        obtain ⟨x3_3, rfl, HA, HK3, BK231, HB⟩ := hrel
        cases gk with
        | zero => exact absurd HA.1 (by simp [glisterref04_Fault.l0])
        | succ k3 =>
         have H := HA.1
         clear HA
         simp only [glisterref04_Fault.l0] at H
         by_cases c26 : x3_3 < (l0_2.length : Int)
         ·rw [if_pos c26] at H
          have c26b0 : decide (x3_3 < (l0_2.length : Int)) = true := decide_eq_true c26
          clear c26
          by_cases c27 : 0 ≤ x3_3
          ·rw [if_pos c27] at H
           have c27b0 : decide (0 ≤ x3_3) = true := decide_eq_true c27
           clear c27
           obtain ⟨t235, A280, H⟩ := Option.bind_eq_some_iff.mp H
           have A28 := Sd.mk A280
           clear A280
           by_cases c29 : t235 = true
           ·subst c29
            rw [if_pos rfl] at H
            have H' := Sd.mk H
            clear H
            have z_30_2 : wr.cell? ⟨gb231, 2, none⟩ = some (.slice A0_2 l0_2.length c0_2) := (kC BK231.1 2).trans rfl
            try go_wp2
            have n0_ := Sd.mk (kD BK231.1)
            have n1_ := Sd.mk (bD HB.1)
            clear BK231
            clear HB
            have BK231 := n0_
            have HB := n1_
            clear n0_ n1_
            have p234 : 0 ≤ (x3_3 : Int) := of_decide_eq_true (by first | (with_reducible assumption) )
            have q234 : x3_3 < (l0_2.length : Int) := of_decide_eq_true (by first | (with_reducible assumption) )
            obtain ⟨ad234, e234, hx234_0, hx234_1, hx234_2⟩ := at_T82 HR0_2.1 x3_3 p234 q234
            have hw234_2 := hx234_2
            have hw234_1 := hx234_1
            have hw234_0 := hx234_0
            cases e234
            replace hx234_0 := (HB.1.cell (World.block_lt_of_cell? w _ hx234_0)).trans hx234_0
            replace hx234_1 := (HB.1.cell (World.block_lt_of_cell? w _ hx234_1)).trans hx234_1
            replace hx234_2 := (HB.1.cell (World.block_lt_of_cell? w _ hx234_2)).trans hx234_2
            replace p234 := eq_true p234
            replace q234 := eq_true q234
            refine start_ (n := 8) (S := fun w' => w'.cell? ⟨gb231, 0, none⟩ = some (.int .i64 a0_0) ∧ w'.cell? ⟨gb231, 1, none⟩ = some (.int .i64 a0_1) ∧ w'.cell? ⟨gb231, 2, none⟩ = some (.slice (some ad234) l0_2.length c0_2) ∧ w'.cell? ⟨gb231, 3, none⟩ = some (.slice A0_3 l0_3.length c0_3) ∧ w'.cell? (ad234.add ((x3_3).toNat * 3)) = some (.int .i64 ((rd_T82 l0_2 x3_3).f0)) ∧ w'.cell? ⟨(ad234.add ((x3_3).toNat * 3)).block, (ad234.add ((x3_3).toNat * 3)).off + 1, none⟩ = some (.int .i64 ((rd_T82 l0_2 x3_3).f1)) ∧ w'.cell? ⟨(ad234.add ((x3_3).toNat * 3)).block, (ad234.add ((x3_3).toNat * 3)).off + 2, none⟩ = some (.int .i64 ((rd_T82 l0_2 x3_3).f2))) (ds := []) #[false, false, false, false, false, false, false, false] (by kernel_rfl) rfl rfl ⟨(kC BK231.1 0).trans rfl, (kC BK231.1 1).trans rfl, (kC BK231.1 2).trans rfl, (kC BK231.1 3).trans rfl, ((HB.1.cell (World.block_lt_of_cell? w _ hw234_0)).trans hw234_0), ((HB.1.cell (World.block_lt_of_cell? w _ hw234_1)).trans hw234_1), ((HB.1.cell (World.block_lt_of_cell? w _ hw234_2)).trans hw234_2)⟩ (fun hHeld => ?_); refine with_tabW glisterref04_Fault.tab8 glisterref04_Fault.bits8 (fun HT_ HW_ => ?_)
            generalize wr.drew = w31 at BK231 HB hx234_0 hx234_1 hx234_2 hHeld ⊢
            refine pure_ (i := 1) (N := some 47) (v := ?_) (a' := ?_) #[false, true, false, false, false, false, false, false] rfl rfl (any_of HT_.1 (by kernel_rfl)) (fun _ _ _ h => h) (Or.inl ⟨by rfl, ?_⟩) ?_ ?_
            rotate_left
            ·intro w'
             go_simp
             with_reducible rfl
            rotate_left
            ·simp only [Act.put, List.setIfInBounds_toArray, List.set_cons_zero, List.set_cons_succ, i64_w, i32_w]
             rfl
            refine pure_ (i := 3) (N := some 49) (v := ?_) (a' := ?_) #[false, true, false, true, false, false, false, false] rfl rfl (any_of HT_.1 (by kernel_rfl)) (fun _ _ _ h => h) (Or.inl ⟨by rfl, ?_⟩) ?_ ?_
            rotate_left
            ·intro w'
             go_simp
             with_reducible rfl
            rotate_left
            ·simp only [Act.put, List.setIfInBounds_toArray, List.set_cons_zero, List.set_cons_succ, i64_w, i32_w]
             rfl
            refine take_ (i := 0) (N := some 46) (v := ?_) (a' := ?_) #[true, true, false, true, false, false, false, false] rfl rfl (take_ofW HT_.1 HW_.1 (by kernel_rfl)) (fun _ _ _ h => h) (Or.inl ⟨by rfl, ?_⟩) hHeld ?_ ?_
            rotate_left
            ·rintro w' ⟨s0, s1, s2, s3, s4, s5, s6⟩
             go_simp
             with_reducible rfl
            rotate_left
            ·simp only [Act.put, List.setIfInBounds_toArray, List.set_cons_zero, List.set_cons_succ, i64_w, i32_w]
             rfl
            refine take_ (i := 2) (N := some 48) (v := ?_) (a' := ?_) #[true, true, true, true, false, false, false, false] rfl rfl (take_ofW HT_.1 HW_.1 (by kernel_rfl)) (fun _ _ _ h => h) (Or.inl ⟨by rfl, ?_⟩) hHeld ?_ ?_
            rotate_left
            ·rintro w' ⟨s0, s1, s2, s3, s4, s5, s6⟩
             go_simp
             with_reducible rfl
            rotate_left
            ·simp only [Act.put, List.setIfInBounds_toArray, List.set_cons_zero, List.set_cons_succ, i64_w, i32_w]
             rfl
            refine pure_ (i := 4) (N := some 50) (v := ?_) (a' := ?_) #[true, true, true, true, true, false, false, false] rfl rfl (any_of HT_.1 (by kernel_rfl)) (fun _ _ _ h => h) (Or.inl ⟨by rfl, ?_⟩) ?_ ?_
            rotate_left
            ·intro w'
             go_simp
             with_reducible rfl
            rotate_left
            ·simp only [Act.put, List.setIfInBounds_toArray, List.set_cons_zero, List.set_cons_succ, i64_w, i32_w]
             rfl
            refine take_ (i := 5) (N := some 51) (v := ?_) (a' := ?_) #[true, true, true, true, true, true, false, false] rfl rfl (take_ofW HT_.1 HW_.1 (by kernel_rfl)) (fun _ _ _ h => h) (Or.inl ⟨by rfl, ?_⟩) hHeld ?_ ?_
            rotate_left
            ·rintro w' ⟨s0, s1, s2, s3, s4, s5, s6⟩
             go_simp
             with_reducible rfl
            rotate_left
            ·simp only [Act.put, List.setIfInBounds_toArray, List.set_cons_zero, List.set_cons_succ, i64_w, i32_w]
             rfl
            refine one_ (i := 6) (N := some 52) #[true, true, true, true, true, true, true, false] rfl rfl (one_of HT_.1 (by kernel_rfl)) (by decide) (fun K hK => ?_)
            refine goes_ Try.func88 (by kernel_rfl) rfl #[.agg #[.int .i64 a0_0, .int .i64 a0_1, .slice (some ad234) l0_2.length c0_2, .slice A0_3 l0_3.length c0_3], .agg #[.int .i64 ((rd_T82 l0_2 x3_3).f0), .int .i64 ((rd_T82 l0_2 x3_3).f1), .int .i64 ((rd_T82 l0_2 x3_3).f2)]] (by rfl) rfl rfl (by (try simp only [List.map_toArray, List.map_cons, List.map_nil]); first | rfl ) ?_
            with_reducible refine (glisterref04_IsKey.calls a0_0 a0_1 _ _ l0_2 _ _ l0_3 ((rd_T82 l0_2 x3_3).f0) ((rd_T82 l0_2 x3_3).f1) ((rd_T82 l0_2 x3_3).f2) true _ ?side1 ?side2 ?side3 ?side4 A28.1).mono ?_
            (case side1 => repeat (first | exact (Kd.C_below HR0_2.1 HB.1) ))
            (case side2 => exact HC0_2.1)
            (case side3 => repeat (first | exact (Kd.C_below HR0_3.1 HB.1) ))
            (case side4 => exact HC0_3.1)
            rintro e w32 ⟨rfl, hb⟩
            refine ⟨_, rfl, ?_⟩
            have n0_ := Sd.mk (kB (g := gb231) (o := .cells #[.int .i64 a0_0, .int .i64 a0_1, .slice (some ad234) l0_2.length c0_2, .slice A0_3 l0_3.length c0_3] 25 (0, 0)) (by (with_reducible repeat (fail)); exact BK231.1) hb)
            have n1_ := Sd.mk (bT (by repeat (first | (with_reducible first | exact HB.1 ) )) hb)
            clear BK231
            clear HB
            have BK231 := n0_
            have HB := n1_
            clear n0_ n1_
            (try clear hb)
            refine hK.out _ _ ⟨(kC BK231.1 0).trans rfl, (kC BK231.1 1).trans rfl, (kC BK231.1 2).trans rfl, (kC BK231.1 3).trans rfl, ((HB.1.cell (World.block_lt_of_cell? w _ hw234_0)).trans hw234_0), ((HB.1.cell (World.block_lt_of_cell? w _ hw234_1)).trans hw234_1), ((HB.1.cell (World.block_lt_of_cell? w _ hw234_2)).trans hw234_2)⟩ (fun hHeld => ?_)
            clear hK K
            refine norm_ (a' := ?_) ?_ ?_
            rotate_left
            ·show Act.put _ (some 52) _ = _
             simp only [Act.put, List.setIfInBounds_toArray, List.set_cons_zero, List.set_cons_succ, i64_w, i32_w]
             rfl
            refine pure_ (i := 7) (N := some 53) (v := ?_) (a' := ?_) #[true, true, true, true, true, true, true, true] rfl rfl (any_of HT_.1 (by kernel_rfl)) (fun _ _ _ h => h) (Or.inl ⟨by rfl, ?_⟩) ?_ ?_
            rotate_left
            ·intro w'
             go_simp
             with_reducible rfl
            rotate_left
            ·simp only [Act.put, List.setIfInBounds_toArray, List.set_cons_zero, List.set_cons_succ, i64_w, i32_w]
             rfl
            refine done_ (done_of HT_.1 (by kernel_rfl)) ?_
            try go_wp2
            go_roundg k3
            case measure => have := HJ1.1; have := HJ7.1; have := HK3.1; omega
            case rel => exact ⟨(wrap64 (x3_3 + 1)), (by first | rfl ), H', ⟨by have := HJ1.1; have := HJ7.1; have := HK3.1; omega⟩, ⟨by (with_reducible repeat (fail)); exact BK231.1⟩, ⟨by repeat (first | (with_reducible first | exact HB.1 ) )⟩⟩
           ·replace c29 := Bool.eq_false_iff.mpr c29
            subst c29
            rw [if_neg (show ¬ (false = true) by decide)] at H
            obtain rfl := Option.some.inj H
            have z_33_2 : wr.cell? ⟨gb231, 2, none⟩ = some (.slice A0_2 l0_2.length c0_2) := (kC BK231.1 2).trans rfl
            try go_wp2
            have n0_ := Sd.mk (kD BK231.1)
            have n1_ := Sd.mk (bD HB.1)
            clear BK231
            clear HB
            have BK231 := n0_
            have HB := n1_
            clear n0_ n1_
            have p234 : 0 ≤ (x3_3 : Int) := of_decide_eq_true (by first | (with_reducible assumption) )
            have q234 : x3_3 < (l0_2.length : Int) := of_decide_eq_true (by first | (with_reducible assumption) )
            obtain ⟨ad234, e234, hx234_0, hx234_1, hx234_2⟩ := at_T82 HR0_2.1 x3_3 p234 q234
            have hw234_2 := hx234_2
            have hw234_1 := hx234_1
            have hw234_0 := hx234_0
            cases e234
            replace hx234_0 := (HB.1.cell (World.block_lt_of_cell? w _ hx234_0)).trans hx234_0
            replace hx234_1 := (HB.1.cell (World.block_lt_of_cell? w _ hx234_1)).trans hx234_1
            replace hx234_2 := (HB.1.cell (World.block_lt_of_cell? w _ hx234_2)).trans hx234_2
            replace p234 := eq_true p234
            replace q234 := eq_true q234
            refine start_ (n := 8) (S := fun w' => w'.cell? ⟨gb231, 0, none⟩ = some (.int .i64 a0_0) ∧ w'.cell? ⟨gb231, 1, none⟩ = some (.int .i64 a0_1) ∧ w'.cell? ⟨gb231, 2, none⟩ = some (.slice (some ad234) l0_2.length c0_2) ∧ w'.cell? ⟨gb231, 3, none⟩ = some (.slice A0_3 l0_3.length c0_3) ∧ w'.cell? (ad234.add ((x3_3).toNat * 3)) = some (.int .i64 ((rd_T82 l0_2 x3_3).f0)) ∧ w'.cell? ⟨(ad234.add ((x3_3).toNat * 3)).block, (ad234.add ((x3_3).toNat * 3)).off + 1, none⟩ = some (.int .i64 ((rd_T82 l0_2 x3_3).f1)) ∧ w'.cell? ⟨(ad234.add ((x3_3).toNat * 3)).block, (ad234.add ((x3_3).toNat * 3)).off + 2, none⟩ = some (.int .i64 ((rd_T82 l0_2 x3_3).f2))) (ds := []) #[false, false, false, false, false, false, false, false] (by kernel_rfl) rfl rfl ⟨(kC BK231.1 0).trans rfl, (kC BK231.1 1).trans rfl, (kC BK231.1 2).trans rfl, (kC BK231.1 3).trans rfl, ((HB.1.cell (World.block_lt_of_cell? w _ hw234_0)).trans hw234_0), ((HB.1.cell (World.block_lt_of_cell? w _ hw234_1)).trans hw234_1), ((HB.1.cell (World.block_lt_of_cell? w _ hw234_2)).trans hw234_2)⟩ (fun hHeld => ?_); refine with_tabW glisterref04_Fault.tab8 glisterref04_Fault.bits8 (fun HT_ HW_ => ?_)
            generalize wr.drew = w34 at BK231 HB hx234_0 hx234_1 hx234_2 hHeld ⊢
            refine pure_ (i := 1) (N := some 47) (v := ?_) (a' := ?_) #[false, true, false, false, false, false, false, false] rfl rfl (any_of HT_.1 (by kernel_rfl)) (fun _ _ _ h => h) (Or.inl ⟨by rfl, ?_⟩) ?_ ?_
            rotate_left
            ·intro w'
             go_simp
             with_reducible rfl
            rotate_left
            ·simp only [Act.put, List.setIfInBounds_toArray, List.set_cons_zero, List.set_cons_succ, i64_w, i32_w]
             rfl
            refine pure_ (i := 3) (N := some 49) (v := ?_) (a' := ?_) #[false, true, false, true, false, false, false, false] rfl rfl (any_of HT_.1 (by kernel_rfl)) (fun _ _ _ h => h) (Or.inl ⟨by rfl, ?_⟩) ?_ ?_
            rotate_left
            ·intro w'
             go_simp
             with_reducible rfl
            rotate_left
            ·simp only [Act.put, List.setIfInBounds_toArray, List.set_cons_zero, List.set_cons_succ, i64_w, i32_w]
             rfl
            refine take_ (i := 0) (N := some 46) (v := ?_) (a' := ?_) #[true, true, false, true, false, false, false, false] rfl rfl (take_ofW HT_.1 HW_.1 (by kernel_rfl)) (fun _ _ _ h => h) (Or.inl ⟨by rfl, ?_⟩) hHeld ?_ ?_
            rotate_left
            ·rintro w' ⟨s0, s1, s2, s3, s4, s5, s6⟩
             go_simp
             with_reducible rfl
            rotate_left
            ·simp only [Act.put, List.setIfInBounds_toArray, List.set_cons_zero, List.set_cons_succ, i64_w, i32_w]
             rfl
            refine take_ (i := 2) (N := some 48) (v := ?_) (a' := ?_) #[true, true, true, true, false, false, false, false] rfl rfl (take_ofW HT_.1 HW_.1 (by kernel_rfl)) (fun _ _ _ h => h) (Or.inl ⟨by rfl, ?_⟩) hHeld ?_ ?_
            rotate_left
            ·rintro w' ⟨s0, s1, s2, s3, s4, s5, s6⟩
             go_simp
             with_reducible rfl
            rotate_left
            ·simp only [Act.put, List.setIfInBounds_toArray, List.set_cons_zero, List.set_cons_succ, i64_w, i32_w]
             rfl
            refine pure_ (i := 4) (N := some 50) (v := ?_) (a' := ?_) #[true, true, true, true, true, false, false, false] rfl rfl (any_of HT_.1 (by kernel_rfl)) (fun _ _ _ h => h) (Or.inl ⟨by rfl, ?_⟩) ?_ ?_
            rotate_left
            ·intro w'
             go_simp
             with_reducible rfl
            rotate_left
            ·simp only [Act.put, List.setIfInBounds_toArray, List.set_cons_zero, List.set_cons_succ, i64_w, i32_w]
             rfl
            refine take_ (i := 5) (N := some 51) (v := ?_) (a' := ?_) #[true, true, true, true, true, true, false, false] rfl rfl (take_ofW HT_.1 HW_.1 (by kernel_rfl)) (fun _ _ _ h => h) (Or.inl ⟨by rfl, ?_⟩) hHeld ?_ ?_
            rotate_left
            ·rintro w' ⟨s0, s1, s2, s3, s4, s5, s6⟩
             go_simp
             with_reducible rfl
            rotate_left
            ·simp only [Act.put, List.setIfInBounds_toArray, List.set_cons_zero, List.set_cons_succ, i64_w, i32_w]
             rfl
            refine one_ (i := 6) (N := some 52) #[true, true, true, true, true, true, true, false] rfl rfl (one_of HT_.1 (by kernel_rfl)) (by decide) (fun K hK => ?_)
            refine goes_ Try.func88 (by kernel_rfl) rfl #[.agg #[.int .i64 a0_0, .int .i64 a0_1, .slice (some ad234) l0_2.length c0_2, .slice A0_3 l0_3.length c0_3], .agg #[.int .i64 ((rd_T82 l0_2 x3_3).f0), .int .i64 ((rd_T82 l0_2 x3_3).f1), .int .i64 ((rd_T82 l0_2 x3_3).f2)]] (by rfl) rfl rfl (by (try simp only [List.map_toArray, List.map_cons, List.map_nil]); first | rfl ) ?_
            with_reducible refine (glisterref04_IsKey.calls a0_0 a0_1 _ _ l0_2 _ _ l0_3 ((rd_T82 l0_2 x3_3).f0) ((rd_T82 l0_2 x3_3).f1) ((rd_T82 l0_2 x3_3).f2) false _ ?side1 ?side2 ?side3 ?side4 A28.1).mono ?_
            (case side1 => repeat (first | exact (Kd.C_below HR0_2.1 HB.1) ))
            (case side2 => exact HC0_2.1)
            (case side3 => repeat (first | exact (Kd.C_below HR0_3.1 HB.1) ))
            (case side4 => exact HC0_3.1)
            rintro e w35 ⟨rfl, hb⟩
            refine ⟨_, rfl, ?_⟩
            have n0_ := Sd.mk (kB (g := gb231) (o := .cells #[.int .i64 a0_0, .int .i64 a0_1, .slice (some ad234) l0_2.length c0_2, .slice A0_3 l0_3.length c0_3] 25 (0, 0)) (by (with_reducible repeat (fail)); exact BK231.1) hb)
            have n1_ := Sd.mk (bT (by repeat (first | (with_reducible first | exact HB.1 ) )) hb)
            clear BK231
            clear HB
            have BK231 := n0_
            have HB := n1_
            clear n0_ n1_
            (try clear hb)
            refine hK.out _ _ ⟨(kC BK231.1 0).trans rfl, (kC BK231.1 1).trans rfl, (kC BK231.1 2).trans rfl, (kC BK231.1 3).trans rfl, ((HB.1.cell (World.block_lt_of_cell? w _ hw234_0)).trans hw234_0), ((HB.1.cell (World.block_lt_of_cell? w _ hw234_1)).trans hw234_1), ((HB.1.cell (World.block_lt_of_cell? w _ hw234_2)).trans hw234_2)⟩ (fun hHeld => ?_)
            clear hK K
            refine norm_ (a' := ?_) ?_ ?_
            rotate_left
            ·show Act.put _ (some 52) _ = _
             simp only [Act.put, List.setIfInBounds_toArray, List.set_cons_zero, List.set_cons_succ, i64_w, i32_w]
             rfl
            refine pure_ (i := 7) (N := some 53) (v := ?_) (a' := ?_) #[true, true, true, true, true, true, true, true] rfl rfl (any_of HT_.1 (by kernel_rfl)) (fun _ _ _ h => h) (Or.inl ⟨by rfl, ?_⟩) ?_ ?_
            rotate_left
            ·intro w'
             go_simp
             with_reducible rfl
            rotate_left
            ·simp only [Act.put, List.setIfInBounds_toArray, List.set_cons_zero, List.set_cons_succ, i64_w, i32_w]
             rfl
            refine done_ (done_of HT_.1 (by kernel_rfl)) ?_
            try go_wp2
            go_ret
            exact ⟨by first | rfl , by repeat (first | (with_reducible first | exact HB.1 ) )⟩
          ·rw [if_neg c27] at H
           exact absurd H (by simp)
         ·rw [if_neg c26] at H
          have c26b0 : decide (x3_3 < (l0_2.length : Int)) = false := decide_eq_false c26
          clear c26
          have H' := Sd.mk H
          clear H
          have z_36_2 : wr.cell? ⟨gb231, 2, none⟩ = some (.slice A0_2 l0_2.length c0_2) := (kC BK231.1 2).trans rfl
          go_wp2
          go_loopg [4] k3 (fun kq v4 w' => ∃ (x4_4 : Int), v4 = .int .i64 x4_4 ∧ Sd (glisterref04_Fault.l1 kq x4_4 a0_0 a0_1 l0_2 l0_3 = some r) ∧ Sd (kq ≤ k3) ∧ Sd (w'.heap[gb231]? = some (.cells #[.int .i64 a0_0, .int .i64 a0_1, (.slice A0_2 l0_2.length c0_2), (.slice A0_3 l0_3.length c0_3)] 25 (0, 0))) ∧ Sd (Below w.heap.size w w'))
          case atStart => exact ⟨(0), (by first | rfl ), H', ⟨Nat.le_refl _⟩, ⟨by (with_reducible repeat (fail)); exact BK231.1⟩, ⟨by repeat (first | (with_reducible first | exact HB.1 ) )⟩⟩
          case round =>
           clear H'
           clear c26b0
           clear z_36_2
           obtain ⟨x4_4, rfl, HA, HK4, BK231, HB⟩ := hrel
           cases gk with
           | zero => exact absurd HA.1 (by simp [glisterref04_Fault.l1])
           | succ k4 =>
            have H := HA.1
            clear HA
            simp only [glisterref04_Fault.l1] at H
            by_cases c37 : x4_4 < (l0_3.length : Int)
            ·rw [if_pos c37] at H
             have c37b0 : decide (x4_4 < (l0_3.length : Int)) = true := decide_eq_true c37
             clear c37
             by_cases c38 : 0 ≤ x4_4
             ·rw [if_pos c38] at H
              have c38b0 : decide (0 ≤ x4_4) = true := decide_eq_true c38
              clear c38
              obtain ⟨t237, A390, H⟩ := Option.bind_eq_some_iff.mp H
              have A39 := Sd.mk A390
              clear A390
              by_cases c40 : t237 = true
              ·subst c40
               rw [if_pos rfl] at H
               have H' := Sd.mk H
               clear H
               have z_41_3 : wr.cell? ⟨gb231, 3, none⟩ = some (.slice A0_3 l0_3.length c0_3) := (kC BK231.1 3).trans rfl
               try go_wp2
               have n0_ := Sd.mk (kD BK231.1)
               have n1_ := Sd.mk (bD HB.1)
               clear BK231
               clear HB
               have BK231 := n0_
               have HB := n1_
               clear n0_ n1_
               have p236 : 0 ≤ (x4_4 : Int) := of_decide_eq_true (by first | (with_reducible assumption) )
               have q236 : x4_4 < (l0_3.length : Int) := of_decide_eq_true (by first | (with_reducible assumption) )
               obtain ⟨ad236, e236, hx236_0⟩ := Kd.at_int HR0_3.1 x4_4 p236 q236
               have hw236_0 := hx236_0
               cases e236
               replace hx236_0 := (HB.1.cell (World.block_lt_of_cell? w _ hx236_0)).trans hx236_0
               replace p236 := eq_true p236
               replace q236 := eq_true q236
               refine start_ (n := 11) (S := fun w' => w'.cell? ⟨gb231, 0, none⟩ = some (.int .i64 a0_0) ∧ w'.cell? ⟨gb231, 1, none⟩ = some (.int .i64 a0_1) ∧ w'.cell? ⟨gb231, 2, none⟩ = some (.slice A0_2 l0_2.length c0_2) ∧ w'.cell? ⟨gb231, 3, none⟩ = some (.slice (some ad236) l0_3.length c0_3) ∧ w'.cell? (ad236.add (x4_4).toNat) = some (.int .i64 (rd l0_3 x4_4))) (ds := []) #[false, false, false, false, false, false, false, false, false, false, false] (by kernel_rfl) rfl rfl ⟨(kC BK231.1 0).trans rfl, (kC BK231.1 1).trans rfl, (kC BK231.1 2).trans rfl, (kC BK231.1 3).trans rfl, ((HB.1.cell (World.block_lt_of_cell? w _ hw236_0)).trans hw236_0)⟩ (fun hHeld => ?_); refine with_tabW glisterref04_Fault.tab13 glisterref04_Fault.bits13 (fun HT_ HW_ => ?_)
               generalize wr.drew = w42 at BK231 HB hx236_0 hHeld ⊢
               refine pure_ (i := 0) (N := some 61) (v := ?_) (a' := ?_) #[true, false, false, false, false, false, false, false, false, false, false] rfl rfl (any_of HT_.1 (by kernel_rfl)) (fun _ _ _ h => h) (Or.inl ⟨by rfl, ?_⟩) ?_ ?_
               rotate_left
               ·intro w'
                go_simp
                with_reducible rfl
               rotate_left
               ·simp only [Act.put, List.setIfInBounds_toArray, List.set_cons_zero, List.set_cons_succ, i64_w, i32_w]
                rfl
               refine pure_ (i := 2) (N := some 63) (v := ?_) (a' := ?_) #[true, false, true, false, false, false, false, false, false, false, false] rfl rfl (any_of HT_.1 (by kernel_rfl)) (fun _ _ _ h => h) (Or.inl ⟨by rfl, ?_⟩) ?_ ?_
               rotate_left
               ·intro w'
                go_simp
                with_reducible rfl
               rotate_left
               ·simp only [Act.put, List.setIfInBounds_toArray, List.set_cons_zero, List.set_cons_succ, i64_w, i32_w]
                rfl
               refine pure_ (i := 5) (N := some 66) (v := ?_) (a' := ?_) #[true, false, true, false, false, true, false, false, false, false, false] rfl rfl (any_of HT_.1 (by kernel_rfl)) (fun _ _ _ h => h) (Or.inl ⟨by rfl, ?_⟩) ?_ ?_
               rotate_left
               ·intro w'
                go_simp
                with_reducible rfl
               rotate_left
               ·simp only [Act.put, List.setIfInBounds_toArray, List.set_cons_zero, List.set_cons_succ, i64_w, i32_w]
                rfl
               refine take_ (i := 1) (N := some 62) (v := ?_) (a' := ?_) #[true, true, true, false, false, true, false, false, false, false, false] rfl rfl (take_ofW HT_.1 HW_.1 (by kernel_rfl)) (fun _ _ _ h => h) (Or.inl ⟨by rfl, ?_⟩) hHeld ?_ ?_
               rotate_left
               ·rintro w' ⟨s0, s1, s2, s3, s4⟩
                go_simp
                with_reducible rfl
               rotate_left
               ·simp only [Act.put, List.setIfInBounds_toArray, List.set_cons_zero, List.set_cons_succ, i64_w, i32_w]
                rfl
               refine pure_ (i := 3) (N := some 64) (v := ?_) (a' := ?_) #[true, true, true, true, false, true, false, false, false, false, false] rfl rfl (any_of HT_.1 (by kernel_rfl)) (fun _ _ _ h => h) (Or.inl ⟨by rfl, ?_⟩) ?_ ?_
               rotate_left
               ·intro w'
                go_simp
                with_reducible rfl
               rotate_left
               ·simp only [Act.put, List.setIfInBounds_toArray, List.set_cons_zero, List.set_cons_succ, i64_w, i32_w]
                rfl
               refine take_ (i := 4) (N := some 65) (v := ?_) (a' := ?_) #[true, true, true, true, true, true, false, false, false, false, false] rfl rfl (take_ofW HT_.1 HW_.1 (by kernel_rfl)) (fun _ _ _ h => h) (Or.inl ⟨by rfl, ?_⟩) hHeld ?_ ?_
               rotate_left
               ·rintro w' ⟨s0, s1, s2, s3, s4⟩
                go_simp
                with_reducible rfl
               rotate_left
               ·simp only [Act.put, List.setIfInBounds_toArray, List.set_cons_zero, List.set_cons_succ, i64_w, i32_w]
                rfl
               refine take_ (i := 6) (N := some 67) (v := ?_) (a' := ?_) #[true, true, true, true, true, true, true, false, false, false, false] rfl rfl (take_ofW HT_.1 HW_.1 (by kernel_rfl)) (fun _ _ _ h => h) (Or.inl ⟨by rfl, ?_⟩) hHeld ?_ ?_
               rotate_left
               ·rintro w' ⟨s0, s1, s2, s3, s4⟩
                go_simp
                with_reducible rfl
               rotate_left
               ·simp only [Act.put, List.setIfInBounds_toArray, List.set_cons_zero, List.set_cons_succ, i64_w, i32_w]
                rfl
               refine pure_ (i := 7) (N := some 68) (v := ?_) (a' := ?_) #[true, true, true, true, true, true, true, true, false, false, false] rfl rfl (any_of HT_.1 (by kernel_rfl)) (fun _ _ _ h => h) (Or.inl ⟨by rfl, ?_⟩) ?_ ?_
               rotate_left
               ·intro w'
                go_simp
                with_reducible rfl
               rotate_left
               ·simp only [Act.put, List.setIfInBounds_toArray, List.set_cons_zero, List.set_cons_succ, i64_w, i32_w]
                rfl
               refine pure_ (i := 8) (N := some 69) (v := ?_) (a' := ?_) #[true, true, true, true, true, true, true, true, true, false, false] rfl rfl (any_of HT_.1 (by kernel_rfl)) (fun _ _ _ h => h) (Or.inl ⟨by rfl, ?_⟩) ?_ ?_
               rotate_left
               ·intro w'
                go_simp
                with_reducible rfl
               rotate_left
               ·simp only [Act.put, List.setIfInBounds_toArray, List.set_cons_zero, List.set_cons_succ, i64_w, i32_w]
                rfl
               refine one_ (i := 9) (N := some 70) #[true, true, true, true, true, true, true, true, true, true, false] rfl rfl (one_of HT_.1 (by kernel_rfl)) (by decide) (fun K hK => ?_)
               refine goes_ Try.func23 (by kernel_rfl) rfl #[.int .i64 (rd l0_3 x4_4), .int .i64 0, .int .i64 (wrap64 ((l0_2.length : Int) - 1))] (by rfl) rfl rfl (by (try simp only [List.map_toArray, List.map_cons, List.map_nil]); first | rfl ) ?_
               with_reducible refine (glisterref04_In.calls (rd l0_3 x4_4) 0 (wrap64 ((l0_2.length : Int) - 1)) true _ A39.1).mono ?_
               rintro e w' ⟨rfl, ⟨nd, rfl⟩⟩
               refine ⟨_, rfl, ?_⟩
               refine hK.out _ _ ⟨(kC BK231.1 0).trans rfl, (kC BK231.1 1).trans rfl, (kC BK231.1 2).trans rfl, (kC BK231.1 3).trans rfl, ((HB.1.cell (World.block_lt_of_cell? w _ hw236_0)).trans hw236_0)⟩ (fun hHeld => ?_)
               clear hK K
               refine norm_ (a' := ?_) ?_ ?_
               rotate_left
               ·show Act.put _ (some 70) _ = _
                simp only [Act.put, List.setIfInBounds_toArray, List.set_cons_zero, List.set_cons_succ, i64_w, i32_w]
                rfl
               refine pure_ (i := 10) (N := some 71) (v := ?_) (a' := ?_) #[true, true, true, true, true, true, true, true, true, true, true] rfl rfl (any_of HT_.1 (by kernel_rfl)) (fun _ _ _ h => h) (Or.inl ⟨by rfl, ?_⟩) ?_ ?_
               rotate_left
               ·intro w'
                go_simp
                with_reducible rfl
               rotate_left
               ·simp only [Act.put, List.setIfInBounds_toArray, List.set_cons_zero, List.set_cons_succ, i64_w, i32_w]
                rfl
               refine done_ (done_of HT_.1 (by kernel_rfl)) ?_
               try go_wp2
               go_roundg k4
               case measure => have := HJ1.1; have := HJ7.1; have := HK3.1; have := HK4.1; omega
               case rel => exact ⟨(wrap64 (x4_4 + 1)), (by first | rfl ), H', ⟨by have := HJ1.1; have := HJ7.1; have := HK3.1; have := HK4.1; omega⟩, ⟨by (with_reducible repeat (refine kN ?_ _ )); exact BK231.1⟩, ⟨by repeat (first | (with_reducible first | exact HB.1 | apply bN ) )⟩⟩
              ·replace c40 := Bool.eq_false_iff.mpr c40
               subst c40
               rw [if_neg (show ¬ (false = true) by decide)] at H
               obtain rfl := Option.some.inj H
               have z_43_3 : wr.cell? ⟨gb231, 3, none⟩ = some (.slice A0_3 l0_3.length c0_3) := (kC BK231.1 3).trans rfl
               try go_wp2
               have n0_ := Sd.mk (kD BK231.1)
               have n1_ := Sd.mk (bD HB.1)
               clear BK231
               clear HB
               have BK231 := n0_
               have HB := n1_
               clear n0_ n1_
               have p236 : 0 ≤ (x4_4 : Int) := of_decide_eq_true (by first | (with_reducible assumption) )
               have q236 : x4_4 < (l0_3.length : Int) := of_decide_eq_true (by first | (with_reducible assumption) )
               obtain ⟨ad236, e236, hx236_0⟩ := Kd.at_int HR0_3.1 x4_4 p236 q236
               have hw236_0 := hx236_0
               cases e236
               replace hx236_0 := (HB.1.cell (World.block_lt_of_cell? w _ hx236_0)).trans hx236_0
               replace p236 := eq_true p236
               replace q236 := eq_true q236
               refine start_ (n := 11) (S := fun w' => w'.cell? ⟨gb231, 0, none⟩ = some (.int .i64 a0_0) ∧ w'.cell? ⟨gb231, 1, none⟩ = some (.int .i64 a0_1) ∧ w'.cell? ⟨gb231, 2, none⟩ = some (.slice A0_2 l0_2.length c0_2) ∧ w'.cell? ⟨gb231, 3, none⟩ = some (.slice (some ad236) l0_3.length c0_3) ∧ w'.cell? (ad236.add (x4_4).toNat) = some (.int .i64 (rd l0_3 x4_4))) (ds := []) #[false, false, false, false, false, false, false, false, false, false, false] (by kernel_rfl) rfl rfl ⟨(kC BK231.1 0).trans rfl, (kC BK231.1 1).trans rfl, (kC BK231.1 2).trans rfl, (kC BK231.1 3).trans rfl, ((HB.1.cell (World.block_lt_of_cell? w _ hw236_0)).trans hw236_0)⟩ (fun hHeld => ?_); refine with_tabW glisterref04_Fault.tab13 glisterref04_Fault.bits13 (fun HT_ HW_ => ?_)
               generalize wr.drew = w44 at BK231 HB hx236_0 hHeld ⊢
               refine pure_ (i := 0) (N := some 61) (v := ?_) (a' := ?_) #[true, false, false, false, false, false, false, false, false, false, false] rfl rfl (any_of HT_.1 (by kernel_rfl)) (fun _ _ _ h => h) (Or.inl ⟨by rfl, ?_⟩) ?_ ?_
               rotate_left
               ·intro w'
                go_simp
                with_reducible rfl
               rotate_left
               ·simp only [Act.put, List.setIfInBounds_toArray, List.set_cons_zero, List.set_cons_succ, i64_w, i32_w]
                rfl
               refine pure_ (i := 2) (N := some 63) (v := ?_) (a' := ?_) #[true, false, true, false, false, false, false, false, false, false, false] rfl rfl (any_of HT_.1 (by kernel_rfl)) (fun _ _ _ h => h) (Or.inl ⟨by rfl, ?_⟩) ?_ ?_
               rotate_left
               ·intro w'
                go_simp
                with_reducible rfl
               rotate_left
               ·simp only [Act.put, List.setIfInBounds_toArray, List.set_cons_zero, List.set_cons_succ, i64_w, i32_w]
                rfl
               refine pure_ (i := 5) (N := some 66) (v := ?_) (a' := ?_) #[true, false, true, false, false, true, false, false, false, false, false] rfl rfl (any_of HT_.1 (by kernel_rfl)) (fun _ _ _ h => h) (Or.inl ⟨by rfl, ?_⟩) ?_ ?_
               rotate_left
               ·intro w'
                go_simp
                with_reducible rfl
               rotate_left
               ·simp only [Act.put, List.setIfInBounds_toArray, List.set_cons_zero, List.set_cons_succ, i64_w, i32_w]
                rfl
               refine take_ (i := 1) (N := some 62) (v := ?_) (a' := ?_) #[true, true, true, false, false, true, false, false, false, false, false] rfl rfl (take_ofW HT_.1 HW_.1 (by kernel_rfl)) (fun _ _ _ h => h) (Or.inl ⟨by rfl, ?_⟩) hHeld ?_ ?_
               rotate_left
               ·rintro w' ⟨s0, s1, s2, s3, s4⟩
                go_simp
                with_reducible rfl
               rotate_left
               ·simp only [Act.put, List.setIfInBounds_toArray, List.set_cons_zero, List.set_cons_succ, i64_w, i32_w]
                rfl
               refine pure_ (i := 3) (N := some 64) (v := ?_) (a' := ?_) #[true, true, true, true, false, true, false, false, false, false, false] rfl rfl (any_of HT_.1 (by kernel_rfl)) (fun _ _ _ h => h) (Or.inl ⟨by rfl, ?_⟩) ?_ ?_
               rotate_left
               ·intro w'
                go_simp
                with_reducible rfl
               rotate_left
               ·simp only [Act.put, List.setIfInBounds_toArray, List.set_cons_zero, List.set_cons_succ, i64_w, i32_w]
                rfl
               refine take_ (i := 4) (N := some 65) (v := ?_) (a' := ?_) #[true, true, true, true, true, true, false, false, false, false, false] rfl rfl (take_ofW HT_.1 HW_.1 (by kernel_rfl)) (fun _ _ _ h => h) (Or.inl ⟨by rfl, ?_⟩) hHeld ?_ ?_
               rotate_left
               ·rintro w' ⟨s0, s1, s2, s3, s4⟩
                go_simp
                with_reducible rfl
               rotate_left
               ·simp only [Act.put, List.setIfInBounds_toArray, List.set_cons_zero, List.set_cons_succ, i64_w, i32_w]
                rfl
               refine take_ (i := 6) (N := some 67) (v := ?_) (a' := ?_) #[true, true, true, true, true, true, true, false, false, false, false] rfl rfl (take_ofW HT_.1 HW_.1 (by kernel_rfl)) (fun _ _ _ h => h) (Or.inl ⟨by rfl, ?_⟩) hHeld ?_ ?_
               rotate_left
               ·rintro w' ⟨s0, s1, s2, s3, s4⟩
                go_simp
                with_reducible rfl
               rotate_left
               ·simp only [Act.put, List.setIfInBounds_toArray, List.set_cons_zero, List.set_cons_succ, i64_w, i32_w]
                rfl
               refine pure_ (i := 7) (N := some 68) (v := ?_) (a' := ?_) #[true, true, true, true, true, true, true, true, false, false, false] rfl rfl (any_of HT_.1 (by kernel_rfl)) (fun _ _ _ h => h) (Or.inl ⟨by rfl, ?_⟩) ?_ ?_
               rotate_left
               ·intro w'
                go_simp
                with_reducible rfl
               rotate_left
               ·simp only [Act.put, List.setIfInBounds_toArray, List.set_cons_zero, List.set_cons_succ, i64_w, i32_w]
                rfl
               refine pure_ (i := 8) (N := some 69) (v := ?_) (a' := ?_) #[true, true, true, true, true, true, true, true, true, false, false] rfl rfl (any_of HT_.1 (by kernel_rfl)) (fun _ _ _ h => h) (Or.inl ⟨by rfl, ?_⟩) ?_ ?_
               rotate_left
               ·intro w'
                go_simp
                with_reducible rfl
               rotate_left
               ·simp only [Act.put, List.setIfInBounds_toArray, List.set_cons_zero, List.set_cons_succ, i64_w, i32_w]
                rfl
               refine one_ (i := 9) (N := some 70) #[true, true, true, true, true, true, true, true, true, true, false] rfl rfl (one_of HT_.1 (by kernel_rfl)) (by decide) (fun K hK => ?_)
               refine goes_ Try.func23 (by kernel_rfl) rfl #[.int .i64 (rd l0_3 x4_4), .int .i64 0, .int .i64 (wrap64 ((l0_2.length : Int) - 1))] (by rfl) rfl rfl (by (try simp only [List.map_toArray, List.map_cons, List.map_nil]); first | rfl ) ?_
               with_reducible refine (glisterref04_In.calls (rd l0_3 x4_4) 0 (wrap64 ((l0_2.length : Int) - 1)) false _ A39.1).mono ?_
               rintro e w' ⟨rfl, ⟨nd, rfl⟩⟩
               refine ⟨_, rfl, ?_⟩
               refine hK.out _ _ ⟨(kC BK231.1 0).trans rfl, (kC BK231.1 1).trans rfl, (kC BK231.1 2).trans rfl, (kC BK231.1 3).trans rfl, ((HB.1.cell (World.block_lt_of_cell? w _ hw236_0)).trans hw236_0)⟩ (fun hHeld => ?_)
               clear hK K
               refine norm_ (a' := ?_) ?_ ?_
               rotate_left
               ·show Act.put _ (some 70) _ = _
                simp only [Act.put, List.setIfInBounds_toArray, List.set_cons_zero, List.set_cons_succ, i64_w, i32_w]
                rfl
               refine pure_ (i := 10) (N := some 71) (v := ?_) (a' := ?_) #[true, true, true, true, true, true, true, true, true, true, true] rfl rfl (any_of HT_.1 (by kernel_rfl)) (fun _ _ _ h => h) (Or.inl ⟨by rfl, ?_⟩) ?_ ?_
               rotate_left
               ·intro w'
                go_simp
                with_reducible rfl
               rotate_left
               ·simp only [Act.put, List.setIfInBounds_toArray, List.set_cons_zero, List.set_cons_succ, i64_w, i32_w]
                rfl
               refine done_ (done_of HT_.1 (by kernel_rfl)) ?_
               try go_wp2
               go_ret
               exact ⟨by first | rfl , by repeat (first | (with_reducible first | exact HB.1 | apply bN ) )⟩
             ·rw [if_neg c38] at H
              exact absurd H (by simp)
            ·rw [if_neg c37] at H
             have c37b0 : decide (x4_4 < (l0_3.length : Int)) = false := decide_eq_false c37
             clear c37
             obtain rfl := Option.some.inj H
             have z_45_3 : wr.cell? ⟨gb231, 3, none⟩ = some (.slice A0_3 l0_3.length c0_3) := (kC BK231.1 3).trans rfl
             go_wp2
             go_ret
             exact ⟨by first | rfl , by repeat (first | (with_reducible first | exact HB.1 ) )⟩
end Go.Proofs.Ytnidgkmopocdkaa.P
