import Derived.Test.YtnidgkmopocdkaaA13P0
import Derived.Test.YtnidgkmopocdkaaA13P5
namespace Go.Proofs.Ytnidgkmopocdkaa.P
open Go.RowKit Go.Proofs.YtnidgkmopocdkaaW.PrintWords Go.Proofs.YtnidgkmopocdkaaW.PrintLast Go.Proofs.YtnidgkmopocdkaaW.PrintMore
attribute [local go_sem] max2_int min2_int max_two min_two max_three min_three max_four min_four   -- for this text's walks alone
set_option linter.unusedVariables false
set_option linter.unusedSimpArgs false
def glisterref04_Means.l0 : Nat → Int → Int → Int → Int → Int → List (S82) → List Int → Int → Int → Int → Option (Int)
 | 0, _, _, _, _, _, _, _, _, _, _ => none
 | k + 1, x2, x3, x9, x302000, x302001, x302002, x302003, x303000, x303001, x303002 => if x9 < x302000 then ((glisterref04_CodeOf.f x302000 x302001 x302002 x302003 x303000 x303001 x303002 x9 x3).bind fun t303 => (if t303 = x2 then (some x9) else (glisterref04_Means.l0 k x2 x3 (wrap64 (x9 + 1)) x302000 x302001 x302002 x302003 x303000 x303001 x303002))) else (some (-1))
def glisterref04_Means.f (k : Nat) (a0_0 : Int) (a0_1 : Int) (l0_2 : List (S82)) (l0_3 : List Int) (a1_0 : Int) (a1_1 : Int) (a1_2 : Int) (a2 : Int) (a3 : Int) : Option (Int) := glisterref04_Means.l0 k a2 a3 0 a0_0 a0_1 l0_2 l0_3 a1_0 a1_1 a1_2
set_option maxHeartbeats 8000000 in
set_option maxRecDepth 100000 in
theorem glisterref04_Means.calls (k : Nat) (a0_0 : Int) (a0_1 : Int) (A0_2 : Option Addr) (c0_2 : Nat) (l0_2 : List (S82)) (A0_3 : Option Addr) (c0_3 : Nat) (l0_3 : List Int) (a1_0 : Int) (a1_1 : Int) (a1_2 : Int) (a2 : Int) (a3 : Int) (r : Int) (w : World) (hr0_2 : Kd.C k82 w A0_2 l0_2.length l0_2) (hc0_2 : l0_2.length ≤ c0_2) (hr0_3 : Kd.C (Kd.int .i64) w A0_3 l0_3.length l0_3) (hc0_3 : l0_3.length ≤ c0_3) (h : glisterref04_Means.f k a0_0 a0_1 l0_2 l0_3 a1_0 a1_1 a1_2 a2 a3 = some r) :
  Calls Try.prog 70 #[.agg #[.int .i64 a0_0, .int .i64 a0_1, .slice A0_2 l0_2.length c0_2, .slice A0_3 l0_3.length c0_3], .agg #[.int .i64 a1_0, .int .i64 a1_1, .int .i64 a1_2], .int .i64 a2, .int .i64 a3] w fun e w' => e = .returned (.int .i64 r) ∧ Below w.heap.size w w' := by
 have hu25 := Try.underlying25
 have hu82 := Try.underlying82
 have HR0_2 := Sd.mk hr0_2
 have HC0_2 := Sd.mk hc0_2
 clear hr0_2 hc0_2
 have HR0_3 := Sd.mk hr0_3
 have HC0_3 := Sd.mk hc0_3
 clear hr0_3 hc0_3
 have HB := Sd.mk (Below.refl w.heap.size w)
 have H : (glisterref04_Means.l0 k a2 a3 0 a0_0 a0_1 l0_2 l0_3 a1_0 a1_1 a1_2) = some r := h
 clear h
 have H' := Sd.mk H
 clear H
 go_enter Try.func70, Try.ntmps70
 go_wp2_with (first | ((with_reducible refine gD (N := 4) rfl ?_); refine xE ?hg (N := 4) ?hd (cs := #[.int .i64 a0_0, .int .i64 a0_1, .slice A0_2 l0_2.length c0_2, .slice A0_3 l0_3.length c0_3]) (t := 25) ?hr ?_; (case hd => rfl); (case hg => rfl); (case hr => first | (go_simp; done) ); intro gb301 hg w5 hbox hb; have BK301 := Sd.mk (hbox); have GW301 := Sd.mk ((by rw [hg]; exact (bZ (by repeat (first | (with_reducible first | exact HB.1 ) ))) : w.heap.size ≤ gb301)); have GE301 := Sd.mk ((by rw [hg]; exact (bZ (by repeat (first | (with_reducible first | exact HB.1 ) ))) : w.heap.size ≤ gb301)); replace HB := Sd.mk (bT (by repeat (first | (with_reducible first | exact HB.1 ) )) hb); clear hb hbox hg) | ((with_reducible refine gD (N := 5) rfl ?_); refine xE ?hg (N := 5) ?hd (cs := #[.int .i64 a1_0, .int .i64 a1_1, .int .i64 a1_2]) (t := 82) ?hr ?_; (case hd => rfl); (case hg => rfl); (case hr => first | (go_simp; done) ); intro gb302 hg w6 hbox hb; have BK302 := Sd.mk (hbox); have GW302 := Sd.mk ((by rw [hg]; exact (bZ (by repeat (first | (with_reducible first | exact HB.1 ) ))) : w.heap.size ≤ gb302)); have GE302 := Sd.mk ((by rw [hg]; exact (bZ (by repeat (first | (with_reducible first | exact HB.1 ) ))) : w.heap.size ≤ gb302)); replace HB := Sd.mk (bT (by repeat (first | (with_reducible first | exact HB.1 ) )) hb); have NB301_302 := Sd.mk ((by rw [hg]; exact Nat.ne_of_lt (blk_lt (g := gb301) (o := .cells #[.int .i64 a0_0, .int .i64 a0_1, .slice A0_2 l0_2.length c0_2, .slice A0_3 l0_3.length c0_3] 25 (0, 0)) (by (with_reducible repeat (fail)); exact BK301.1)) : gb301 ≠ gb302)); have NB302_301 := Sd.mk ((by rw [hg]; exact Nat.ne_of_gt (blk_lt (g := gb301) (o := .cells #[.int .i64 a0_0, .int .i64 a0_1, .slice A0_2 l0_2.length c0_2, .slice A0_3 l0_3.length c0_3] 25 (0, 0)) (by (with_reducible repeat (fail)); exact BK301.1)) : gb302 ≠ gb301)); replace BK301 := Sd.mk (kB (g := gb301) (o := .cells #[.int .i64 a0_0, .int .i64 a0_1, .slice A0_2 l0_2.length c0_2, .slice A0_3 l0_3.length c0_3] 25 (0, 0)) (by (with_reducible repeat (fail)); exact BK301.1) hb); clear hb hbox hg))
 go_loopg [9] k (fun kq v9 w' => ∃ (x9_1 : Int), v9 = .int .i64 x9_1 ∧ Sd (glisterref04_Means.l0 kq a2 a3 x9_1 a0_0 a0_1 l0_2 l0_3 a1_0 a1_1 a1_2 = some r) ∧ Sd (kq ≤ k) ∧ Sd (w'.heap[gb301]? = some (.cells #[.int .i64 a0_0, .int .i64 a0_1, (.slice A0_2 l0_2.length c0_2), (.slice A0_3 l0_3.length c0_3)] 25 (0, 0))) ∧ Sd (w'.heap[gb302]? = some (.cells #[.int .i64 a1_0, .int .i64 a1_1, .int .i64 a1_2] 82 (0, 0))) ∧ Sd (Below w.heap.size w w'))
 case atStart => exact ⟨(0), (by first | rfl ), H', ⟨Nat.le_refl _⟩, ⟨by (with_reducible repeat (fail)); exact BK301.1⟩, ⟨by (with_reducible repeat (fail)); exact BK302.1⟩, ⟨by repeat (first | (with_reducible first | exact HB.1 ) )⟩⟩
 case round =>
  clear H'
  obtain ⟨x9_1, rfl, HA, HK1, BK301, BK302, HB⟩ := hrel
  cases gk with
  | zero => exact absurd HA.1 (by simp [glisterref04_Means.l0])
  | succ k1 =>
   have H := HA.1
   clear HA
   simp only [glisterref04_Means.l0] at H
   by_cases c7 : x9_1 < a0_0
   ·rw [if_pos c7] at H
    have c7b0 : decide (x9_1 < a0_0) = true := decide_eq_true c7
    clear c7
    obtain ⟨t303, A80, H⟩ := Option.bind_eq_some_iff.mp H
    have A8 := Sd.mk A80
    clear A80
    by_cases c9 : t303 = a2
    ·rw [if_pos c9] at H
     have c9b0 : (t303 == a2) = true := beq_iff_eq.mpr c9
     have c9b1 : (t303 != a2) = false := bne_eq_false_iff_eq.mpr c9
     clear c9
     obtain rfl := Option.some.inj H
     have hnb10 := NB301_302.1
     have hnc10 := NB302_301.1
     have z_11_0 : wr.cell? ⟨gb301, 0, none⟩ = some (.int .i64 a0_0) := (kC BK301.1 0).trans rfl
     have z_11_1 : wr.cell? ⟨gb301, 1, none⟩ = some (.int .i64 a0_1) := (kC BK301.1 1).trans rfl
     have z_11_2 : wr.cell? ⟨gb301, 2, none⟩ = some (.slice A0_2 l0_2.length c0_2) := (kC BK301.1 2).trans rfl
     have z_11_3 : wr.cell? ⟨gb301, 3, none⟩ = some (.slice A0_3 l0_3.length c0_3) := (kC BK301.1 3).trans rfl
     have z_12_0 : wr.cell? ⟨gb302, 0, none⟩ = some (.int .i64 a1_0) := (kC BK302.1 0).trans rfl
     have z_12_1 : wr.cell? ⟨gb302, 1, none⟩ = some (.int .i64 a1_1) := (kC BK302.1 1).trans rfl
     have z_12_2 : wr.cell? ⟨gb302, 2, none⟩ = some (.int .i64 a1_2) := (kC BK302.1 2).trans rfl
     go_wp2_with (first | ((with_reducible refine gate_callee (f := 64) rfl ?_); refine goesL_ (some 20) rfl rfl Try.func64 (by kernel_rfl) rfl #[.agg #[.int .i64 a0_0, .int .i64 a0_1, .slice A0_2 l0_2.length c0_2, .slice A0_3 l0_3.length c0_3], .agg #[.int .i64 a1_0, .int .i64 a1_1, .int .i64 a1_2], .int .i64 x9_1, .int .i64 a3] rfl (by (try simp only [List.map_toArray, List.map_cons, List.map_nil]); first | rfl ) ?_; (with_reducible refine (glisterref04_CodeOf.calls a0_0 a0_1 _ _ l0_2 _ _ l0_3 a1_0 a1_1 a1_2 x9_1 a3 t303 _ ?side1 ?side2 ?side3 ?side4 A8.1).mono ?_); (case side1 => repeat (first | exact (Kd.C_below HR0_2.1 HB.1) )); (case side2 => exact HC0_2.1); (case side3 => repeat (first | exact (Kd.C_below HR0_3.1 HB.1) )); (case side4 => exact HC0_3.1); rintro e w13 ⟨rfl, hb⟩; refine ⟨_, rfl, ?_⟩; replace BK301 := Sd.mk (kB (g := gb301) (o := .cells #[.int .i64 a0_0, .int .i64 a0_1, .slice A0_2 l0_2.length c0_2, .slice A0_3 l0_3.length c0_3] 25 (0, 0)) (by (with_reducible repeat (fail)); exact BK301.1) hb); replace BK302 := Sd.mk (kB (g := gb302) (o := .cells #[.int .i64 a1_0, .int .i64 a1_1, .int .i64 a1_2] 82 (0, 0)) (by (with_reducible repeat (fail)); exact BK302.1) hb); replace HB := Sd.mk (bT (by repeat (first | (with_reducible first | exact HB.1 ) )) hb); (try clear hb)))
     go_ret
     exact ⟨by first | rfl , by repeat (first | (with_reducible first | exact HB.1 ) )⟩
    ·rw [if_neg c9] at H
     have c9b0 : (t303 == a2) = false := beq_eq_false_iff_ne.mpr c9
     have c9b1 : (t303 != a2) = true := bne_iff_ne.mpr c9
     have H' := Sd.mk H
     clear H
     have hnb14 := NB301_302.1
     have hnc14 := NB302_301.1
     have z_15_0 : wr.cell? ⟨gb301, 0, none⟩ = some (.int .i64 a0_0) := (kC BK301.1 0).trans rfl
     have z_15_1 : wr.cell? ⟨gb301, 1, none⟩ = some (.int .i64 a0_1) := (kC BK301.1 1).trans rfl
     have z_15_2 : wr.cell? ⟨gb301, 2, none⟩ = some (.slice A0_2 l0_2.length c0_2) := (kC BK301.1 2).trans rfl
     have z_15_3 : wr.cell? ⟨gb301, 3, none⟩ = some (.slice A0_3 l0_3.length c0_3) := (kC BK301.1 3).trans rfl
     have z_16_0 : wr.cell? ⟨gb302, 0, none⟩ = some (.int .i64 a1_0) := (kC BK302.1 0).trans rfl
     have z_16_1 : wr.cell? ⟨gb302, 1, none⟩ = some (.int .i64 a1_1) := (kC BK302.1 1).trans rfl
     have z_16_2 : wr.cell? ⟨gb302, 2, none⟩ = some (.int .i64 a1_2) := (kC BK302.1 2).trans rfl
     go_wp2_with (first | ((with_reducible refine gate_callee (f := 64) rfl ?_); refine goesL_ (some 20) rfl rfl Try.func64 (by kernel_rfl) rfl #[.agg #[.int .i64 a0_0, .int .i64 a0_1, .slice A0_2 l0_2.length c0_2, .slice A0_3 l0_3.length c0_3], .agg #[.int .i64 a1_0, .int .i64 a1_1, .int .i64 a1_2], .int .i64 x9_1, .int .i64 a3] rfl (by (try simp only [List.map_toArray, List.map_cons, List.map_nil]); first | rfl ) ?_; (with_reducible refine (glisterref04_CodeOf.calls a0_0 a0_1 _ _ l0_2 _ _ l0_3 a1_0 a1_1 a1_2 x9_1 a3 t303 _ ?side1 ?side2 ?side3 ?side4 A8.1).mono ?_); (case side1 => repeat (first | exact (Kd.C_below HR0_2.1 HB.1) )); (case side2 => exact HC0_2.1); (case side3 => repeat (first | exact (Kd.C_below HR0_3.1 HB.1) )); (case side4 => exact HC0_3.1); rintro e w17 ⟨rfl, hb⟩; refine ⟨_, rfl, ?_⟩; replace BK301 := Sd.mk (kB (g := gb301) (o := .cells #[.int .i64 a0_0, .int .i64 a0_1, .slice A0_2 l0_2.length c0_2, .slice A0_3 l0_3.length c0_3] 25 (0, 0)) (by (with_reducible repeat (fail)); exact BK301.1) hb); replace BK302 := Sd.mk (kB (g := gb302) (o := .cells #[.int .i64 a1_0, .int .i64 a1_1, .int .i64 a1_2] 82 (0, 0)) (by (with_reducible repeat (fail)); exact BK302.1) hb); replace HB := Sd.mk (bT (by repeat (first | (with_reducible first | exact HB.1 ) )) hb); (try clear hb)))
     go_roundg k1
     case measure => have := HK1.1; omega
     case rel => exact ⟨(wrap64 (x9_1 + 1)), (by first | rfl ), H', ⟨by have := HK1.1; omega⟩, ⟨by (with_reducible repeat (fail)); exact BK301.1⟩, ⟨by (with_reducible repeat (fail)); exact BK302.1⟩, ⟨by repeat (first | (with_reducible first | exact HB.1 ) )⟩⟩
   ·rw [if_neg c7] at H
    have c7b0 : decide (x9_1 < a0_0) = false := decide_eq_false c7
    clear c7
    obtain rfl := Option.some.inj H
    have hnb18 := NB301_302.1
    have hnc18 := NB302_301.1
    have z_19_0 : wr.cell? ⟨gb301, 0, none⟩ = some (.int .i64 a0_0) := (kC BK301.1 0).trans rfl
    go_wp2
    go_ret
    exact ⟨by first | rfl , by repeat (first | (with_reducible first | exact HB.1 ) )⟩
end Go.Proofs.Ytnidgkmopocdkaa.P
