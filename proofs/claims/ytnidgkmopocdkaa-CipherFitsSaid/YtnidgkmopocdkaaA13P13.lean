import Derived.Test.YtnidgkmopocdkaaA13P0
import Derived.Test.YtnidgkmopocdkaaA13P2
import Derived.Test.YtnidgkmopocdkaaA13HCheck
import Derived.Test.YtnidgkmopocdkaaA13HTurn
namespace Go.Proofs.Ytnidgkmopocdkaa.P
open Go.RowKit Go.Proofs.YtnidgkmopocdkaaW.PrintWords Go.Proofs.YtnidgkmopocdkaaW.PrintLast Go.Proofs.YtnidgkmopocdkaaW.PrintMore
attribute [local go_sem] max2_int min2_int max_two min_two max_three min_three max_four min_four   -- for this text's walks alone
set_option linter.unusedVariables false
set_option linter.unusedSimpArgs false
def cipher_Book_losses.f (a0_0 : Int) (a0_1 : Int) (l0_2 : List (S91)) (l0_3 : List Int) (l1 : List (S110)) : Option (Int) := (cipher_CheckBook.f a0_0 a0_1 l0_2 l0_3).bind fun t129 => (if t129 = 0 then (if (l1.length : Int) > 6 then (some 3) else ((cipher_all_loss.f l1 a0_0 a0_1 l0_2 l0_3).bind fun t130 => (if t130 = true then (some 0) else (some 2)))) else (some t129))
set_option maxHeartbeats 8000000 in
set_option maxRecDepth 100000 in
theorem cipher_Book_losses.calls (a0_0 : Int) (a0_1 : Int) (A0_2 : Option Addr) (c0_2 : Nat) (l0_2 : List (S91)) (A0_3 : Option Addr) (c0_3 : Nat) (l0_3 : List Int) (A1 : Option Addr) (c1 : Nat) (l1 : List (S110)) (r : Int) (w : World) (hr0_2 : Kd.C k91 w A0_2 l0_2.length l0_2) (hc0_2 : l0_2.length ≤ c0_2) (hr0_3 : Kd.C (Kd.int .i64) w A0_3 l0_3.length l0_3) (hc0_3 : l0_3.length ≤ c0_3) (hr1 : Kd.C k110 w A1 l1.length l1) (hc1 : l1.length ≤ c1) (h : cipher_Book_losses.f a0_0 a0_1 l0_2 l0_3 l1 = some r) :
  Calls Try.prog 71 #[.agg #[.int .i64 a0_0, .int .i64 a0_1, .slice A0_2 l0_2.length c0_2, .slice A0_3 l0_3.length c0_3], .slice A1 l1.length c1] w fun e w' => e = .returned (.int .i64 r) ∧ Below w.heap.size w w' := by
 have hu32 := Try.underlying32
 have HR0_2 := Sd.mk hr0_2
 have HC0_2 := Sd.mk hc0_2
 clear hr0_2 hc0_2
 have HR0_3 := Sd.mk hr0_3
 have HC0_3 := Sd.mk hc0_3
 clear hr0_3 hc0_3
 have HR1 := Sd.mk hr1
 have HC1 := Sd.mk hc1
 clear hr1 hc1
 have HB := Sd.mk (Below.refl w.heap.size w)
 have H : ((cipher_CheckBook.f a0_0 a0_1 l0_2 l0_3).bind fun t129 => (if t129 = 0 then (if (l1.length : Int) > 6 then (some 3) else ((cipher_all_loss.f l1 a0_0 a0_1 l0_2 l0_3).bind fun t130 => (if t130 = true then (some 0) else (some 2)))) else (some t129))) = some r := h
 clear h
 obtain ⟨t129, A30, H⟩ := Option.bind_eq_some_iff.mp H
 have A3 := Sd.mk A30
 clear A30
 by_cases c4 : t129 = 0
 ·rw [if_pos c4] at H
  have c4b0 : (t129 == 0) = true := beq_iff_eq.mpr c4
  have c4b1 : (t129 != 0) = false := bne_eq_false_iff_eq.mpr c4
  clear c4
  by_cases c5 : (l1.length : Int) > 6
  ·rw [if_pos c5] at H
   have c5b0 : decide (6 < (l1.length : Int)) = true := decide_eq_true c5
   have c5b1 : decide (6 < l1.length) = true := decide_eq_true (by omega)
   clear c5
   obtain rfl := Option.some.inj H
   go_enter Try.func71, Try.ntmps71
   go_wp2_with (first | ((with_reducible refine gD (N := 2) rfl ?_); refine xE ?hg (N := 2) ?hd (cs := #[.int .i64 a0_0, .int .i64 a0_1, .slice A0_2 l0_2.length c0_2, .slice A0_3 l0_3.length c0_3]) (t := 32) ?hr ?_; (case hd => rfl); (case hg => rfl); (case hr => first | (go_simp; done) ); intro gb128 hg w6 hbox hb; have BK128 := Sd.mk (hbox); have GW128 := Sd.mk ((by rw [hg]; exact (bZ (by repeat (first | (with_reducible first | exact HB.1 ) ))) : w.heap.size ≤ gb128)); have GE128 := Sd.mk ((by rw [hg]; exact (bZ (by repeat (first | (with_reducible first | exact HB.1 ) ))) : w.heap.size ≤ gb128)); replace HB := Sd.mk (bT (by repeat (first | (with_reducible first | exact HB.1 ) )) hb); clear hb hbox hg; have z_7_0 : w6.cell? ⟨gb128, 0, none⟩ = some (.int .i64 a0_0) := (kC BK128.1 0).trans rfl; have z_7_1 : w6.cell? ⟨gb128, 1, none⟩ = some (.int .i64 a0_1) := (kC BK128.1 1).trans rfl; have z_7_2 : w6.cell? ⟨gb128, 2, none⟩ = some (.slice A0_2 l0_2.length c0_2) := (kC BK128.1 2).trans rfl; have z_7_3 : w6.cell? ⟨gb128, 3, none⟩ = some (.slice A0_3 l0_3.length c0_3) := (kC BK128.1 3).trans rfl) | ((with_reducible refine gate_callee (f := 18) rfl ?_); refine goesL_ (some 8) rfl rfl Try.func18 (by kernel_rfl) rfl #[.agg #[.int .i64 a0_0, .int .i64 a0_1, .slice A0_2 l0_2.length c0_2, .slice A0_3 l0_3.length c0_3]] rfl (by (try simp only [List.map_toArray, List.map_cons, List.map_nil]); first | rfl ) ?_; (with_reducible refine (cipher_CheckBook.calls a0_0 a0_1 _ _ l0_2 _ _ l0_3 t129 _ ?side1 ?side2 ?side3 ?side4 A3.1).mono ?_); (case side1 => repeat (first | exact (Kd.C_below HR0_2.1 HB.1) )); (case side2 => exact HC0_2.1); (case side3 => repeat (first | exact (Kd.C_below HR0_3.1 HB.1) )); (case side4 => exact HC0_3.1); rintro e w8 ⟨rfl, hb⟩; refine ⟨_, rfl, ?_⟩; replace BK128 := Sd.mk (kB (g := gb128) (o := .cells #[.int .i64 a0_0, .int .i64 a0_1, .slice A0_2 l0_2.length c0_2, .slice A0_3 l0_3.length c0_3] 32 (0, 0)) (by (with_reducible repeat (fail)); exact BK128.1) hb); replace HB := Sd.mk (bT (by repeat (first | (with_reducible first | exact HB.1 ) )) hb); (try clear hb); have z_9_0 : w8.cell? ⟨gb128, 0, none⟩ = some (.int .i64 a0_0) := (kC BK128.1 0).trans rfl; have z_9_1 : w8.cell? ⟨gb128, 1, none⟩ = some (.int .i64 a0_1) := (kC BK128.1 1).trans rfl; have z_9_2 : w8.cell? ⟨gb128, 2, none⟩ = some (.slice A0_2 l0_2.length c0_2) := (kC BK128.1 2).trans rfl; have z_9_3 : w8.cell? ⟨gb128, 3, none⟩ = some (.slice A0_3 l0_3.length c0_3) := (kC BK128.1 3).trans rfl))
   go_ret
   exact ⟨by first | rfl , by repeat (first | (with_reducible first | exact HB.1 ) )⟩
  ·rw [if_neg c5] at H
   have c5b0 : decide (6 < (l1.length : Int)) = false := decide_eq_false c5
   have c5b1 : decide (6 < l1.length) = false := decide_eq_false (by omega)
   clear c5
   obtain ⟨t130, A100, H⟩ := Option.bind_eq_some_iff.mp H
   have A10 := Sd.mk A100
   clear A100
   by_cases c11 : t130 = true
   ·subst c11
    rw [if_pos rfl] at H
    obtain rfl := Option.some.inj H
    go_enter Try.func71, Try.ntmps71
    go_wp2_with (first | ((with_reducible refine gD (N := 2) rfl ?_); refine xE ?hg (N := 2) ?hd (cs := #[.int .i64 a0_0, .int .i64 a0_1, .slice A0_2 l0_2.length c0_2, .slice A0_3 l0_3.length c0_3]) (t := 32) ?hr ?_; (case hd => rfl); (case hg => rfl); (case hr => first | (go_simp; done) ); intro gb128 hg w12 hbox hb; have BK128 := Sd.mk (hbox); have GW128 := Sd.mk ((by rw [hg]; exact (bZ (by repeat (first | (with_reducible first | exact HB.1 ) ))) : w.heap.size ≤ gb128)); have GE128 := Sd.mk ((by rw [hg]; exact (bZ (by repeat (first | (with_reducible first | exact HB.1 ) ))) : w.heap.size ≤ gb128)); replace HB := Sd.mk (bT (by repeat (first | (with_reducible first | exact HB.1 ) )) hb); clear hb hbox hg; have z_13_0 : w12.cell? ⟨gb128, 0, none⟩ = some (.int .i64 a0_0) := (kC BK128.1 0).trans rfl; have z_13_1 : w12.cell? ⟨gb128, 1, none⟩ = some (.int .i64 a0_1) := (kC BK128.1 1).trans rfl; have z_13_2 : w12.cell? ⟨gb128, 2, none⟩ = some (.slice A0_2 l0_2.length c0_2) := (kC BK128.1 2).trans rfl; have z_13_3 : w12.cell? ⟨gb128, 3, none⟩ = some (.slice A0_3 l0_3.length c0_3) := (kC BK128.1 3).trans rfl) | ((with_reducible refine gate_callee (f := 18) rfl ?_); refine goesL_ (some 8) rfl rfl Try.func18 (by kernel_rfl) rfl #[.agg #[.int .i64 a0_0, .int .i64 a0_1, .slice A0_2 l0_2.length c0_2, .slice A0_3 l0_3.length c0_3]] rfl (by (try simp only [List.map_toArray, List.map_cons, List.map_nil]); first | rfl ) ?_; (with_reducible refine (cipher_CheckBook.calls a0_0 a0_1 _ _ l0_2 _ _ l0_3 t129 _ ?side1 ?side2 ?side3 ?side4 A3.1).mono ?_); (case side1 => repeat (first | exact (Kd.C_below HR0_2.1 HB.1) )); (case side2 => exact HC0_2.1); (case side3 => repeat (first | exact (Kd.C_below HR0_3.1 HB.1) )); (case side4 => exact HC0_3.1); rintro e w14 ⟨rfl, hb⟩; refine ⟨_, rfl, ?_⟩; replace BK128 := Sd.mk (kB (g := gb128) (o := .cells #[.int .i64 a0_0, .int .i64 a0_1, .slice A0_2 l0_2.length c0_2, .slice A0_3 l0_3.length c0_3] 32 (0, 0)) (by (with_reducible repeat (fail)); exact BK128.1) hb); replace HB := Sd.mk (bT (by repeat (first | (with_reducible first | exact HB.1 ) )) hb); (try clear hb); have z_15_0 : w14.cell? ⟨gb128, 0, none⟩ = some (.int .i64 a0_0) := (kC BK128.1 0).trans rfl; have z_15_1 : w14.cell? ⟨gb128, 1, none⟩ = some (.int .i64 a0_1) := (kC BK128.1 1).trans rfl; have z_15_2 : w14.cell? ⟨gb128, 2, none⟩ = some (.slice A0_2 l0_2.length c0_2) := (kC BK128.1 2).trans rfl; have z_15_3 : w14.cell? ⟨gb128, 3, none⟩ = some (.slice A0_3 l0_3.length c0_3) := (kC BK128.1 3).trans rfl) | ((with_reducible refine gate_callee (f := 92) rfl ?_); refine goesL_ (some 21) rfl rfl Try.func92 (by kernel_rfl) rfl #[.slice A1 l1.length c1, .func (.func 91) #[.agg #[.int .i64 a0_0, .int .i64 a0_1, .slice A0_2 l0_2.length c0_2, .slice A0_3 l0_3.length c0_3]] #[]] rfl (by (try simp only [List.map_toArray, List.map_cons, List.map_nil]); first | rfl ) ?_; (with_reducible refine (cipher_all_loss.calls _ _ l1 a0_0 a0_1 _ _ l0_2 _ _ l0_3 true _ ?side1 ?side2 ?side3 ?side4 ?side5 ?side6 A10.1).mono ?_); (case side1 => repeat (first | exact (Kd.C_below HR1.1 HB.1) )); (case side2 => exact HC1.1); (case side3 => repeat (first | exact (Kd.C_below HR0_2.1 HB.1) )); (case side4 => exact HC0_2.1); (case side5 => repeat (first | exact (Kd.C_below HR0_3.1 HB.1) )); (case side6 => exact HC0_3.1); rintro e w16 ⟨rfl, hb⟩; refine ⟨_, rfl, ?_⟩; replace BK128 := Sd.mk (kB (g := gb128) (o := .cells #[.int .i64 a0_0, .int .i64 a0_1, .slice A0_2 l0_2.length c0_2, .slice A0_3 l0_3.length c0_3] 32 (0, 0)) (by (with_reducible repeat (fail)); exact BK128.1) hb); replace HB := Sd.mk (bT (by repeat (first | (with_reducible first | exact HB.1 ) )) hb); (try clear hb)))
    go_ret
    exact ⟨by first | rfl , by repeat (first | (with_reducible first | exact HB.1 ) )⟩
   ·replace c11 := Bool.eq_false_iff.mpr c11
    subst c11
    rw [if_neg (show ¬ (false = true) by decide)] at H
    obtain rfl := Option.some.inj H
    go_enter Try.func71, Try.ntmps71
    go_wp2_with (first | ((with_reducible refine gD (N := 2) rfl ?_); refine xE ?hg (N := 2) ?hd (cs := #[.int .i64 a0_0, .int .i64 a0_1, .slice A0_2 l0_2.length c0_2, .slice A0_3 l0_3.length c0_3]) (t := 32) ?hr ?_; (case hd => rfl); (case hg => rfl); (case hr => first | (go_simp; done) ); intro gb128 hg w17 hbox hb; have BK128 := Sd.mk (hbox); have GW128 := Sd.mk ((by rw [hg]; exact (bZ (by repeat (first | (with_reducible first | exact HB.1 ) ))) : w.heap.size ≤ gb128)); have GE128 := Sd.mk ((by rw [hg]; exact (bZ (by repeat (first | (with_reducible first | exact HB.1 ) ))) : w.heap.size ≤ gb128)); replace HB := Sd.mk (bT (by repeat (first | (with_reducible first | exact HB.1 ) )) hb); clear hb hbox hg; have z_18_0 : w17.cell? ⟨gb128, 0, none⟩ = some (.int .i64 a0_0) := (kC BK128.1 0).trans rfl; have z_18_1 : w17.cell? ⟨gb128, 1, none⟩ = some (.int .i64 a0_1) := (kC BK128.1 1).trans rfl; have z_18_2 : w17.cell? ⟨gb128, 2, none⟩ = some (.slice A0_2 l0_2.length c0_2) := (kC BK128.1 2).trans rfl; have z_18_3 : w17.cell? ⟨gb128, 3, none⟩ = some (.slice A0_3 l0_3.length c0_3) := (kC BK128.1 3).trans rfl) | ((with_reducible refine gate_callee (f := 18) rfl ?_); refine goesL_ (some 8) rfl rfl Try.func18 (by kernel_rfl) rfl #[.agg #[.int .i64 a0_0, .int .i64 a0_1, .slice A0_2 l0_2.length c0_2, .slice A0_3 l0_3.length c0_3]] rfl (by (try simp only [List.map_toArray, List.map_cons, List.map_nil]); first | rfl ) ?_; (with_reducible refine (cipher_CheckBook.calls a0_0 a0_1 _ _ l0_2 _ _ l0_3 t129 _ ?side1 ?side2 ?side3 ?side4 A3.1).mono ?_); (case side1 => repeat (first | exact (Kd.C_below HR0_2.1 HB.1) )); (case side2 => exact HC0_2.1); (case side3 => repeat (first | exact (Kd.C_below HR0_3.1 HB.1) )); (case side4 => exact HC0_3.1); rintro e w19 ⟨rfl, hb⟩; refine ⟨_, rfl, ?_⟩; replace BK128 := Sd.mk (kB (g := gb128) (o := .cells #[.int .i64 a0_0, .int .i64 a0_1, .slice A0_2 l0_2.length c0_2, .slice A0_3 l0_3.length c0_3] 32 (0, 0)) (by (with_reducible repeat (fail)); exact BK128.1) hb); replace HB := Sd.mk (bT (by repeat (first | (with_reducible first | exact HB.1 ) )) hb); (try clear hb); have z_20_0 : w19.cell? ⟨gb128, 0, none⟩ = some (.int .i64 a0_0) := (kC BK128.1 0).trans rfl; have z_20_1 : w19.cell? ⟨gb128, 1, none⟩ = some (.int .i64 a0_1) := (kC BK128.1 1).trans rfl; have z_20_2 : w19.cell? ⟨gb128, 2, none⟩ = some (.slice A0_2 l0_2.length c0_2) := (kC BK128.1 2).trans rfl; have z_20_3 : w19.cell? ⟨gb128, 3, none⟩ = some (.slice A0_3 l0_3.length c0_3) := (kC BK128.1 3).trans rfl) | ((with_reducible refine gate_callee (f := 92) rfl ?_); refine goesL_ (some 21) rfl rfl Try.func92 (by kernel_rfl) rfl #[.slice A1 l1.length c1, .func (.func 91) #[.agg #[.int .i64 a0_0, .int .i64 a0_1, .slice A0_2 l0_2.length c0_2, .slice A0_3 l0_3.length c0_3]] #[]] rfl (by (try simp only [List.map_toArray, List.map_cons, List.map_nil]); first | rfl ) ?_; (with_reducible refine (cipher_all_loss.calls _ _ l1 a0_0 a0_1 _ _ l0_2 _ _ l0_3 false _ ?side1 ?side2 ?side3 ?side4 ?side5 ?side6 A10.1).mono ?_); (case side1 => repeat (first | exact (Kd.C_below HR1.1 HB.1) )); (case side2 => exact HC1.1); (case side3 => repeat (first | exact (Kd.C_below HR0_2.1 HB.1) )); (case side4 => exact HC0_2.1); (case side5 => repeat (first | exact (Kd.C_below HR0_3.1 HB.1) )); (case side6 => exact HC0_3.1); rintro e w21 ⟨rfl, hb⟩; refine ⟨_, rfl, ?_⟩; replace BK128 := Sd.mk (kB (g := gb128) (o := .cells #[.int .i64 a0_0, .int .i64 a0_1, .slice A0_2 l0_2.length c0_2, .slice A0_3 l0_3.length c0_3] 32 (0, 0)) (by (with_reducible repeat (fail)); exact BK128.1) hb); replace HB := Sd.mk (bT (by repeat (first | (with_reducible first | exact HB.1 ) )) hb); (try clear hb)))
    go_ret
    exact ⟨by first | rfl , by repeat (first | (with_reducible first | exact HB.1 ) )⟩
 ·rw [if_neg c4] at H
  have c4b0 : (t129 == 0) = false := beq_eq_false_iff_ne.mpr c4
  have c4b1 : (t129 != 0) = true := bne_iff_ne.mpr c4
  obtain rfl := Option.some.inj H
  go_enter Try.func71, Try.ntmps71
  go_wp2_with (first | ((with_reducible refine gD (N := 2) rfl ?_); refine xE ?hg (N := 2) ?hd (cs := #[.int .i64 a0_0, .int .i64 a0_1, .slice A0_2 l0_2.length c0_2, .slice A0_3 l0_3.length c0_3]) (t := 32) ?hr ?_; (case hd => rfl); (case hg => rfl); (case hr => first | (go_simp; done) ); intro gb128 hg w22 hbox hb; have BK128 := Sd.mk (hbox); have GW128 := Sd.mk ((by rw [hg]; exact (bZ (by repeat (first | (with_reducible first | exact HB.1 ) ))) : w.heap.size ≤ gb128)); have GE128 := Sd.mk ((by rw [hg]; exact (bZ (by repeat (first | (with_reducible first | exact HB.1 ) ))) : w.heap.size ≤ gb128)); replace HB := Sd.mk (bT (by repeat (first | (with_reducible first | exact HB.1 ) )) hb); clear hb hbox hg; have z_23_0 : w22.cell? ⟨gb128, 0, none⟩ = some (.int .i64 a0_0) := (kC BK128.1 0).trans rfl; have z_23_1 : w22.cell? ⟨gb128, 1, none⟩ = some (.int .i64 a0_1) := (kC BK128.1 1).trans rfl; have z_23_2 : w22.cell? ⟨gb128, 2, none⟩ = some (.slice A0_2 l0_2.length c0_2) := (kC BK128.1 2).trans rfl; have z_23_3 : w22.cell? ⟨gb128, 3, none⟩ = some (.slice A0_3 l0_3.length c0_3) := (kC BK128.1 3).trans rfl) | ((with_reducible refine gate_callee (f := 18) rfl ?_); refine goesL_ (some 8) rfl rfl Try.func18 (by kernel_rfl) rfl #[.agg #[.int .i64 a0_0, .int .i64 a0_1, .slice A0_2 l0_2.length c0_2, .slice A0_3 l0_3.length c0_3]] rfl (by (try simp only [List.map_toArray, List.map_cons, List.map_nil]); first | rfl ) ?_; (with_reducible refine (cipher_CheckBook.calls a0_0 a0_1 _ _ l0_2 _ _ l0_3 t129 _ ?side1 ?side2 ?side3 ?side4 A3.1).mono ?_); (case side1 => repeat (first | exact (Kd.C_below HR0_2.1 HB.1) )); (case side2 => exact HC0_2.1); (case side3 => repeat (first | exact (Kd.C_below HR0_3.1 HB.1) )); (case side4 => exact HC0_3.1); rintro e w24 ⟨rfl, hb⟩; refine ⟨_, rfl, ?_⟩; replace BK128 := Sd.mk (kB (g := gb128) (o := .cells #[.int .i64 a0_0, .int .i64 a0_1, .slice A0_2 l0_2.length c0_2, .slice A0_3 l0_3.length c0_3] 32 (0, 0)) (by (with_reducible repeat (fail)); exact BK128.1) hb); replace HB := Sd.mk (bT (by repeat (first | (with_reducible first | exact HB.1 ) )) hb); (try clear hb)))
  go_ret
  exact ⟨by first | rfl , by repeat (first | (with_reducible first | exact HB.1 ) )⟩
def cipher_Code.f (k : Nat) (a0_0 : Int) (a0_1 : Int) (l0_2 : List (S91)) (l0_3 : List Int) (a1 : Int) (l2 : List Int) : Option (List Int × Int) := (cipher_CheckBook.f a0_0 a0_1 l0_2 l0_3).bind fun t140 => (if t140 = 0 then ((cipher_Book_day.f a0_0 a0_1 l0_2 l0_3 a1).bind fun t141 => (if t141 = true then (if (l2.length : Int) > 10 then (some (([] : List Int), 3)) else ((cipher_all_plain.f l2 a0_0 a0_1 l0_2 l0_3).bind fun t142 => (if t142 = true then ((cipher_Book_indicator.f a0_0 a0_1 l0_2 l0_3 a1).bind fun t143 => ((some (([t143] : List Int) : List Int)).bind fun y144 => (if 0 ≤ a1 then (if a1 < (l0_3.length : Int) then (if 0 ≤ (rd l0_3 a1) then (if (rd l0_3 a1) < (l0_2.length : Int) then ((cipher_turned_code.f a0_0 a0_1 l0_2 l0_3 ((rd_T91 l0_2 (rd l0_3 a1)).f0) ((rd_T91 l0_2 (rd l0_3 a1)).f1) ((rd_T91 l0_2 (rd l0_3 a1)).f2) l2).bind fun t149 => (if y144.length + t149.length < 17592186044416 then ((some (y144 ++ t149 : List Int)).bind fun y152 => ((cipher_Book_check.f k a0_0 a0_1 l0_2 l0_3 y152).bind fun t155 => (if y152.length < 17592186044416 then (some ((y152 ++ [t155]), 0)) else (none)))) else (none))) else (none)) else (none)) else (none)) else (none)))) else (some (([] : List Int), 2))))) else (some (([] : List Int), 2)))) else (some (([] : List Int), t140)))
def cipher_Code.T10 : Bool × List (List Nat × List Nat) := (true, [([], []), ([], []), ([0, 1], [0, 1]), ([2], [2]), ([], []), ([], []), ([], []), ([6], [6]), ([], []), ([8], [8]), ([], []), ([9, 10], [9, 10]), ([11], [11]), ([7, 12], [7, 12]), ([13], [13]), ([], []), ([4, 5, 14, 15, 2], [4, 5, 14, 15]), ([3, 16, 16], [3, 16]), ([17, 17, 0, 1, 2, 3, 4, 5, 6, 7, 8, 9, 10, 11, 12, 13, 14, 15, 16, 17], [17])])
def cipher_Code.B10 : List Nat := [0, 0, 3, 7, 0, 0, 0, 64, 0, 256, 0, 1792, 3840, 8128, 16320, 0, 65527, 131071, 262143]
theorem cipher_Code.tab10 : rtab .any (opsOf Try.f20 10) = cipher_Code.T10 := by kernel_rfl
theorem cipher_Code.bits10 : waitsOk cipher_Code.T10.2 cipher_Code.B10 = true := by kernel_rfl
set_option maxHeartbeats 8000000 in
set_option maxRecDepth 100000 in
theorem cipher_Code.calls (k : Nat) (a0_0 : Int) (a0_1 : Int) (A0_2 : Option Addr) (c0_2 : Nat) (l0_2 : List (S91)) (A0_3 : Option Addr) (c0_3 : Nat) (l0_3 : List Int) (a1 : Int) (A2 : Option Addr) (c2 : Nat) (l2 : List Int) (r1 : List Int) (r2 : Int) (w : World) (hr0_2 : Kd.C k91 w A0_2 l0_2.length l0_2) (hc0_2 : l0_2.length ≤ c0_2) (hr0_3 : Kd.C (Kd.int .i64) w A0_3 l0_3.length l0_3) (hc0_3 : l0_3.length ≤ c0_3) (hr2 : Kd.C (Kd.int .i64) w A2 l2.length l2) (hc2 : l2.length ≤ c2) (h : cipher_Code.f k a0_0 a0_1 l0_2 l0_3 a1 l2 = some (r1, r2)) :
  Calls Try.prog 20 #[.agg #[.int .i64 a0_0, .int .i64 a0_1, .slice A0_2 l0_2.length c0_2, .slice A0_3 l0_3.length c0_3], .int .i64 a1, .slice A2 l2.length c2] w fun e w' => ∃ v0_ : Value, e = .returned (.tuple #[v0_, .int .i64 r2]) ∧ Kd.R (Kd.int .i64) 3 w' w.heap.size (fun _ => True) v0_ r1 ∧ Below w.heap.size w w' := by
 have hu32 := Try.underlying32
 have hu91 := Try.underlying91
 have HR0_2 := Sd.mk hr0_2
 have HC0_2 := Sd.mk hc0_2
 clear hr0_2 hc0_2
 have HR0_3 := Sd.mk hr0_3
 have HC0_3 := Sd.mk hc0_3
 clear hr0_3 hc0_3
 have HR2 := Sd.mk hr2
 have HC2 := Sd.mk hc2
 clear hr2 hc2
 have HB := Sd.mk (Below.refl w.heap.size w)
 have H : ((cipher_CheckBook.f a0_0 a0_1 l0_2 l0_3).bind fun t140 => (if t140 = 0 then ((cipher_Book_day.f a0_0 a0_1 l0_2 l0_3 a1).bind fun t141 => (if t141 = true then (if (l2.length : Int) > 10 then (some (([] : List Int), 3)) else ((cipher_all_plain.f l2 a0_0 a0_1 l0_2 l0_3).bind fun t142 => (if t142 = true then ((cipher_Book_indicator.f a0_0 a0_1 l0_2 l0_3 a1).bind fun t143 => ((some (([t143] : List Int) : List Int)).bind fun y144 => (if 0 ≤ a1 then (if a1 < (l0_3.length : Int) then (if 0 ≤ (rd l0_3 a1) then (if (rd l0_3 a1) < (l0_2.length : Int) then ((cipher_turned_code.f a0_0 a0_1 l0_2 l0_3 ((rd_T91 l0_2 (rd l0_3 a1)).f0) ((rd_T91 l0_2 (rd l0_3 a1)).f1) ((rd_T91 l0_2 (rd l0_3 a1)).f2) l2).bind fun t149 => (if y144.length + t149.length < 17592186044416 then ((some (y144 ++ t149 : List Int)).bind fun y152 => ((cipher_Book_check.f k a0_0 a0_1 l0_2 l0_3 y152).bind fun t155 => (if y152.length < 17592186044416 then (some ((y152 ++ [t155]), 0)) else (none)))) else (none))) else (none)) else (none)) else (none)) else (none)))) else (some (([] : List Int), 2))))) else (some (([] : List Int), 2)))) else (some (([] : List Int), t140)))) = some (r1, r2) := h
 clear h
 obtain ⟨t140, A40, H⟩ := Option.bind_eq_some_iff.mp H
 have A4 := Sd.mk A40
 clear A40
 by_cases c5 : t140 = 0
 ·rw [if_pos c5] at H
  have c5b0 : (t140 == 0) = true := beq_iff_eq.mpr c5
  have c5b1 : (t140 != 0) = false := bne_eq_false_iff_eq.mpr c5
  clear c5
  obtain ⟨t141, A60, H⟩ := Option.bind_eq_some_iff.mp H
  have A6 := Sd.mk A60
  clear A60
  by_cases c7 : t141 = true
  ·subst c7
   rw [if_pos rfl] at H
   by_cases c8 : (l2.length : Int) > 10
   ·rw [if_pos c8] at H
    have c8b0 : decide (10 < (l2.length : Int)) = true := decide_eq_true c8
    have c8b1 : decide (10 < l2.length) = true := decide_eq_true (by omega)
    clear c8
    simp only [Option.some.injEq, Prod.mk.injEq] at H
    obtain ⟨rfl, rfl⟩ := H
    go_enter Try.func20, Try.ntmps20
    go_wp2_with (first | ((with_reducible refine gD (N := 3) rfl ?_); refine xE ?hg (N := 3) ?hd (cs := #[.int .i64 a0_0, .int .i64 a0_1, .slice A0_2 l0_2.length c0_2, .slice A0_3 l0_3.length c0_3]) (t := 32) ?hr ?_; (case hd => rfl); (case hg => rfl); (case hr => first | (go_simp; done) ); intro gb139 hg w9 hbox hb; have BK139 := Sd.mk (hbox); have GW139 := Sd.mk ((by rw [hg]; exact (bZ (by repeat (first | (with_reducible first | exact HB.1 ) ))) : w.heap.size ≤ gb139)); have GE139 := Sd.mk ((by rw [hg]; exact (bZ (by repeat (first | (with_reducible first | exact HB.1 ) ))) : w.heap.size ≤ gb139)); replace HB := Sd.mk (bT (by repeat (first | (with_reducible first | exact HB.1 ) )) hb); clear hb hbox hg; have z_10_0 : w9.cell? ⟨gb139, 0, none⟩ = some (.int .i64 a0_0) := (kC BK139.1 0).trans rfl; have z_10_1 : w9.cell? ⟨gb139, 1, none⟩ = some (.int .i64 a0_1) := (kC BK139.1 1).trans rfl; have z_10_2 : w9.cell? ⟨gb139, 2, none⟩ = some (.slice A0_2 l0_2.length c0_2) := (kC BK139.1 2).trans rfl; have z_10_3 : w9.cell? ⟨gb139, 3, none⟩ = some (.slice A0_3 l0_3.length c0_3) := (kC BK139.1 3).trans rfl) | ((with_reducible refine gate_callee (f := 18) rfl ?_); refine goesL_ (some 11) rfl rfl Try.func18 (by kernel_rfl) rfl #[.agg #[.int .i64 a0_0, .int .i64 a0_1, .slice A0_2 l0_2.length c0_2, .slice A0_3 l0_3.length c0_3]] rfl (by (try simp only [List.map_toArray, List.map_cons, List.map_nil]); first | rfl ) ?_; (with_reducible refine (cipher_CheckBook.calls a0_0 a0_1 _ _ l0_2 _ _ l0_3 t140 _ ?side1 ?side2 ?side3 ?side4 A4.1).mono ?_); (case side1 => repeat (first | exact (Kd.C_below HR0_2.1 HB.1) )); (case side2 => exact HC0_2.1); (case side3 => repeat (first | exact (Kd.C_below HR0_3.1 HB.1) )); (case side4 => exact HC0_3.1); rintro e w11 ⟨rfl, hb⟩; refine ⟨_, rfl, ?_⟩; replace BK139 := Sd.mk (kB (g := gb139) (o := .cells #[.int .i64 a0_0, .int .i64 a0_1, .slice A0_2 l0_2.length c0_2, .slice A0_3 l0_3.length c0_3] 32 (0, 0)) (by (with_reducible repeat (fail)); exact BK139.1) hb); replace HB := Sd.mk (bT (by repeat (first | (with_reducible first | exact HB.1 ) )) hb); (try clear hb); have z_12_0 : w11.cell? ⟨gb139, 0, none⟩ = some (.int .i64 a0_0) := (kC BK139.1 0).trans rfl; have z_12_1 : w11.cell? ⟨gb139, 1, none⟩ = some (.int .i64 a0_1) := (kC BK139.1 1).trans rfl; have z_12_2 : w11.cell? ⟨gb139, 2, none⟩ = some (.slice A0_2 l0_2.length c0_2) := (kC BK139.1 2).trans rfl; have z_12_3 : w11.cell? ⟨gb139, 3, none⟩ = some (.slice A0_3 l0_3.length c0_3) := (kC BK139.1 3).trans rfl) | ((with_reducible refine gate_callee (f := 56) rfl ?_); refine goesL_ (some 18) rfl rfl Try.func56 (by kernel_rfl) rfl #[.agg #[.int .i64 a0_0, .int .i64 a0_1, .slice A0_2 l0_2.length c0_2, .slice A0_3 l0_3.length c0_3], .int .i64 a1] rfl (by (try simp only [List.map_toArray, List.map_cons, List.map_nil]); first | rfl ) ?_; (with_reducible refine (cipher_Book_day.calls a0_0 a0_1 _ _ l0_2 _ _ l0_3 a1 true _ ?side1 ?side2 ?side3 ?side4 A6.1).mono ?_); (case side1 => repeat (first | exact (Kd.C_below HR0_2.1 HB.1) )); (case side2 => exact HC0_2.1); (case side3 => repeat (first | exact (Kd.C_below HR0_3.1 HB.1) )); (case side4 => exact HC0_3.1); rintro e w13 ⟨rfl, hb⟩; refine ⟨_, rfl, ?_⟩; replace BK139 := Sd.mk (kB (g := gb139) (o := .cells #[.int .i64 a0_0, .int .i64 a0_1, .slice A0_2 l0_2.length c0_2, .slice A0_3 l0_3.length c0_3] 32 (0, 0)) (by (with_reducible repeat (fail)); exact BK139.1) hb); replace HB := Sd.mk (bT (by repeat (first | (with_reducible first | exact HB.1 ) )) hb); (try clear hb)))
    go_ret2
    exact ⟨_, by first | rfl , by first | exact Kd.R_nil _ _ _ _ _ , by repeat (first | (with_reducible first | exact HB.1 ) )⟩
   ·rw [if_neg c8] at H
    have c8b0 : decide (10 < (l2.length : Int)) = false := decide_eq_false c8
    have c8b1 : decide (10 < l2.length) = false := decide_eq_false (by omega)
    clear c8
    obtain ⟨t142, A140, H⟩ := Option.bind_eq_some_iff.mp H
    have A14 := Sd.mk A140
    clear A140
    by_cases c15 : t142 = true
    ·subst c15
     rw [if_pos rfl] at H
     obtain ⟨t143, A160, H⟩ := Option.bind_eq_some_iff.mp H
     have A16 := Sd.mk A160
     clear A160
     obtain ⟨y144, hy144⟩ : ∃ y_ : List Int, y_ = (([t143] : List Int)) := ⟨_, rfl⟩
     replace H : (if 0 ≤ a1 then (if a1 < (l0_3.length : Int) then (if 0 ≤ (rd l0_3 a1) then (if (rd l0_3 a1) < (l0_2.length : Int) then ((cipher_turned_code.f a0_0 a0_1 l0_2 l0_3 ((rd_T91 l0_2 (rd l0_3 a1)).f0) ((rd_T91 l0_2 (rd l0_3 a1)).f1) ((rd_T91 l0_2 (rd l0_3 a1)).f2) l2).bind fun t149 => (if y144.length + t149.length < 17592186044416 then ((some (y144 ++ t149 : List Int)).bind fun y152 => ((cipher_Book_check.f k a0_0 a0_1 l0_2 l0_3 y152).bind fun t155 => (if y152.length < 17592186044416 then (some ((y152 ++ [t155]), 0)) else (none)))) else (none))) else (none)) else (none)) else (none)) else (none)) = some (r1, r2) := by first | (have H2_ := (Option.bind_some _ _).symm.trans H; rw [hy144]; with_reducible exact H2_) 
     have Ny144 := Sd.mk hy144
     clear hy144
     by_cases c17 : 0 ≤ a1
     ·rw [if_pos c17] at H
      have c17b0 : decide (0 ≤ a1) = true := decide_eq_true c17
      clear c17
      by_cases c18 : a1 < (l0_3.length : Int)
      ·rw [if_pos c18] at H
       have c18b0 : decide (a1 < (l0_3.length : Int)) = true := decide_eq_true c18
       clear c18
       by_cases c19 : 0 ≤ (rd l0_3 a1)
       ·rw [if_pos c19] at H
        have c19b0 : decide (0 ≤ (rd l0_3 a1)) = true := decide_eq_true c19
        clear c19
        by_cases c20 : (rd l0_3 a1) < (l0_2.length : Int)
        ·rw [if_pos c20] at H
         have c20b0 : decide ((rd l0_3 a1) < (l0_2.length : Int)) = true := decide_eq_true c20
         clear c20
         obtain ⟨t149, A210, H⟩ := Option.bind_eq_some_iff.mp H
         have A21 := Sd.mk A210
         clear A210
         by_cases c22 : y144.length + t149.length < 17592186044416
         ·rw [if_pos c22] at H
          have LMc22 := Sd.mk c22
          clear c22
          obtain ⟨y152, hy152⟩ : ∃ y_ : List Int, y_ = (y144 ++ t149) := ⟨_, rfl⟩
          replace H : ((cipher_Book_check.f k a0_0 a0_1 l0_2 l0_3 y152).bind fun t155 => (if y152.length < 17592186044416 then (some ((y152 ++ [t155]), 0)) else (none))) = some (r1, r2) := by first | (have H2_ := (Option.bind_some _ _).symm.trans H; rw [hy152]; with_reducible exact H2_) 
          have Ny152 := Sd.mk hy152
          clear hy152
          obtain ⟨t155, A230, H⟩ := Option.bind_eq_some_iff.mp H
          have A23 := Sd.mk A230
          clear A230
          by_cases c24 : y152.length < 17592186044416
          ·rw [if_pos c24] at H
           have LMc24 := Sd.mk c24
           clear c24
           obtain ⟨y156, hy156⟩ : ∃ y_ : List Int, y_ = (y152 ++ [t155]) := ⟨_, rfl⟩
           replace H : (some (y156, 0)) = some (r1, r2) := by first | (rw [hy156]; with_reducible exact H) 
           have Ny156 := Sd.mk hy156
           clear hy156
           simp only [Option.some.injEq, Prod.mk.injEq] at H
           obtain ⟨rfl, rfl⟩ := H
           go_enter Try.func20, Try.ntmps20
           try go_wp2_with (first | ((with_reducible refine gD (N := 3) rfl ?_); refine xE ?hg (N := 3) ?hd (cs := #[.int .i64 a0_0, .int .i64 a0_1, .slice A0_2 l0_2.length c0_2, .slice A0_3 l0_3.length c0_3]) (t := 32) ?hr ?_; (case hd => rfl); (case hg => rfl); (case hr => first | (go_simp; done) ); intro gb139 hg w25 hbox hb; have BK139 := Sd.mk (hbox); have GW139 := Sd.mk ((by rw [hg]; exact (bZ (by repeat (first | (with_reducible first | exact HB.1 ) ))) : w.heap.size ≤ gb139)); have GE139 := Sd.mk ((by rw [hg]; exact (bZ (by repeat (first | (with_reducible first | exact HB.1 ) ))) : w.heap.size ≤ gb139)); replace HB := Sd.mk (bT (by repeat (first | (with_reducible first | exact HB.1 ) )) hb); clear hb hbox hg; have z_26_0 : w25.cell? ⟨gb139, 0, none⟩ = some (.int .i64 a0_0) := (kC BK139.1 0).trans rfl; have z_26_1 : w25.cell? ⟨gb139, 1, none⟩ = some (.int .i64 a0_1) := (kC BK139.1 1).trans rfl; have z_26_2 : w25.cell? ⟨gb139, 2, none⟩ = some (.slice A0_2 l0_2.length c0_2) := (kC BK139.1 2).trans rfl; have z_26_3 : w25.cell? ⟨gb139, 3, none⟩ = some (.slice A0_3 l0_3.length c0_3) := (kC BK139.1 3).trans rfl) | ((with_reducible refine gate_callee (f := 18) rfl ?_); refine goesL_ (some 11) rfl rfl Try.func18 (by kernel_rfl) rfl #[.agg #[.int .i64 a0_0, .int .i64 a0_1, .slice A0_2 l0_2.length c0_2, .slice A0_3 l0_3.length c0_3]] rfl (by (try simp only [List.map_toArray, List.map_cons, List.map_nil]); first | rfl ) ?_; (with_reducible refine (cipher_CheckBook.calls a0_0 a0_1 _ _ l0_2 _ _ l0_3 t140 _ ?side1 ?side2 ?side3 ?side4 A4.1).mono ?_); (case side1 => repeat (first | exact (Kd.C_below HR0_2.1 HB.1) )); (case side2 => exact HC0_2.1); (case side3 => repeat (first | exact (Kd.C_below HR0_3.1 HB.1) )); (case side4 => exact HC0_3.1); rintro e w27 ⟨rfl, hb⟩; refine ⟨_, rfl, ?_⟩; replace BK139 := Sd.mk (kB (g := gb139) (o := .cells #[.int .i64 a0_0, .int .i64 a0_1, .slice A0_2 l0_2.length c0_2, .slice A0_3 l0_3.length c0_3] 32 (0, 0)) (by (with_reducible repeat (fail)); exact BK139.1) hb); replace HB := Sd.mk (bT (by repeat (first | (with_reducible first | exact HB.1 ) )) hb); (try clear hb); have z_28_0 : w27.cell? ⟨gb139, 0, none⟩ = some (.int .i64 a0_0) := (kC BK139.1 0).trans rfl; have z_28_1 : w27.cell? ⟨gb139, 1, none⟩ = some (.int .i64 a0_1) := (kC BK139.1 1).trans rfl; have z_28_2 : w27.cell? ⟨gb139, 2, none⟩ = some (.slice A0_2 l0_2.length c0_2) := (kC BK139.1 2).trans rfl; have z_28_3 : w27.cell? ⟨gb139, 3, none⟩ = some (.slice A0_3 l0_3.length c0_3) := (kC BK139.1 3).trans rfl) | ((with_reducible refine gate_callee (f := 56) rfl ?_); refine goesL_ (some 18) rfl rfl Try.func56 (by kernel_rfl) rfl #[.agg #[.int .i64 a0_0, .int .i64 a0_1, .slice A0_2 l0_2.length c0_2, .slice A0_3 l0_3.length c0_3], .int .i64 a1] rfl (by (try simp only [List.map_toArray, List.map_cons, List.map_nil]); first | rfl ) ?_; (with_reducible refine (cipher_Book_day.calls a0_0 a0_1 _ _ l0_2 _ _ l0_3 a1 true _ ?side1 ?side2 ?side3 ?side4 A6.1).mono ?_); (case side1 => repeat (first | exact (Kd.C_below HR0_2.1 HB.1) )); (case side2 => exact HC0_2.1); (case side3 => repeat (first | exact (Kd.C_below HR0_3.1 HB.1) )); (case side4 => exact HC0_3.1); rintro e w29 ⟨rfl, hb⟩; refine ⟨_, rfl, ?_⟩; replace BK139 := Sd.mk (kB (g := gb139) (o := .cells #[.int .i64 a0_0, .int .i64 a0_1, .slice A0_2 l0_2.length c0_2, .slice A0_3 l0_3.length c0_3] 32 (0, 0)) (by (with_reducible repeat (fail)); exact BK139.1) hb); replace HB := Sd.mk (bT (by repeat (first | (with_reducible first | exact HB.1 ) )) hb); (try clear hb); have z_30_0 : w29.cell? ⟨gb139, 0, none⟩ = some (.int .i64 a0_0) := (kC BK139.1 0).trans rfl; have z_30_1 : w29.cell? ⟨gb139, 1, none⟩ = some (.int .i64 a0_1) := (kC BK139.1 1).trans rfl; have z_30_2 : w29.cell? ⟨gb139, 2, none⟩ = some (.slice A0_2 l0_2.length c0_2) := (kC BK139.1 2).trans rfl; have z_30_3 : w29.cell? ⟨gb139, 3, none⟩ = some (.slice A0_3 l0_3.length c0_3) := (kC BK139.1 3).trans rfl) | ((with_reducible refine gate_callee (f := 54) rfl ?_); refine goesL_ (some 28) rfl rfl Try.func54 (by kernel_rfl) rfl #[.slice A2 l2.length c2, .func (.func 57) #[.agg #[.int .i64 a0_0, .int .i64 a0_1, .slice A0_2 l0_2.length c0_2, .slice A0_3 l0_3.length c0_3]] #[]] rfl (by (try simp only [List.map_toArray, List.map_cons, List.map_nil]); first | rfl ) ?_; (with_reducible refine (cipher_all_plain.calls _ _ l2 a0_0 a0_1 _ _ l0_2 _ _ l0_3 true _ ?side1 ?side2 ?side3 ?side4 ?side5 ?side6 A14.1).mono ?_); (case side1 => repeat (first | exact (Kd.C_below HR2.1 HB.1) )); (case side2 => exact HC2.1); (case side3 => repeat (first | exact (Kd.C_below HR0_2.1 HB.1) )); (case side4 => exact HC0_2.1); (case side5 => repeat (first | exact (Kd.C_below HR0_3.1 HB.1) )); (case side6 => exact HC0_3.1); rintro e w31 ⟨rfl, hb⟩; refine ⟨_, rfl, ?_⟩; replace BK139 := Sd.mk (kB (g := gb139) (o := .cells #[.int .i64 a0_0, .int .i64 a0_1, .slice A0_2 l0_2.length c0_2, .slice A0_3 l0_3.length c0_3] 32 (0, 0)) (by (with_reducible repeat (fail)); exact BK139.1) hb); replace HB := Sd.mk (bT (by repeat (first | (with_reducible first | exact HB.1 ) )) hb); (try clear hb)))
           have n0_ := Sd.mk (kD BK139.1)
           have n1_ := Sd.mk (bD HB.1)
           clear BK139
           clear HB
           have BK139 := n0_
           have HB := n1_
           clear n0_ n1_
           have p147 : 0 ≤ (a1 : Int) := of_decide_eq_true (by first | (with_reducible assumption) )
           have q147 : a1 < (l0_3.length : Int) := of_decide_eq_true (by first | (with_reducible assumption) )
           obtain ⟨ad147, e147, hx147_0⟩ := Kd.at_int HR0_3.1 a1 p147 q147
           have hw147_0 := hx147_0
           cases e147
           replace hx147_0 := (HB.1.cell (World.block_lt_of_cell? w _ hx147_0)).trans hx147_0
           replace p147 := eq_true p147
           replace q147 := eq_true q147
           have p148 : 0 ≤ ((rd l0_3 a1) : Int) := of_decide_eq_true (by first | (with_reducible assumption) )
           have q148 : (rd l0_3 a1) < (l0_2.length : Int) := of_decide_eq_true (by first | (with_reducible assumption) )
           obtain ⟨ad148, e148, hx148_0, hx148_1, hx148_2⟩ := at_T91 HR0_2.1 (rd l0_3 a1) p148 q148
           have hw148_2 := hx148_2
           have hw148_1 := hx148_1
           have hw148_0 := hx148_0
           cases e148
           replace hx148_0 := (HB.1.cell (World.block_lt_of_cell? w _ hx148_0)).trans hx148_0
           replace hx148_1 := (HB.1.cell (World.block_lt_of_cell? w _ hx148_1)).trans hx148_1
           replace hx148_2 := (HB.1.cell (World.block_lt_of_cell? w _ hx148_2)).trans hx148_2
           replace p148 := eq_true p148
           replace q148 := eq_true q148
           refine start_ (n := 19) (S := fun w' => w'.cell? ⟨gb139, 0, none⟩ = some (.int .i64 a0_0) ∧ w'.cell? ⟨gb139, 1, none⟩ = some (.int .i64 a0_1) ∧ w'.cell? ⟨gb139, 2, none⟩ = some (.slice (some ad148) l0_2.length c0_2) ∧ w'.cell? ⟨gb139, 3, none⟩ = some (.slice (some ad147) l0_3.length c0_3) ∧ w'.cell? (ad147.add (a1).toNat) = some (.int .i64 (rd l0_3 a1)) ∧ w'.cell? (ad148.add (((rd l0_3 a1)).toNat * 3)) = some (.int .i64 ((rd_T91 l0_2 (rd l0_3 a1)).f0)) ∧ w'.cell? ⟨(ad148.add (((rd l0_3 a1)).toNat * 3)).block, (ad148.add (((rd l0_3 a1)).toNat * 3)).off + 1, none⟩ = some (.int .i64 ((rd_T91 l0_2 (rd l0_3 a1)).f1)) ∧ w'.cell? ⟨(ad148.add (((rd l0_3 a1)).toNat * 3)).block, (ad148.add (((rd l0_3 a1)).toNat * 3)).off + 2, none⟩ = some (.int .i64 ((rd_T91 l0_2 (rd l0_3 a1)).f2))) (ds := []) #[false, false, false, false, false, false, false, false, false, false, false, false, false, false, false, false, false, false, false] (by kernel_rfl) rfl rfl ⟨(kC BK139.1 0).trans rfl, (kC BK139.1 1).trans rfl, (kC BK139.1 2).trans rfl, (kC BK139.1 3).trans rfl, ((HB.1.cell (World.block_lt_of_cell? w _ hw147_0)).trans hw147_0), ((HB.1.cell (World.block_lt_of_cell? w _ hw148_0)).trans hw148_0), ((HB.1.cell (World.block_lt_of_cell? w _ hw148_1)).trans hw148_1), ((HB.1.cell (World.block_lt_of_cell? w _ hw148_2)).trans hw148_2)⟩ (fun hHeld => ?_); refine with_tabW cipher_Code.tab10 cipher_Code.bits10 (fun HT_ HW_ => ?_)
           generalize w31.drew = w32 at BK139 HB hx147_0 hx148_0 hx148_1 hx148_2 hHeld ⊢
           refine pure_ (i := 1) (N := some 31) (v := ?_) (a' := ?_) #[false, true, false, false, false, false, false, false, false, false, false, false, false, false, false, false, false, false, false] rfl rfl (any_of HT_.1 (by kernel_rfl)) (fun _ _ _ h => h) (Or.inl ⟨by rfl, ?_⟩) ?_ ?_
           rotate_left
           ·intro w'
            go_simp
            with_reducible rfl
           rotate_left
           ·simp only [Act.put, List.setIfInBounds_toArray, List.set_cons_zero, List.set_cons_succ, i64_w, i32_w]
            rfl
           refine pure_ (i := 5) (N := some 35) (v := ?_) (a' := ?_) #[false, true, false, false, false, true, false, false, false, false, false, false, false, false, false, false, false, false, false] rfl rfl (any_of HT_.1 (by kernel_rfl)) (fun _ _ _ h => h) (Or.inl ⟨by rfl, ?_⟩) ?_ ?_
           rotate_left
           ·intro w'
            go_simp
            with_reducible rfl
           rotate_left
           ·simp only [Act.put, List.setIfInBounds_toArray, List.set_cons_zero, List.set_cons_succ, i64_w, i32_w]
            rfl
           refine pure_ (i := 6) (N := some 36) (v := ?_) (a' := ?_) #[false, true, false, false, false, true, true, false, false, false, false, false, false, false, false, false, false, false, false] rfl rfl (any_of HT_.1 (by kernel_rfl)) (fun _ _ _ h => h) (Or.inl ⟨by rfl, ?_⟩) ?_ ?_
           rotate_left
           ·intro w'
            go_simp
            with_reducible rfl
           rotate_left
           ·simp only [Act.put, List.setIfInBounds_toArray, List.set_cons_zero, List.set_cons_succ, i64_w, i32_w]
            rfl
           refine pure_ (i := 8) (N := some 38) (v := ?_) (a' := ?_) #[false, true, false, false, false, true, true, false, true, false, false, false, false, false, false, false, false, false, false] rfl rfl (any_of HT_.1 (by kernel_rfl)) (fun _ _ _ h => h) (Or.inl ⟨by rfl, ?_⟩) ?_ ?_
           rotate_left
           ·intro w'
            go_simp
            with_reducible rfl
           rotate_left
           ·simp only [Act.put, List.setIfInBounds_toArray, List.set_cons_zero, List.set_cons_succ, i64_w, i32_w]
            rfl
           refine pure_ (i := 10) (N := some 40) (v := ?_) (a' := ?_) #[false, true, false, false, false, true, true, false, true, false, true, false, false, false, false, false, false, false, false] rfl rfl (any_of HT_.1 (by kernel_rfl)) (fun _ _ _ h => h) (Or.inl ⟨by rfl, ?_⟩) ?_ ?_
           rotate_left
           ·intro w'
            go_simp
            with_reducible rfl
           rotate_left
           ·simp only [Act.put, List.setIfInBounds_toArray, List.set_cons_zero, List.set_cons_succ, i64_w, i32_w]
            rfl
           refine pure_ (i := 15) (N := some 45) (v := ?_) (a' := ?_) #[false, true, false, false, false, true, true, false, true, false, true, false, false, false, false, true, false, false, false] rfl rfl (any_of HT_.1 (by kernel_rfl)) (fun _ _ _ h => h) (Or.inl ⟨by rfl, ?_⟩) ?_ ?_
           rotate_left
           ·intro w'
            go_simp
            with_reducible rfl
           rotate_left
           ·simp only [Act.put, List.setIfInBounds_toArray, List.set_cons_zero, List.set_cons_succ, i64_w, i32_w]
            rfl
           refine take_ (i := 0) (N := some 30) (v := ?_) (a' := ?_) #[true, true, false, false, false, true, true, false, true, false, true, false, false, false, false, true, false, false, false] rfl rfl (take_ofW HT_.1 HW_.1 (by kernel_rfl)) (fun _ _ _ h => h) (Or.inl ⟨by rfl, ?_⟩) hHeld ?_ ?_
           rotate_left
           ·rintro w' ⟨s0, s1, s2, s3, s4, s5, s6, s7⟩
            go_simp
            with_reducible rfl
           rotate_left
           ·simp only [Act.put, List.setIfInBounds_toArray, List.set_cons_zero, List.set_cons_succ, i64_w, i32_w]
            rfl
           refine take_ (i := 4) (N := some 34) (v := ?_) (a' := ?_) #[true, true, false, false, true, true, true, false, true, false, true, false, false, false, false, true, false, false, false] rfl rfl (take_ofW HT_.1 HW_.1 (by kernel_rfl)) (fun _ _ _ h => h) (Or.inl ⟨by rfl, ?_⟩) hHeld ?_ ?_
           rotate_left
           ·rintro w' ⟨s0, s1, s2, s3, s4, s5, s6, s7⟩
            go_simp
            with_reducible rfl
           rotate_left
           ·simp only [Act.put, List.setIfInBounds_toArray, List.set_cons_zero, List.set_cons_succ, i64_w, i32_w]
            rfl
           refine take_ (i := 7) (N := some 37) (v := ?_) (a' := ?_) #[true, true, false, false, true, true, true, true, true, false, true, false, false, false, false, true, false, false, false] rfl rfl (take_ofW HT_.1 HW_.1 (by kernel_rfl)) (fun _ _ _ h => h) (Or.inl ⟨by rfl, ?_⟩) hHeld ?_ ?_
           rotate_left
           ·rintro w' ⟨s0, s1, s2, s3, s4, s5, s6, s7⟩
            go_simp
            with_reducible rfl
           rotate_left
           ·simp only [Act.put, List.setIfInBounds_toArray, List.set_cons_zero, List.set_cons_succ, i64_w, i32_w]
            rfl
           refine take_ (i := 9) (N := some 39) (v := ?_) (a' := ?_) #[true, true, false, false, true, true, true, true, true, true, true, false, false, false, false, true, false, false, false] rfl rfl (take_ofW HT_.1 HW_.1 (by kernel_rfl)) (fun _ _ _ h => h) (Or.inl ⟨by rfl, ?_⟩) hHeld ?_ ?_
           rotate_left
           ·rintro w' ⟨s0, s1, s2, s3, s4, s5, s6, s7⟩
            go_simp
            with_reducible rfl
           rotate_left
           ·simp only [Act.put, List.setIfInBounds_toArray, List.set_cons_zero, List.set_cons_succ, i64_w, i32_w]
            rfl
           refine pure_ (i := 11) (N := some 41) (v := ?_) (a' := ?_) #[true, true, false, false, true, true, true, true, true, true, true, true, false, false, false, true, false, false, false] rfl rfl (any_of HT_.1 (by kernel_rfl)) (fun _ _ _ h => h) (Or.inl ⟨by rfl, ?_⟩) ?_ ?_
           rotate_left
           ·intro w'
            go_simp
            with_reducible rfl
           rotate_left
           ·simp only [Act.put, List.setIfInBounds_toArray, List.set_cons_zero, List.set_cons_succ, i64_w, i32_w]
            rfl
           refine take_ (i := 12) (N := some 42) (v := ?_) (a' := ?_) #[true, true, false, false, true, true, true, true, true, true, true, true, true, false, false, true, false, false, false] rfl rfl (take_ofW HT_.1 HW_.1 (by kernel_rfl)) (fun _ _ _ h => h) (Or.inl ⟨by rfl, ?_⟩) hHeld ?_ ?_
           rotate_left
           ·rintro w' ⟨s0, s1, s2, s3, s4, s5, s6, s7⟩
            go_simp
            with_reducible rfl
           rotate_left
           ·simp only [Act.put, List.setIfInBounds_toArray, List.set_cons_zero, List.set_cons_succ, i64_w, i32_w]
            rfl
           refine pure_ (i := 13) (N := some 43) (v := ?_) (a' := ?_) #[true, true, false, false, true, true, true, true, true, true, true, true, true, true, false, true, false, false, false] rfl rfl (any_of HT_.1 (by kernel_rfl)) (fun _ _ _ h => h) (Or.inl ⟨by rfl, ?_⟩) ?_ ?_
           rotate_left
           ·intro w'
            go_simp
            with_reducible rfl
           rotate_left
           ·simp only [Act.put, List.setIfInBounds_toArray, List.set_cons_zero, List.set_cons_succ, i64_w, i32_w]
            rfl
           refine take_ (i := 14) (N := some 44) (v := ?_) (a' := ?_) #[true, true, false, false, true, true, true, true, true, true, true, true, true, true, true, true, false, false, false] rfl rfl (take_ofW HT_.1 HW_.1 (by kernel_rfl)) (fun _ _ _ h => h) (Or.inl ⟨by rfl, ?_⟩) hHeld ?_ ?_
           rotate_left
           ·rintro w' ⟨s0, s1, s2, s3, s4, s5, s6, s7⟩
            go_simp
            with_reducible rfl
           rotate_left
           ·simp only [Act.put, List.setIfInBounds_toArray, List.set_cons_zero, List.set_cons_succ, i64_w, i32_w]
            rfl
           refine one_ (i := 2) (N := some 32) #[true, true, true, false, true, true, true, true, true, true, true, true, true, true, true, true, false, false, false] rfl rfl (one_of HT_.1 (by kernel_rfl)) (by decide) (fun K hK => ?_)
           refine goes_ Try.func58 (by kernel_rfl) rfl #[.agg #[.int .i64 a0_0, .int .i64 a0_1, .slice (some ad148) l0_2.length c0_2, .slice (some ad147) l0_3.length c0_3], .int .i64 a1] (by rfl) rfl rfl (by (try simp only [List.map_toArray, List.map_cons, List.map_nil]); first | rfl ) ?_
           with_reducible refine (cipher_Book_indicator.calls a0_0 a0_1 _ _ l0_2 _ _ l0_3 a1 t143 _ ?side1 ?side2 ?side3 ?side4 A16.1).mono ?_
           (case side1 => repeat (first | exact (Kd.C_below HR0_2.1 HB.1) ))
           (case side2 => exact HC0_2.1)
           (case side3 => repeat (first | exact (Kd.C_below HR0_3.1 HB.1) ))
           (case side4 => exact HC0_3.1)
           rintro e w33 ⟨rfl, hb⟩
           refine ⟨_, rfl, ?_⟩
           have n0_ := Sd.mk (kB (g := gb139) (o := .cells #[.int .i64 a0_0, .int .i64 a0_1, .slice (some ad148) l0_2.length c0_2, .slice (some ad147) l0_3.length c0_3] 32 (0, 0)) (by (with_reducible repeat (fail)); exact BK139.1) hb)
           have n1_ := Sd.mk (bT (by repeat (first | (with_reducible first | exact HB.1 ) )) hb)
           clear BK139
           clear HB
           have BK139 := n0_
           have HB := n1_
           clear n0_ n1_
           (try clear hb)
           refine hK.out _ _ ⟨(kC BK139.1 0).trans rfl, (kC BK139.1 1).trans rfl, (kC BK139.1 2).trans rfl, (kC BK139.1 3).trans rfl, ((HB.1.cell (World.block_lt_of_cell? w _ hw147_0)).trans hw147_0), ((HB.1.cell (World.block_lt_of_cell? w _ hw148_0)).trans hw148_0), ((HB.1.cell (World.block_lt_of_cell? w _ hw148_1)).trans hw148_1), ((HB.1.cell (World.block_lt_of_cell? w _ hw148_2)).trans hw148_2)⟩ (fun hHeld => ?_)
           clear hK K
           refine norm_ (a' := ?_) ?_ ?_
           rotate_left
           ·show Act.put _ (some 32) _ = _
            simp only [Act.put, List.setIfInBounds_toArray, List.set_cons_zero, List.set_cons_succ, i64_w, i32_w]
            rfl
           refine join_ (σ := Value × Value) 2 #[true, true, true, true, true, true, true, true, true, true, true, true, true, true, true, true, true, false, false] (fun s_ => [(33, s_.1), (46, s_.2)]) (fun s_ w' => (w'.cell? ⟨gb139, 0, none⟩ = some (.int .i64 a0_0) ∧ w'.cell? ⟨gb139, 1, none⟩ = some (.int .i64 a0_1) ∧ w'.cell? ⟨gb139, 2, none⟩ = some (.slice (some ad148) l0_2.length c0_2) ∧ w'.cell? ⟨gb139, 3, none⟩ = some (.slice (some ad147) l0_3.length c0_3) ∧ w'.cell? (ad147.add (a1).toNat) = some (.int .i64 (rd l0_3 a1)) ∧ w'.cell? (ad148.add (((rd l0_3 a1)).toNat * 3)) = some (.int .i64 ((rd_T91 l0_2 (rd l0_3 a1)).f0)) ∧ w'.cell? ⟨(ad148.add (((rd l0_3 a1)).toNat * 3)).block, (ad148.add (((rd l0_3 a1)).toNat * 3)).off + 1, none⟩ = some (.int .i64 ((rd_T91 l0_2 (rd l0_3 a1)).f1)) ∧ w'.cell? ⟨(ad148.add (((rd l0_3 a1)).toNat * 3)).block, (ad148.add (((rd l0_3 a1)).toNat * 3)).off + 2, none⟩ = some (.int .i64 ((rd_T91 l0_2 (rd l0_3 a1)).f2))) ∧ (Kd.R (Kd.int .i64) 3 w' w.heap.size (fun k_ => some k_ ≠ (s_.2 : Value).ownBlock) s_.1 y144) ∧ (Kd.R (Kd.int .i64) 3 w' w.heap.size (fun k_ => some k_ ≠ (s_.1 : Value).ownBlock) s_.2 t149) ∧ (w'.heap[gb139]? = some (.cells #[.int .i64 a0_0, .int .i64 a0_1, .slice (some ad148) l0_2.length c0_2, .slice (some ad147) l0_3.length c0_3] 32 (0, 0))) ∧ (Below w.heap.size w w')) ?_ ?_
           rotate_left
           ·intro hCont
            refine two_ (i := 3) (j := 16) (Ni := some 33) (Nj := some 46) #[true, true, true, true, true, true, true, true, true, true, true, true, true, true, true, true, false, false, false] #[true, true, true, false, true, true, true, true, true, true, true, true, true, true, true, true, true, false, false] rfl rfl rfl rfl (two_of HT_.1 (by kernel_rfl)) (by decide) (by decide) (fun K hK => ?_) (fun K hK => ?_)
            ·skip
             refine Kd.R_lit_step (Kd.int .i64) _ 3 ?hg (N := 33) ?hd (xs := ([t143] : List Int)) (inner := [.int .i64 t143]) (ok := fun _ => True) (okp := fun _ => True) ?hr ?hp (fun _ hk => hk) trivial (Below.refl _ _) (Nat.le_refl _) (by simp) ?_; (case hd => rfl); (case hg => rfl); (case hr => first | (go_simp; done) ); (case hp => exact (Reps.one (show Kd.M (Kd.int .i64) _ _ _ t143 [.int .i64 t143] from rfl) (Reps.none _ _)))
             intro v145 w34 ho35 hb hg_ hnew_
             clear hg_ hnew_
             (rw [← Ny144.1] at ho35 )
             have n0_ := Sd.mk (Kd.R_lower ho35 (bZ (by repeat (first | (with_reducible first | exact HB.1 ) ))))
             have n1_ := Sd.mk (kB (g := gb139) (o := .cells #[.int .i64 a0_0, .int .i64 a0_1, .slice (some ad148) l0_2.length c0_2, .slice (some ad147) l0_3.length c0_3] 32 (0, 0)) (by (with_reducible repeat (fail)); exact BK139.1) hb)
             have n2_ := Sd.mk (bT (by repeat (first | (with_reducible first | exact HB.1 ) )) hb)
             clear BK139
             clear HB
             have HO146 := n0_
             have BK139 := n1_
             have HB := n2_
             clear n0_ n1_ n2_
             clear hb ho35
             refine hK.out _ _ ⟨(kC BK139.1 0).trans rfl, (kC BK139.1 1).trans rfl, (kC BK139.1 2).trans rfl, (kC BK139.1 3).trans rfl, ((HB.1.cell (World.block_lt_of_cell? w _ hw147_0)).trans hw147_0), ((HB.1.cell (World.block_lt_of_cell? w _ hw148_0)).trans hw148_0), ((HB.1.cell (World.block_lt_of_cell? w _ hw148_1)).trans hw148_1), ((HB.1.cell (World.block_lt_of_cell? w _ hw148_2)).trans hw148_2)⟩ (fun hHeld => ?_)
             clear hK K
             refine norm_ (a' := ?_) ?_ ?_
             rotate_left
             ·show Act.put _ (some 33) _ = _
              simp only [Act.put, List.setIfInBounds_toArray, List.set_cons_zero, List.set_cons_succ, i64_w, i32_w]
              rfl
             refine one_ (i := 16) (N := some 46) #[true, true, true, true, true, true, true, true, true, true, true, true, true, true, true, true, true, false, false] rfl rfl (one_of HT_.1 (by kernel_rfl)) (by decide) (fun K hK => ?_)
             refine goes_ Try.func59 (by kernel_rfl) rfl #[.agg #[.int .i64 a0_0, .int .i64 a0_1, .slice (some ad148) l0_2.length c0_2, .slice (some ad147) l0_3.length c0_3], .agg #[.func (.func 60) #[] #[]], .agg #[.int .i64 ((rd_T91 l0_2 (rd l0_3 a1)).f0), .int .i64 ((rd_T91 l0_2 (rd l0_3 a1)).f1), .int .i64 ((rd_T91 l0_2 (rd l0_3 a1)).f2)], .slice A2 l2.length c2] (by rfl) rfl rfl (by (try simp only [List.map_toArray, List.map_cons, List.map_nil]); first | rfl ) ?_
             with_reducible refine (cipher_turned_code.calls a0_0 a0_1 _ _ l0_2 _ _ l0_3  ((rd_T91 l0_2 (rd l0_3 a1)).f0) ((rd_T91 l0_2 (rd l0_3 a1)).f1) ((rd_T91 l0_2 (rd l0_3 a1)).f2) _ _ l2 t149 _ ?side1 ?side2 ?side3 ?side4 ?side5 ?side6 A21.1).mono ?_
             (case side1 => repeat (first | exact (Kd.C_below HR0_2.1 HB.1) ))
             (case side2 => exact HC0_2.1)
             (case side3 => repeat (first | exact (Kd.C_below HR0_3.1 HB.1) ))
             (case side4 => exact HC0_3.1)
             (case side5 => repeat (first | exact (Kd.C_below HR2.1 HB.1) ))
             (case side6 => exact HC2.1)
             rintro e w36 ⟨v150, rfl, ho0, hb⟩
             refine ⟨_, rfl, ?_⟩
             have n0_ := Sd.mk (Kd.R_elder' (by (with_reducible repeat (fail)); exact HO146.1) (Kd.R_base ho0) hb)
             have n1_ := Sd.mk (Kd.R_lower (Kd.R_new' ho0 (Kd.R_lt (by (with_reducible repeat (fail)); exact HO146.1))) (bZ (by repeat (first | (with_reducible first | exact HB.1 ) ))))
             have n2_ := Sd.mk (kB (g := gb139) (o := .cells #[.int .i64 a0_0, .int .i64 a0_1, .slice (some ad148) l0_2.length c0_2, .slice (some ad147) l0_3.length c0_3] 32 (0, 0)) (by (with_reducible repeat (fail)); exact BK139.1) hb)
             have n3_ := Sd.mk (bT (by repeat (first | (with_reducible first | exact HB.1 ) )) hb)
             clear HO146
             clear BK139
             clear HB
             have HO146 := n0_
             have HO151 := n1_
             have BK139 := n2_
             have HB := n3_
             clear n0_ n1_ n2_ n3_
             (try clear hb)
             (try clear ho0)
             refine hK.out _ _ ⟨(kC BK139.1 0).trans rfl, (kC BK139.1 1).trans rfl, (kC BK139.1 2).trans rfl, (kC BK139.1 3).trans rfl, ((HB.1.cell (World.block_lt_of_cell? w _ hw147_0)).trans hw147_0), ((HB.1.cell (World.block_lt_of_cell? w _ hw148_0)).trans hw148_0), ((HB.1.cell (World.block_lt_of_cell? w _ hw148_1)).trans hw148_1), ((HB.1.cell (World.block_lt_of_cell? w _ hw148_2)).trans hw148_2)⟩ (fun hHeld => ?_)
             clear hK K
             refine norm_ (a' := ?_) ?_ ?_
             rotate_left
             ·show Act.put _ (some 46) _ = _
              simp only [Act.put, List.setIfInBounds_toArray, List.set_cons_zero, List.set_cons_succ, i64_w, i32_w]
              rfl
             exact norm_ (by simp only [putAll, Act.put, List.setIfInBounds_toArray, List.set_cons_zero, List.set_cons_succ]) (hCont (v145, v150) _ ⟨hHeld, (by (with_reducible repeat (fail)); exact Kd.R_mono HO146.1 (fun _ hk => hk.2)), (by (with_reducible repeat (fail)); exact Kd.R_mono HO151.1 (fun _ hk => hk.2)), (by (with_reducible repeat (fail)); exact BK139.1), (by repeat (first | (with_reducible first | exact HB.1 ) ))⟩)
            ·skip
             refine goes_ Try.func59 (by kernel_rfl) rfl #[.agg #[.int .i64 a0_0, .int .i64 a0_1, .slice (some ad148) l0_2.length c0_2, .slice (some ad147) l0_3.length c0_3], .agg #[.func (.func 60) #[] #[]], .agg #[.int .i64 ((rd_T91 l0_2 (rd l0_3 a1)).f0), .int .i64 ((rd_T91 l0_2 (rd l0_3 a1)).f1), .int .i64 ((rd_T91 l0_2 (rd l0_3 a1)).f2)], .slice A2 l2.length c2] (by rfl) rfl rfl (by (try simp only [List.map_toArray, List.map_cons, List.map_nil]); first | rfl ) ?_
             with_reducible refine (cipher_turned_code.calls a0_0 a0_1 _ _ l0_2 _ _ l0_3  ((rd_T91 l0_2 (rd l0_3 a1)).f0) ((rd_T91 l0_2 (rd l0_3 a1)).f1) ((rd_T91 l0_2 (rd l0_3 a1)).f2) _ _ l2 t149 _ ?side1 ?side2 ?side3 ?side4 ?side5 ?side6 A21.1).mono ?_
             (case side1 => repeat (first | exact (Kd.C_below HR0_2.1 HB.1) ))
             (case side2 => exact HC0_2.1)
             (case side3 => repeat (first | exact (Kd.C_below HR0_3.1 HB.1) ))
             (case side4 => exact HC0_3.1)
             (case side5 => repeat (first | exact (Kd.C_below HR2.1 HB.1) ))
             (case side6 => exact HC2.1)
             rintro e w34 ⟨v150, rfl, ho0, hb⟩
             refine ⟨_, rfl, ?_⟩
             have n0_ := Sd.mk (Kd.R_lower ho0 (bZ (by repeat (first | (with_reducible first | exact HB.1 ) ))))
             have n1_ := Sd.mk (kB (g := gb139) (o := .cells #[.int .i64 a0_0, .int .i64 a0_1, .slice (some ad148) l0_2.length c0_2, .slice (some ad147) l0_3.length c0_3] 32 (0, 0)) (by (with_reducible repeat (fail)); exact BK139.1) hb)
             have n2_ := Sd.mk (bT (by repeat (first | (with_reducible first | exact HB.1 ) )) hb)
             clear BK139
             clear HB
             have HO151 := n0_
             have BK139 := n1_
             have HB := n2_
             clear n0_ n1_ n2_
             (try clear hb)
             (try clear ho0)
             refine hK.out _ _ ⟨(kC BK139.1 0).trans rfl, (kC BK139.1 1).trans rfl, (kC BK139.1 2).trans rfl, (kC BK139.1 3).trans rfl, ((HB.1.cell (World.block_lt_of_cell? w _ hw147_0)).trans hw147_0), ((HB.1.cell (World.block_lt_of_cell? w _ hw148_0)).trans hw148_0), ((HB.1.cell (World.block_lt_of_cell? w _ hw148_1)).trans hw148_1), ((HB.1.cell (World.block_lt_of_cell? w _ hw148_2)).trans hw148_2)⟩ (fun hHeld => ?_)
             clear hK K
             refine norm_ (a' := ?_) ?_ ?_
             rotate_left
             ·show Act.put _ (some 46) _ = _
              simp only [Act.put, List.setIfInBounds_toArray, List.set_cons_zero, List.set_cons_succ, i64_w, i32_w]
              rfl
             refine one_ (i := 3) (N := some 33) #[true, true, true, true, true, true, true, true, true, true, true, true, true, true, true, true, true, false, false] rfl rfl (one_of HT_.1 (by kernel_rfl)) (by decide) (fun K hK => ?_)
             refine Kd.R_lit_step (Kd.int .i64) _ 3 ?hg (N := 33) ?hd (xs := ([t143] : List Int)) (inner := [.int .i64 t143]) (ok := fun _ => True) (okp := fun _ => True) ?hr ?hp (fun _ hk => hk) trivial (Below.refl _ _) (Nat.le_refl _) (by simp) ?_; (case hd => rfl); (case hg => rfl); (case hr => first | (go_simp; done) ); (case hp => exact (Reps.one (show Kd.M (Kd.int .i64) _ _ _ t143 [.int .i64 t143] from rfl) (Reps.none _ _)))
             intro v145 w35 ho36 hb hg_ hnew_
             clear hg_ hnew_
             (rw [← Ny144.1] at ho36 )
             have n0_ := Sd.mk (Kd.R_elder' (by (with_reducible repeat (fail)); exact HO151.1) (Kd.R_base ho36) hb)
             have n1_ := Sd.mk (Kd.R_lower (Kd.R_new' ho36 (Kd.R_lt (by (with_reducible repeat (fail)); exact HO151.1))) (bZ (by repeat (first | (with_reducible first | exact HB.1 ) ))))
             have n2_ := Sd.mk (kB (g := gb139) (o := .cells #[.int .i64 a0_0, .int .i64 a0_1, .slice (some ad148) l0_2.length c0_2, .slice (some ad147) l0_3.length c0_3] 32 (0, 0)) (by (with_reducible repeat (fail)); exact BK139.1) hb)
             have n3_ := Sd.mk (bT (by repeat (first | (with_reducible first | exact HB.1 ) )) hb)
             clear HO151
             clear BK139
             clear HB
             have HO151 := n0_
             have HO146 := n1_
             have BK139 := n2_
             have HB := n3_
             clear n0_ n1_ n2_ n3_
             clear hb ho36
             refine hK.out _ _ ⟨(kC BK139.1 0).trans rfl, (kC BK139.1 1).trans rfl, (kC BK139.1 2).trans rfl, (kC BK139.1 3).trans rfl, ((HB.1.cell (World.block_lt_of_cell? w _ hw147_0)).trans hw147_0), ((HB.1.cell (World.block_lt_of_cell? w _ hw148_0)).trans hw148_0), ((HB.1.cell (World.block_lt_of_cell? w _ hw148_1)).trans hw148_1), ((HB.1.cell (World.block_lt_of_cell? w _ hw148_2)).trans hw148_2)⟩ (fun hHeld => ?_)
             clear hK K
             refine norm_ (a' := ?_) ?_ ?_
             rotate_left
             ·show Act.put _ (some 33) _ = _
              simp only [Act.put, List.setIfInBounds_toArray, List.set_cons_zero, List.set_cons_succ, i64_w, i32_w]
              rfl
             exact norm_ (by simp only [putAll, Act.put, List.setIfInBounds_toArray, List.set_cons_zero, List.set_cons_succ]) (hCont (v145, v150) _ ⟨hHeld, (by (with_reducible repeat (fail)); exact Kd.R_mono HO146.1 (fun _ hk => hk.2)), (by (with_reducible repeat (fail)); exact Kd.R_mono HO151.1 (fun _ hk => hk.2)), (by (with_reducible repeat (fail)); exact BK139.1), (by repeat (first | (with_reducible first | exact HB.1 ) ))⟩)
           rintro ⟨v145, v150⟩ w37 ⟨hS_, h0_, h1_, h2_, h3_⟩
           have n0_ : Sd (Kd.R (Kd.int .i64) 3 w37 w.heap.size (fun k_ => some k_ ≠ (v150 : Value).ownBlock) v145 y144) := ⟨h0_⟩
           have n1_ : Sd (Kd.R (Kd.int .i64) 3 w37 w.heap.size (fun k_ => some k_ ≠ (v145 : Value).ownBlock) v150 t149) := ⟨h1_⟩
           have n2_ : Sd (w37.heap[gb139]? = some (.cells #[.int .i64 a0_0, .int .i64 a0_1, .slice (some ad148) l0_2.length c0_2, .slice (some ad147) l0_3.length c0_3] 32 (0, 0))) := ⟨h2_⟩
           have n3_ : Sd (Below w.heap.size w w37) := ⟨h3_⟩
           clear BK139
           clear HB
           clear h0_ h1_ h2_ h3_
           have HO146 := n0_
           have HO151 := n1_
           have BK139 := n2_
           have HB := n3_
           clear n0_ n1_ n2_ n3_
           have hHeld : w37.cell? ⟨gb139, 0, none⟩ = some (.int .i64 a0_0) ∧ w37.cell? ⟨gb139, 1, none⟩ = some (.int .i64 a0_1) ∧ w37.cell? ⟨gb139, 2, none⟩ = some (.slice (some ad148) l0_2.length c0_2) ∧ w37.cell? ⟨gb139, 3, none⟩ = some (.slice (some ad147) l0_3.length c0_3) ∧ w37.cell? (ad147.add (a1).toNat) = some (.int .i64 (rd l0_3 a1)) ∧ w37.cell? (ad148.add (((rd l0_3 a1)).toNat * 3)) = some (.int .i64 ((rd_T91 l0_2 (rd l0_3 a1)).f0)) ∧ w37.cell? ⟨(ad148.add (((rd l0_3 a1)).toNat * 3)).block, (ad148.add (((rd l0_3 a1)).toNat * 3)).off + 1, none⟩ = some (.int .i64 ((rd_T91 l0_2 (rd l0_3 a1)).f1)) ∧ w37.cell? ⟨(ad148.add (((rd l0_3 a1)).toNat * 3)).block, (ad148.add (((rd l0_3 a1)).toNat * 3)).off + 2, none⟩ = some (.int .i64 ((rd_T91 l0_2 (rd l0_3 a1)).f2)) := hS_
           obtain ⟨Ao39, co39, eo39⟩ := Kd.R_slice HO151.1
           (subst eo39 )
           refine norm_ (a' := ?_) ?_ ?_
           rotate_left
           ·simp only [putAll, Act.put, List.setIfInBounds_toArray, List.set_cons_zero, List.set_cons_succ]
            rfl
           refine one_ (i := 17) (N := some 47) #[true, true, true, true, true, true, true, true, true, true, true, true, true, true, true, true, true, true, false] rfl rfl (one_of HT_.1 (by kernel_rfl)) (by decide) (fun K hK => ?_)
           refine Kd.R_append_rows_step (Kd.int .i64) (w0 := w) w.heap.size (by rfl) (.tmp 33) (.tmp 46) 23 3 (.int .i64 0) 8 rfl Try.underlying23 info3 rfl (by decide) (by omega) v145 y144 t149 _ _ _ (fun k_ => some k_ ≠ (.slice Ao39 t149.length co39 : Value).ownBlock) (fun _ => False) rfl rfl ?aO ?aR (fun _ _ h => h) (fun _ h => h.elim) ?aF ?aB ?aS ?aL ?_
           (case aR => repeat (first | exact (Kd.R_reads' HO151.1).2.2 ))
           (case aB => exact (by repeat (first | (with_reducible first | exact HB.1 ) )))
           (case aF => exact (fun k_ hk => Kd.fresh' (Kd.R_lt (by (with_reducible repeat (fail)); exact HO151.1)) k_ hk))
           (case aO => exact (by (with_reducible repeat (fail)); exact HO146.1))
           (case aS => exact (bZ (by repeat (first | (with_reducible first | exact HB.1 ) ))))
           (case aL => have := LMc22.1; omega)
           intro v153 w38 ho hb hg hat
           rw [← Ny152.1] at ho
           have n0_ := Sd.mk (blk_grown (g := gb139) (o := .cells #[.int .i64 a0_0, .int .i64 a0_1, .slice (some ad148) l0_2.length c0_2, .slice (some ad147) l0_3.length c0_3] 32 (0, 0)) (by (with_reducible repeat (fail)); exact BK139.1) hg (Kd.R_ne HO146.1 BK139.1 (by decide)))
           have n1_ := Sd.mk (Kd.R_after (ok := (fun _ => True)) (by (with_reducible repeat (fail)); exact Kd.R_mono HO151.1 (fun _ hk => ⟨trivial, hk⟩)) hg hat)
           have n2_ := Sd.mk (hb)
           have n3_ := Sd.mk (ho)
           clear BK139
           clear HO151
           clear HB
           clear HO146
           have BK139 := n0_
           have HO151 := n1_
           have HB := n2_
           have HO154 := n3_
           clear n0_ n1_ n2_ n3_
           clear ho hb hg hat
           refine hK.out _ _ ⟨(kC BK139.1 0).trans rfl, (kC BK139.1 1).trans rfl, (kC BK139.1 2).trans rfl, (kC BK139.1 3).trans rfl, ((HB.1.cell (World.block_lt_of_cell? w _ hw147_0)).trans hw147_0), ((HB.1.cell (World.block_lt_of_cell? w _ hw148_0)).trans hw148_0), ((HB.1.cell (World.block_lt_of_cell? w _ hw148_1)).trans hw148_1), ((HB.1.cell (World.block_lt_of_cell? w _ hw148_2)).trans hw148_2)⟩ (fun hHeld => ?_)
           clear hK K
           refine norm_ (a' := ?_) ?_ ?_
           rotate_left
           ·show Act.put _ (some 47) _ = _
            simp only [Act.put, List.setIfInBounds_toArray, List.set_cons_zero, List.set_cons_succ, i64_w, i32_w]
            rfl
           refine pure_ (i := 18) (N := some 9) (v := ?_) (a' := ?_) #[true, true, true, true, true, true, true, true, true, true, true, true, true, true, true, true, true, true, true] rfl rfl (any_of HT_.1 (by kernel_rfl)) (fun _ _ _ h => h) (Or.inl ⟨by rfl, ?_⟩) ?_ ?_
           rotate_left
           ·intro w'
            go_simp
            with_reducible rfl
           rotate_left
           ·simp only [Act.put, List.setIfInBounds_toArray, List.set_cons_zero, List.set_cons_succ, i64_w, i32_w]
            rfl
           refine done_ (done_of HT_.1 (by kernel_rfl)) ?_
           obtain ⟨Ao41, co41, eo41⟩ := Kd.R_slice HO154.1
           subst eo41
           try go_wp2_with (first | ((with_reducible refine gate_callee (f := 61) rfl ?_); refine goesL_ (some 51) rfl rfl Try.func61 (by kernel_rfl) rfl #[.agg #[.int .i64 a0_0, .int .i64 a0_1, .slice (some ad148) l0_2.length c0_2, .slice (some ad147) l0_3.length c0_3], .slice Ao41 y152.length co41] rfl (by (try simp only [List.map_toArray, List.map_cons, List.map_nil]); first | rfl ) ?_; (with_reducible refine (cipher_Book_check.calls k a0_0 a0_1 _ _ l0_2 _ _ l0_3 _ _ y152 t155 _ ?side1 ?side2 ?side3 ?side4 ?side5 ?side6 A23.1).mono ?_); (case side1 => repeat (first | exact (Kd.C_below HR0_2.1 HB.1) )); (case side2 => exact HC0_2.1); (case side3 => repeat (first | exact (Kd.C_below HR0_3.1 HB.1) )); (case side4 => exact HC0_3.1); (case side5 => repeat (first | exact (Kd.R_reads' HO154.1).2.2 )); (case side6 => exact (Kd.R_reads' HO154.1).2.1); rintro e w42 ⟨rfl, hb⟩; refine ⟨_, rfl, ?_⟩; replace HO151 := Sd.mk (Kd.R_below (by (with_reducible repeat (fail)); exact HO151.1) hb); replace HO154 := Sd.mk (Kd.R_below (by (with_reducible repeat (fail)); exact HO154.1) hb); replace BK139 := Sd.mk (kB (g := gb139) (o := .cells #[.int .i64 a0_0, .int .i64 a0_1, .slice (some ad148) l0_2.length c0_2, .slice (some ad147) l0_3.length c0_3] 32 (0, 0)) (by (with_reducible repeat (fail)); exact BK139.1) hb); replace HB := Sd.mk (bT (by repeat (first | (with_reducible first | exact HB.1 ) )) hb); (try clear hb)) | ((with_reducible refine gate_builtin (b := .append) (xs := #[.tmp 48, .tmp 52]) rfl ?_); at_builtin; refine Kd.R_append (Kd.int .i64) (w0 := w) w.heap.size rfl (.tmp 48) (.tmp 52) 23 3 (.int .i64 0) 8 rfl Try.underlying23 info3 rfl (by decide) (by omega) (.slice Ao41 y152.length co41) y152 t155 [.int .i64 t155] (fun k_ => some k_ ≠ (.slice Ao39 t149.length co39 : Value).ownBlock) (fun _ => False) rfl rfl ?aP (fun _ hk => hk.elim) ?aF ?aO ?aB ?aS ?aL ?_; (case aP => exact rfl); (case aB => exact (by repeat (first | (with_reducible first | exact HB.1 ) ))); (case aF => exact (fun k_ hk => Kd.fresh' (Kd.R_lt (by (with_reducible repeat (fail)); exact HO151.1)) k_ hk)); (case aO => exact (by (with_reducible repeat (fail)); exact HO154.1)); (case aS => exact (bZ (by repeat (first | (with_reducible first | exact HB.1 ) )))); (case aL => have := LMc24.1; omega); intro v157 w43 ho hb hg hat; rw [← Ny156.1] at ho; replace BK139 := Sd.mk (blk_grown (g := gb139) (o := .cells #[.int .i64 a0_0, .int .i64 a0_1, .slice (some ad148) l0_2.length c0_2, .slice (some ad147) l0_3.length c0_3] 32 (0, 0)) (by (with_reducible repeat (fail)); exact BK139.1) hg (Kd.R_ne HO154.1 BK139.1 (by decide))); replace HO151 := Sd.mk (Kd.R_after (ok := (fun _ => True)) (by (with_reducible repeat (fail)); exact HO151.1) hg hat); replace HB := Sd.mk (hb); have HO158 := Sd.mk (ho); clear HO154; clear ho hb hg hat))
           go_ret2
           exact ⟨_, by first | rfl , by (with_reducible repeat (fail)); exact Kd.R_mono HO158.1 (fun _ hk => trivial), by repeat (first | (with_reducible first | exact HB.1 ) )⟩
          ·rw [if_neg c24] at H
           exact absurd H (by simp)
         ·rw [if_neg c22] at H
          exact absurd H (by simp)
        ·rw [if_neg c20] at H
         exact absurd H (by simp)
       ·rw [if_neg c19] at H
        exact absurd H (by simp)
      ·rw [if_neg c18] at H
       exact absurd H (by simp)
     ·rw [if_neg c17] at H
      exact absurd H (by simp)
    ·replace c15 := Bool.eq_false_iff.mpr c15
     subst c15
     rw [if_neg (show ¬ (false = true) by decide)] at H
     simp only [Option.some.injEq, Prod.mk.injEq] at H
     obtain ⟨rfl, rfl⟩ := H
     go_enter Try.func20, Try.ntmps20
     go_wp2_with (first | ((with_reducible refine gD (N := 3) rfl ?_); refine xE ?hg (N := 3) ?hd (cs := #[.int .i64 a0_0, .int .i64 a0_1, .slice A0_2 l0_2.length c0_2, .slice A0_3 l0_3.length c0_3]) (t := 32) ?hr ?_; (case hd => rfl); (case hg => rfl); (case hr => first | (go_simp; done) ); intro gb139 hg w44 hbox hb; have BK139 := Sd.mk (hbox); have GW139 := Sd.mk ((by rw [hg]; exact (bZ (by repeat (first | (with_reducible first | exact HB.1 ) ))) : w.heap.size ≤ gb139)); have GE139 := Sd.mk ((by rw [hg]; exact (bZ (by repeat (first | (with_reducible first | exact HB.1 ) ))) : w.heap.size ≤ gb139)); replace HB := Sd.mk (bT (by repeat (first | (with_reducible first | exact HB.1 ) )) hb); clear hb hbox hg; have z_45_0 : w44.cell? ⟨gb139, 0, none⟩ = some (.int .i64 a0_0) := (kC BK139.1 0).trans rfl; have z_45_1 : w44.cell? ⟨gb139, 1, none⟩ = some (.int .i64 a0_1) := (kC BK139.1 1).trans rfl; have z_45_2 : w44.cell? ⟨gb139, 2, none⟩ = some (.slice A0_2 l0_2.length c0_2) := (kC BK139.1 2).trans rfl; have z_45_3 : w44.cell? ⟨gb139, 3, none⟩ = some (.slice A0_3 l0_3.length c0_3) := (kC BK139.1 3).trans rfl) | ((with_reducible refine gate_callee (f := 18) rfl ?_); refine goesL_ (some 11) rfl rfl Try.func18 (by kernel_rfl) rfl #[.agg #[.int .i64 a0_0, .int .i64 a0_1, .slice A0_2 l0_2.length c0_2, .slice A0_3 l0_3.length c0_3]] rfl (by (try simp only [List.map_toArray, List.map_cons, List.map_nil]); first | rfl ) ?_; (with_reducible refine (cipher_CheckBook.calls a0_0 a0_1 _ _ l0_2 _ _ l0_3 t140 _ ?side1 ?side2 ?side3 ?side4 A4.1).mono ?_); (case side1 => repeat (first | exact (Kd.C_below HR0_2.1 HB.1) )); (case side2 => exact HC0_2.1); (case side3 => repeat (first | exact (Kd.C_below HR0_3.1 HB.1) )); (case side4 => exact HC0_3.1); rintro e w46 ⟨rfl, hb⟩; refine ⟨_, rfl, ?_⟩; replace BK139 := Sd.mk (kB (g := gb139) (o := .cells #[.int .i64 a0_0, .int .i64 a0_1, .slice A0_2 l0_2.length c0_2, .slice A0_3 l0_3.length c0_3] 32 (0, 0)) (by (with_reducible repeat (fail)); exact BK139.1) hb); replace HB := Sd.mk (bT (by repeat (first | (with_reducible first | exact HB.1 ) )) hb); (try clear hb); have z_47_0 : w46.cell? ⟨gb139, 0, none⟩ = some (.int .i64 a0_0) := (kC BK139.1 0).trans rfl; have z_47_1 : w46.cell? ⟨gb139, 1, none⟩ = some (.int .i64 a0_1) := (kC BK139.1 1).trans rfl; have z_47_2 : w46.cell? ⟨gb139, 2, none⟩ = some (.slice A0_2 l0_2.length c0_2) := (kC BK139.1 2).trans rfl; have z_47_3 : w46.cell? ⟨gb139, 3, none⟩ = some (.slice A0_3 l0_3.length c0_3) := (kC BK139.1 3).trans rfl) | ((with_reducible refine gate_callee (f := 56) rfl ?_); refine goesL_ (some 18) rfl rfl Try.func56 (by kernel_rfl) rfl #[.agg #[.int .i64 a0_0, .int .i64 a0_1, .slice A0_2 l0_2.length c0_2, .slice A0_3 l0_3.length c0_3], .int .i64 a1] rfl (by (try simp only [List.map_toArray, List.map_cons, List.map_nil]); first | rfl ) ?_; (with_reducible refine (cipher_Book_day.calls a0_0 a0_1 _ _ l0_2 _ _ l0_3 a1 true _ ?side1 ?side2 ?side3 ?side4 A6.1).mono ?_); (case side1 => repeat (first | exact (Kd.C_below HR0_2.1 HB.1) )); (case side2 => exact HC0_2.1); (case side3 => repeat (first | exact (Kd.C_below HR0_3.1 HB.1) )); (case side4 => exact HC0_3.1); rintro e w48 ⟨rfl, hb⟩; refine ⟨_, rfl, ?_⟩; replace BK139 := Sd.mk (kB (g := gb139) (o := .cells #[.int .i64 a0_0, .int .i64 a0_1, .slice A0_2 l0_2.length c0_2, .slice A0_3 l0_3.length c0_3] 32 (0, 0)) (by (with_reducible repeat (fail)); exact BK139.1) hb); replace HB := Sd.mk (bT (by repeat (first | (with_reducible first | exact HB.1 ) )) hb); (try clear hb); have z_49_0 : w48.cell? ⟨gb139, 0, none⟩ = some (.int .i64 a0_0) := (kC BK139.1 0).trans rfl; have z_49_1 : w48.cell? ⟨gb139, 1, none⟩ = some (.int .i64 a0_1) := (kC BK139.1 1).trans rfl; have z_49_2 : w48.cell? ⟨gb139, 2, none⟩ = some (.slice A0_2 l0_2.length c0_2) := (kC BK139.1 2).trans rfl; have z_49_3 : w48.cell? ⟨gb139, 3, none⟩ = some (.slice A0_3 l0_3.length c0_3) := (kC BK139.1 3).trans rfl) | ((with_reducible refine gate_callee (f := 54) rfl ?_); refine goesL_ (some 28) rfl rfl Try.func54 (by kernel_rfl) rfl #[.slice A2 l2.length c2, .func (.func 57) #[.agg #[.int .i64 a0_0, .int .i64 a0_1, .slice A0_2 l0_2.length c0_2, .slice A0_3 l0_3.length c0_3]] #[]] rfl (by (try simp only [List.map_toArray, List.map_cons, List.map_nil]); first | rfl ) ?_; (with_reducible refine (cipher_all_plain.calls _ _ l2 a0_0 a0_1 _ _ l0_2 _ _ l0_3 false _ ?side1 ?side2 ?side3 ?side4 ?side5 ?side6 A14.1).mono ?_); (case side1 => repeat (first | exact (Kd.C_below HR2.1 HB.1) )); (case side2 => exact HC2.1); (case side3 => repeat (first | exact (Kd.C_below HR0_2.1 HB.1) )); (case side4 => exact HC0_2.1); (case side5 => repeat (first | exact (Kd.C_below HR0_3.1 HB.1) )); (case side6 => exact HC0_3.1); rintro e w50 ⟨rfl, hb⟩; refine ⟨_, rfl, ?_⟩; replace BK139 := Sd.mk (kB (g := gb139) (o := .cells #[.int .i64 a0_0, .int .i64 a0_1, .slice A0_2 l0_2.length c0_2, .slice A0_3 l0_3.length c0_3] 32 (0, 0)) (by (with_reducible repeat (fail)); exact BK139.1) hb); replace HB := Sd.mk (bT (by repeat (first | (with_reducible first | exact HB.1 ) )) hb); (try clear hb)))
     go_ret2
     exact ⟨_, by first | rfl , by first | exact Kd.R_nil _ _ _ _ _ , by repeat (first | (with_reducible first | exact HB.1 ) )⟩
  ·replace c7 := Bool.eq_false_iff.mpr c7
   subst c7
   rw [if_neg (show ¬ (false = true) by decide)] at H
   simp only [Option.some.injEq, Prod.mk.injEq] at H
   obtain ⟨rfl, rfl⟩ := H
   go_enter Try.func20, Try.ntmps20
   go_wp2_with (first | ((with_reducible refine gD (N := 3) rfl ?_); refine xE ?hg (N := 3) ?hd (cs := #[.int .i64 a0_0, .int .i64 a0_1, .slice A0_2 l0_2.length c0_2, .slice A0_3 l0_3.length c0_3]) (t := 32) ?hr ?_; (case hd => rfl); (case hg => rfl); (case hr => first | (go_simp; done) ); intro gb139 hg w51 hbox hb; have BK139 := Sd.mk (hbox); have GW139 := Sd.mk ((by rw [hg]; exact (bZ (by repeat (first | (with_reducible first | exact HB.1 ) ))) : w.heap.size ≤ gb139)); have GE139 := Sd.mk ((by rw [hg]; exact (bZ (by repeat (first | (with_reducible first | exact HB.1 ) ))) : w.heap.size ≤ gb139)); replace HB := Sd.mk (bT (by repeat (first | (with_reducible first | exact HB.1 ) )) hb); clear hb hbox hg; have z_52_0 : w51.cell? ⟨gb139, 0, none⟩ = some (.int .i64 a0_0) := (kC BK139.1 0).trans rfl; have z_52_1 : w51.cell? ⟨gb139, 1, none⟩ = some (.int .i64 a0_1) := (kC BK139.1 1).trans rfl; have z_52_2 : w51.cell? ⟨gb139, 2, none⟩ = some (.slice A0_2 l0_2.length c0_2) := (kC BK139.1 2).trans rfl; have z_52_3 : w51.cell? ⟨gb139, 3, none⟩ = some (.slice A0_3 l0_3.length c0_3) := (kC BK139.1 3).trans rfl) | ((with_reducible refine gate_callee (f := 18) rfl ?_); refine goesL_ (some 11) rfl rfl Try.func18 (by kernel_rfl) rfl #[.agg #[.int .i64 a0_0, .int .i64 a0_1, .slice A0_2 l0_2.length c0_2, .slice A0_3 l0_3.length c0_3]] rfl (by (try simp only [List.map_toArray, List.map_cons, List.map_nil]); first | rfl ) ?_; (with_reducible refine (cipher_CheckBook.calls a0_0 a0_1 _ _ l0_2 _ _ l0_3 t140 _ ?side1 ?side2 ?side3 ?side4 A4.1).mono ?_); (case side1 => repeat (first | exact (Kd.C_below HR0_2.1 HB.1) )); (case side2 => exact HC0_2.1); (case side3 => repeat (first | exact (Kd.C_below HR0_3.1 HB.1) )); (case side4 => exact HC0_3.1); rintro e w53 ⟨rfl, hb⟩; refine ⟨_, rfl, ?_⟩; replace BK139 := Sd.mk (kB (g := gb139) (o := .cells #[.int .i64 a0_0, .int .i64 a0_1, .slice A0_2 l0_2.length c0_2, .slice A0_3 l0_3.length c0_3] 32 (0, 0)) (by (with_reducible repeat (fail)); exact BK139.1) hb); replace HB := Sd.mk (bT (by repeat (first | (with_reducible first | exact HB.1 ) )) hb); (try clear hb); have z_54_0 : w53.cell? ⟨gb139, 0, none⟩ = some (.int .i64 a0_0) := (kC BK139.1 0).trans rfl; have z_54_1 : w53.cell? ⟨gb139, 1, none⟩ = some (.int .i64 a0_1) := (kC BK139.1 1).trans rfl; have z_54_2 : w53.cell? ⟨gb139, 2, none⟩ = some (.slice A0_2 l0_2.length c0_2) := (kC BK139.1 2).trans rfl; have z_54_3 : w53.cell? ⟨gb139, 3, none⟩ = some (.slice A0_3 l0_3.length c0_3) := (kC BK139.1 3).trans rfl) | ((with_reducible refine gate_callee (f := 56) rfl ?_); refine goesL_ (some 18) rfl rfl Try.func56 (by kernel_rfl) rfl #[.agg #[.int .i64 a0_0, .int .i64 a0_1, .slice A0_2 l0_2.length c0_2, .slice A0_3 l0_3.length c0_3], .int .i64 a1] rfl (by (try simp only [List.map_toArray, List.map_cons, List.map_nil]); first | rfl ) ?_; (with_reducible refine (cipher_Book_day.calls a0_0 a0_1 _ _ l0_2 _ _ l0_3 a1 false _ ?side1 ?side2 ?side3 ?side4 A6.1).mono ?_); (case side1 => repeat (first | exact (Kd.C_below HR0_2.1 HB.1) )); (case side2 => exact HC0_2.1); (case side3 => repeat (first | exact (Kd.C_below HR0_3.1 HB.1) )); (case side4 => exact HC0_3.1); rintro e w55 ⟨rfl, hb⟩; refine ⟨_, rfl, ?_⟩; replace BK139 := Sd.mk (kB (g := gb139) (o := .cells #[.int .i64 a0_0, .int .i64 a0_1, .slice A0_2 l0_2.length c0_2, .slice A0_3 l0_3.length c0_3] 32 (0, 0)) (by (with_reducible repeat (fail)); exact BK139.1) hb); replace HB := Sd.mk (bT (by repeat (first | (with_reducible first | exact HB.1 ) )) hb); (try clear hb)))
   go_ret2
   exact ⟨_, by first | rfl , by first | exact Kd.R_nil _ _ _ _ _ , by repeat (first | (with_reducible first | exact HB.1 ) )⟩
 ·rw [if_neg c5] at H
  have c5b0 : (t140 == 0) = false := beq_eq_false_iff_ne.mpr c5
  have c5b1 : (t140 != 0) = true := bne_iff_ne.mpr c5
  simp only [Option.some.injEq, Prod.mk.injEq] at H
  obtain ⟨rfl, rfl⟩ := H
  go_enter Try.func20, Try.ntmps20
  go_wp2_with (first | ((with_reducible refine gD (N := 3) rfl ?_); refine xE ?hg (N := 3) ?hd (cs := #[.int .i64 a0_0, .int .i64 a0_1, .slice A0_2 l0_2.length c0_2, .slice A0_3 l0_3.length c0_3]) (t := 32) ?hr ?_; (case hd => rfl); (case hg => rfl); (case hr => first | (go_simp; done) ); intro gb139 hg w56 hbox hb; have BK139 := Sd.mk (hbox); have GW139 := Sd.mk ((by rw [hg]; exact (bZ (by repeat (first | (with_reducible first | exact HB.1 ) ))) : w.heap.size ≤ gb139)); have GE139 := Sd.mk ((by rw [hg]; exact (bZ (by repeat (first | (with_reducible first | exact HB.1 ) ))) : w.heap.size ≤ gb139)); replace HB := Sd.mk (bT (by repeat (first | (with_reducible first | exact HB.1 ) )) hb); clear hb hbox hg; have z_57_0 : w56.cell? ⟨gb139, 0, none⟩ = some (.int .i64 a0_0) := (kC BK139.1 0).trans rfl; have z_57_1 : w56.cell? ⟨gb139, 1, none⟩ = some (.int .i64 a0_1) := (kC BK139.1 1).trans rfl; have z_57_2 : w56.cell? ⟨gb139, 2, none⟩ = some (.slice A0_2 l0_2.length c0_2) := (kC BK139.1 2).trans rfl; have z_57_3 : w56.cell? ⟨gb139, 3, none⟩ = some (.slice A0_3 l0_3.length c0_3) := (kC BK139.1 3).trans rfl) | ((with_reducible refine gate_callee (f := 18) rfl ?_); refine goesL_ (some 11) rfl rfl Try.func18 (by kernel_rfl) rfl #[.agg #[.int .i64 a0_0, .int .i64 a0_1, .slice A0_2 l0_2.length c0_2, .slice A0_3 l0_3.length c0_3]] rfl (by (try simp only [List.map_toArray, List.map_cons, List.map_nil]); first | rfl ) ?_; (with_reducible refine (cipher_CheckBook.calls a0_0 a0_1 _ _ l0_2 _ _ l0_3 t140 _ ?side1 ?side2 ?side3 ?side4 A4.1).mono ?_); (case side1 => repeat (first | exact (Kd.C_below HR0_2.1 HB.1) )); (case side2 => exact HC0_2.1); (case side3 => repeat (first | exact (Kd.C_below HR0_3.1 HB.1) )); (case side4 => exact HC0_3.1); rintro e w58 ⟨rfl, hb⟩; refine ⟨_, rfl, ?_⟩; replace BK139 := Sd.mk (kB (g := gb139) (o := .cells #[.int .i64 a0_0, .int .i64 a0_1, .slice A0_2 l0_2.length c0_2, .slice A0_3 l0_3.length c0_3] 32 (0, 0)) (by (with_reducible repeat (fail)); exact BK139.1) hb); replace HB := Sd.mk (bT (by repeat (first | (with_reducible first | exact HB.1 ) )) hb); (try clear hb)))
  go_ret2
  exact ⟨_, by first | rfl , by first | exact Kd.R_nil _ _ _ _ _ , by repeat (first | (with_reducible first | exact HB.1 ) )⟩
end Go.Proofs.Ytnidgkmopocdkaa.P
