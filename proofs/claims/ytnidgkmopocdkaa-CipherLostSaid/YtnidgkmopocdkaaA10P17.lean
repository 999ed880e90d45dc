import Derived.Test.YtnidgkmopocdkaaA10P0
import Derived.Test.YtnidgkmopocdkaaA10P2
import Derived.Test.YtnidgkmopocdkaaA10P4
import Derived.Test.YtnidgkmopocdkaaA10P8
import Derived.Test.YtnidgkmopocdkaaA10P16
namespace Go.Proofs.Ytnidgkmopocdkaa.P
open Go.RowKit Go.Proofs.YtnidgkmopocdkaaW.PrintWords Go.Proofs.YtnidgkmopocdkaaW.PrintLast Go.Proofs.YtnidgkmopocdkaaW.PrintMore
attribute [local go_sem] max2_int min2_int max_two min_two max_three min_three max_four min_four   -- for this text's walks alone
set_option linter.unusedVariables false
set_option linter.unusedSimpArgs false
def glisterlaw04_fault.f (k : Nat) (a0_0 : Int) (a0_1 : Int) (l0_2 : List (S82)) (l0_3 : List Int) : Option (Int) := (glisterref04_Fault.f k a0_0 a0_1 l0_2 l0_3).bind fun t239 => (some t239)
set_option maxHeartbeats 8000000 in
set_option maxRecDepth 100000 in
theorem glisterlaw04_fault.calls (k : Nat) (a0_0 : Int) (a0_1 : Int) (A0_2 : Option Addr) (c0_2 : Nat) (l0_2 : List (S82)) (A0_3 : Option Addr) (c0_3 : Nat) (l0_3 : List Int) (r : Int) (w : World) (hr0_2 : Kd.C k82 w A0_2 l0_2.length l0_2) (hc0_2 : l0_2.length ≤ c0_2) (hr0_3 : Kd.C (Kd.int .i64) w A0_3 l0_3.length l0_3) (hc0_3 : l0_3.length ≤ c0_3) (h : glisterlaw04_fault.f k a0_0 a0_1 l0_2 l0_3 = some r) :
  Calls Try.prog 22 #[.agg #[.int .i64 a0_0, .int .i64 a0_1, .slice A0_2 l0_2.length c0_2, .slice A0_3 l0_3.length c0_3]] w fun e w' => e = .returned (.int .i64 r) ∧ Below w.heap.size w w' := by
 have hu25 := Try.underlying25
 have HR0_2 := Sd.mk hr0_2
 have HC0_2 := Sd.mk hc0_2
 clear hr0_2 hc0_2
 have HR0_3 := Sd.mk hr0_3
 have HC0_3 := Sd.mk hc0_3
 clear hr0_3 hc0_3
 have HB := Sd.mk (Below.refl w.heap.size w)
 have H : ((glisterref04_Fault.f k a0_0 a0_1 l0_2 l0_3).bind fun t239 => (some t239)) = some r := h
 clear h
 obtain ⟨t239, A20, H⟩ := Option.bind_eq_some_iff.mp H
 have A2 := Sd.mk A20
 clear A20
 obtain rfl := Option.some.inj H
 go_enter Try.func22, Try.ntmps22
 go_wp2_with (first | ((with_reducible refine gD (N := 1) rfl ?_); refine xE ?hg (N := 1) ?hd (cs := #[.int .i64 a0_0, .int .i64 a0_1, .slice A0_2 l0_2.length c0_2, .slice A0_3 l0_3.length c0_3]) (t := 25) ?hr ?_; (case hd => rfl); (case hg => rfl); (case hr => first | (go_simp; done) ); intro gb238 hg w3 hbox hb; have BK238 := Sd.mk (hbox); have GW238 := Sd.mk ((by rw [hg]; exact (bZ (by repeat (first | (with_reducible first | exact HB.1 ) ))) : w.heap.size ≤ gb238)); have GE238 := Sd.mk ((by rw [hg]; exact (bZ (by repeat (first | (with_reducible first | exact HB.1 ) ))) : w.heap.size ≤ gb238)); replace HB := Sd.mk (bT (by repeat (first | (with_reducible first | exact HB.1 ) )) hb); clear hb hbox hg; have z_4_0 : w3.cell? ⟨gb238, 0, none⟩ = some (.int .i64 a0_0) := (kC BK238.1 0).trans rfl; have z_4_1 : w3.cell? ⟨gb238, 1, none⟩ = some (.int .i64 a0_1) := (kC BK238.1 1).trans rfl; have z_4_2 : w3.cell? ⟨gb238, 2, none⟩ = some (.slice A0_2 l0_2.length c0_2) := (kC BK238.1 2).trans rfl; have z_4_3 : w3.cell? ⟨gb238, 3, none⟩ = some (.slice A0_3 l0_3.length c0_3) := (kC BK238.1 3).trans rfl) | ((with_reducible refine gate_callee (f := 62) rfl ?_); refine goesL_ (some 4) rfl rfl Try.func62 (by kernel_rfl) rfl #[.agg #[.int .i64 a0_0, .int .i64 a0_1, .slice A0_2 l0_2.length c0_2, .slice A0_3 l0_3.length c0_3]] rfl (by (try simp only [List.map_toArray, List.map_cons, List.map_nil]); first | rfl ) ?_; (with_reducible refine (glisterref04_Fault.calls k a0_0 a0_1 _ _ l0_2 _ _ l0_3 t239 _ ?side1 ?side2 ?side3 ?side4 A2.1).mono ?_); (case side1 => repeat (first | exact (Kd.C_below HR0_2.1 HB.1) )); (case side2 => exact HC0_2.1); (case side3 => repeat (first | exact (Kd.C_below HR0_3.1 HB.1) )); (case side4 => exact HC0_3.1); rintro e w5 ⟨rfl, hb⟩; refine ⟨_, rfl, ?_⟩; replace BK238 := Sd.mk (kB (g := gb238) (o := .cells #[.int .i64 a0_0, .int .i64 a0_1, .slice A0_2 l0_2.length c0_2, .slice A0_3 l0_3.length c0_3] 25 (0, 0)) (by (with_reducible repeat (fail)); exact BK238.1) hb); replace HB := Sd.mk (bT (by repeat (first | (with_reducible first | exact HB.1 ) )) hb); (try clear hb)))
 go_ret
 exact ⟨by first | rfl , by repeat (first | (with_reducible first | exact HB.1 ) )⟩
def glisterlaw04_lossy.f (k : Nat) (a0_0 : Int) (a0_1 : Int) (l0_2 : List (S82)) (l0_3 : List Int) (l1 : List (S58)) : Option (Int) := (glisterlaw04_fault.f k a0_0 a0_1 l0_2 l0_3).bind fun t366 => (if t366 = 0 then ((glisterref04_LossFault.f k a0_0 a0_1 l0_2 l0_3 l1).bind fun t367 => (some t367)) else (some t366))
set_option maxHeartbeats 8000000 in
set_option maxRecDepth 100000 in
theorem glisterlaw04_lossy.calls (k : Nat) (a0_0 : Int) (a0_1 : Int) (A0_2 : Option Addr) (c0_2 : Nat) (l0_2 : List (S82)) (A0_3 : Option Addr) (c0_3 : Nat) (l0_3 : List Int) (A1 : Option Addr) (c1 : Nat) (l1 : List (S58)) (r : Int) (w : World) (hr0_2 : Kd.C k82 w A0_2 l0_2.length l0_2) (hc0_2 : l0_2.length ≤ c0_2) (hr0_3 : Kd.C (Kd.int .i64) w A0_3 l0_3.length l0_3) (hc0_3 : l0_3.length ≤ c0_3) (hr1 : Kd.C k58 w A1 l1.length l1) (hc1 : l1.length ≤ c1) (h : glisterlaw04_lossy.f k a0_0 a0_1 l0_2 l0_3 l1 = some r) :
  Calls Try.prog 31 #[.agg #[.int .i64 a0_0, .int .i64 a0_1, .slice A0_2 l0_2.length c0_2, .slice A0_3 l0_3.length c0_3], .slice A1 l1.length c1] w fun e w' => e = .returned (.int .i64 r) ∧ Below w.heap.size w w' := by
 have hu25 := Try.underlying25
 have HR0_2 := Sd.mk hr0_2
 have HC0_2 := Sd.mk hc0_2
 clear hr0_2 hc0_2
 have HR0_3 := Sd.mk hr0_3
 have HC0_3 := Sd.mk hc0_3
 clear hr0_3 hc0_3
 have HR1 := Sd.mk hr1
 have HC1 := Sd.mk hc1
 clear hr1 hc1
 have HB := Sd.mk (Below.refl w.heap.size w)
 have H : ((glisterlaw04_fault.f k a0_0 a0_1 l0_2 l0_3).bind fun t366 => (if t366 = 0 then ((glisterref04_LossFault.f k a0_0 a0_1 l0_2 l0_3 l1).bind fun t367 => (some t367)) else (some t366))) = some r := h
 clear h
 obtain ⟨t366, A30, H⟩ := Option.bind_eq_some_iff.mp H
 have A3 := Sd.mk A30
 clear A30
 by_cases c4 : t366 = 0
 ·rw [if_pos c4] at H
  have c4b0 : (t366 == 0) = true := beq_iff_eq.mpr c4
  have c4b1 : (t366 != 0) = false := bne_eq_false_iff_eq.mpr c4
  clear c4
  obtain ⟨t367, A50, H⟩ := Option.bind_eq_some_iff.mp H
  have A5 := Sd.mk A50
  clear A50
  obtain rfl := Option.some.inj H
  go_enter Try.func31, Try.ntmps31
  go_wp2_with (first | ((with_reducible refine gD (N := 2) rfl ?_); refine xE ?hg (N := 2) ?hd (cs := #[.int .i64 a0_0, .int .i64 a0_1, .slice A0_2 l0_2.length c0_2, .slice A0_3 l0_3.length c0_3]) (t := 25) ?hr ?_; (case hd => rfl); (case hg => rfl); (case hr => first | (go_simp; done) ); intro gb365 hg w6 hbox hb; have BK365 := Sd.mk (hbox); have GW365 := Sd.mk ((by rw [hg]; exact (bZ (by repeat (first | (with_reducible first | exact HB.1 ) ))) : w.heap.size ≤ gb365)); have GE365 := Sd.mk ((by rw [hg]; exact (bZ (by repeat (first | (with_reducible first | exact HB.1 ) ))) : w.heap.size ≤ gb365)); replace HB := Sd.mk (bT (by repeat (first | (with_reducible first | exact HB.1 ) )) hb); clear hb hbox hg; have z_7_0 : w6.cell? ⟨gb365, 0, none⟩ = some (.int .i64 a0_0) := (kC BK365.1 0).trans rfl; have z_7_1 : w6.cell? ⟨gb365, 1, none⟩ = some (.int .i64 a0_1) := (kC BK365.1 1).trans rfl; have z_7_2 : w6.cell? ⟨gb365, 2, none⟩ = some (.slice A0_2 l0_2.length c0_2) := (kC BK365.1 2).trans rfl; have z_7_3 : w6.cell? ⟨gb365, 3, none⟩ = some (.slice A0_3 l0_3.length c0_3) := (kC BK365.1 3).trans rfl) | ((with_reducible refine gate_callee (f := 22) rfl ?_); refine goesL_ (some 7) rfl rfl Try.func22 (by kernel_rfl) rfl #[.agg #[.int .i64 a0_0, .int .i64 a0_1, .slice A0_2 l0_2.length c0_2, .slice A0_3 l0_3.length c0_3]] rfl (by (try simp only [List.map_toArray, List.map_cons, List.map_nil]); first | rfl ) ?_; (with_reducible refine (glisterlaw04_fault.calls k a0_0 a0_1 _ _ l0_2 _ _ l0_3 t366 _ ?side1 ?side2 ?side3 ?side4 A3.1).mono ?_); (case side1 => repeat (first | exact (Kd.C_below HR0_2.1 HB.1) )); (case side2 => exact HC0_2.1); (case side3 => repeat (first | exact (Kd.C_below HR0_3.1 HB.1) )); (case side4 => exact HC0_3.1); rintro e w8 ⟨rfl, hb⟩; refine ⟨_, rfl, ?_⟩; replace BK365 := Sd.mk (kB (g := gb365) (o := .cells #[.int .i64 a0_0, .int .i64 a0_1, .slice A0_2 l0_2.length c0_2, .slice A0_3 l0_3.length c0_3] 25 (0, 0)) (by (with_reducible repeat (fail)); exact BK365.1) hb); replace HB := Sd.mk (bT (by repeat (first | (with_reducible first | exact HB.1 ) )) hb); (try clear hb); have z_9_0 : w8.cell? ⟨gb365, 0, none⟩ = some (.int .i64 a0_0) := (kC BK365.1 0).trans rfl; have z_9_1 : w8.cell? ⟨gb365, 1, none⟩ = some (.int .i64 a0_1) := (kC BK365.1 1).trans rfl; have z_9_2 : w8.cell? ⟨gb365, 2, none⟩ = some (.slice A0_2 l0_2.length c0_2) := (kC BK365.1 2).trans rfl; have z_9_3 : w8.cell? ⟨gb365, 3, none⟩ = some (.slice A0_3 l0_3.length c0_3) := (kC BK365.1 3).trans rfl) | ((with_reducible refine gate_callee (f := 73) rfl ?_); refine goesL_ (some 13) rfl rfl Try.func73 (by kernel_rfl) rfl #[.agg #[.int .i64 a0_0, .int .i64 a0_1, .slice A0_2 l0_2.length c0_2, .slice A0_3 l0_3.length c0_3], .slice A1 l1.length c1] rfl (by (try simp only [List.map_toArray, List.map_cons, List.map_nil]); first | rfl ) ?_; (with_reducible refine (glisterref04_LossFault.calls k a0_0 a0_1 _ _ l0_2 _ _ l0_3 _ _ l1 t367 _ ?side1 ?side2 ?side3 ?side4 ?side5 ?side6 A5.1).mono ?_); (case side1 => repeat (first | exact (Kd.C_below HR0_2.1 HB.1) )); (case side2 => exact HC0_2.1); (case side3 => repeat (first | exact (Kd.C_below HR0_3.1 HB.1) )); (case side4 => exact HC0_3.1); (case side5 => repeat (first | exact (Kd.C_below HR1.1 HB.1) )); (case side6 => exact HC1.1); rintro e w10 ⟨rfl, hb⟩; refine ⟨_, rfl, ?_⟩; replace BK365 := Sd.mk (kB (g := gb365) (o := .cells #[.int .i64 a0_0, .int .i64 a0_1, .slice A0_2 l0_2.length c0_2, .slice A0_3 l0_3.length c0_3] 25 (0, 0)) (by (with_reducible repeat (fail)); exact BK365.1) hb); replace HB := Sd.mk (bT (by repeat (first | (with_reducible first | exact HB.1 ) )) hb); (try clear hb)))
  go_ret
  exact ⟨by first | rfl , by repeat (first | (with_reducible first | exact HB.1 ) )⟩
 ·rw [if_neg c4] at H
  have c4b0 : (t366 == 0) = false := beq_eq_false_iff_ne.mpr c4
  have c4b1 : (t366 != 0) = true := bne_iff_ne.mpr c4
  obtain rfl := Option.some.inj H
  go_enter Try.func31, Try.ntmps31
  go_wp2_with (first | ((with_reducible refine gD (N := 2) rfl ?_); refine xE ?hg (N := 2) ?hd (cs := #[.int .i64 a0_0, .int .i64 a0_1, .slice A0_2 l0_2.length c0_2, .slice A0_3 l0_3.length c0_3]) (t := 25) ?hr ?_; (case hd => rfl); (case hg => rfl); (case hr => first | (go_simp; done) ); intro gb365 hg w11 hbox hb; have BK365 := Sd.mk (hbox); have GW365 := Sd.mk ((by rw [hg]; exact (bZ (by repeat (first | (with_reducible first | exact HB.1 ) ))) : w.heap.size ≤ gb365)); have GE365 := Sd.mk ((by rw [hg]; exact (bZ (by repeat (first | (with_reducible first | exact HB.1 ) ))) : w.heap.size ≤ gb365)); replace HB := Sd.mk (bT (by repeat (first | (with_reducible first | exact HB.1 ) )) hb); clear hb hbox hg; have z_12_0 : w11.cell? ⟨gb365, 0, none⟩ = some (.int .i64 a0_0) := (kC BK365.1 0).trans rfl; have z_12_1 : w11.cell? ⟨gb365, 1, none⟩ = some (.int .i64 a0_1) := (kC BK365.1 1).trans rfl; have z_12_2 : w11.cell? ⟨gb365, 2, none⟩ = some (.slice A0_2 l0_2.length c0_2) := (kC BK365.1 2).trans rfl; have z_12_3 : w11.cell? ⟨gb365, 3, none⟩ = some (.slice A0_3 l0_3.length c0_3) := (kC BK365.1 3).trans rfl) | ((with_reducible refine gate_callee (f := 22) rfl ?_); refine goesL_ (some 7) rfl rfl Try.func22 (by kernel_rfl) rfl #[.agg #[.int .i64 a0_0, .int .i64 a0_1, .slice A0_2 l0_2.length c0_2, .slice A0_3 l0_3.length c0_3]] rfl (by (try simp only [List.map_toArray, List.map_cons, List.map_nil]); first | rfl ) ?_; (with_reducible refine (glisterlaw04_fault.calls k a0_0 a0_1 _ _ l0_2 _ _ l0_3 t366 _ ?side1 ?side2 ?side3 ?side4 A3.1).mono ?_); (case side1 => repeat (first | exact (Kd.C_below HR0_2.1 HB.1) )); (case side2 => exact HC0_2.1); (case side3 => repeat (first | exact (Kd.C_below HR0_3.1 HB.1) )); (case side4 => exact HC0_3.1); rintro e w13 ⟨rfl, hb⟩; refine ⟨_, rfl, ?_⟩; replace BK365 := Sd.mk (kB (g := gb365) (o := .cells #[.int .i64 a0_0, .int .i64 a0_1, .slice A0_2 l0_2.length c0_2, .slice A0_3 l0_3.length c0_3] 25 (0, 0)) (by (with_reducible repeat (fail)); exact BK365.1) hb); replace HB := Sd.mk (bT (by repeat (first | (with_reducible first | exact HB.1 ) )) hb); (try clear hb)))
  go_ret
  exact ⟨by first | rfl , by repeat (first | (with_reducible first | exact HB.1 ) )⟩
def glisterlaw04_lossed.f (k : Nat) (a0_0 : Int) (a0_1 : Int) (l0_2 : List (S82)) (l0_3 : List Int) (l1 : List (S58)) : Option (Bool) := (glisterlaw04_Thin.f a0_0 a0_1 l0_2 l0_3).bind fun t610 => (if t610 = true then (if (l1.length : Int) ≤ 9 then ((glisterlaw04_lossy.f k a0_0 a0_1 l0_2 l0_3 l1).bind fun t611 => (some (t611 == 0))) else (some false)) else (some false))
set_option maxHeartbeats 8000000 in
set_option maxRecDepth 100000 in
theorem glisterlaw04_lossed.calls (k : Nat) (a0_0 : Int) (a0_1 : Int) (A0_2 : Option Addr) (c0_2 : Nat) (l0_2 : List (S82)) (A0_3 : Option Addr) (c0_3 : Nat) (l0_3 : List Int) (A1 : Option Addr) (c1 : Nat) (l1 : List (S58)) (r : Bool) (w : World) (hr0_2 : Kd.C k82 w A0_2 l0_2.length l0_2) (hc0_2 : l0_2.length ≤ c0_2) (hr0_3 : Kd.C (Kd.int .i64) w A0_3 l0_3.length l0_3) (hc0_3 : l0_3.length ≤ c0_3) (hr1 : Kd.C k58 w A1 l1.length l1) (hc1 : l1.length ≤ c1) (h : glisterlaw04_lossed.f k a0_0 a0_1 l0_2 l0_3 l1 = some r) :
  Calls Try.prog 34 #[.agg #[.int .i64 a0_0, .int .i64 a0_1, .slice A0_2 l0_2.length c0_2, .slice A0_3 l0_3.length c0_3], .slice A1 l1.length c1] w fun e w' => e = .returned (.bool r) ∧ Below w.heap.size w w' := by
 have hu25 := Try.underlying25
 have HR0_2 := Sd.mk hr0_2
 have HC0_2 := Sd.mk hc0_2
 clear hr0_2 hc0_2
 have HR0_3 := Sd.mk hr0_3
 have HC0_3 := Sd.mk hc0_3
 clear hr0_3 hc0_3
 have HR1 := Sd.mk hr1
 have HC1 := Sd.mk hc1
 clear hr1 hc1
 have HB := Sd.mk (Below.refl w.heap.size w)
 have H : ((glisterlaw04_Thin.f a0_0 a0_1 l0_2 l0_3).bind fun t610 => (if t610 = true then (if (l1.length : Int) ≤ 9 then ((glisterlaw04_lossy.f k a0_0 a0_1 l0_2 l0_3 l1).bind fun t611 => (some (t611 == 0))) else (some false)) else (some false))) = some r := h
 clear h
 obtain ⟨t610, A30, H⟩ := Option.bind_eq_some_iff.mp H
 have A3 := Sd.mk A30
 clear A30
 by_cases c4 : t610 = true
 ·subst c4
  rw [if_pos rfl] at H
  by_cases c5 : (l1.length : Int) ≤ 9
  ·rw [if_pos c5] at H
   have c5b0 : decide ((l1.length : Int) ≤ 9) = true := decide_eq_true c5
   have c5b1 : decide (l1.length ≤ 9) = true := decide_eq_true (by omega)
   clear c5
   obtain ⟨t611, A60, H⟩ := Option.bind_eq_some_iff.mp H
   have A6 := Sd.mk A60
   clear A60
   obtain rfl := Option.some.inj H
   go_enter Try.func34, Try.ntmps34
   go_wp2_with (first | ((with_reducible refine gD (N := 2) rfl ?_); (try (refine gG (by rfl) ?_; dsimp only)); refine xE ?hg (N := 2) ?hd (cs := #[.int .i64 a0_0, .int .i64 a0_1, .slice A0_2 l0_2.length c0_2, .slice A0_3 l0_3.length c0_3]) (t := 25) ?hr ?_; (case hd => rfl); (case hg => rfl); (case hr => first | (go_simp; done) ); intro gb609 hg w7 hbox hb; have BK609 := Sd.mk (hbox); have GW609 := Sd.mk ((by rw [hg]; exact (bZ (by repeat (first | (with_reducible first | exact HB.1 ) ))) : w.heap.size ≤ gb609)); have GE609 := Sd.mk ((by rw [hg]; exact (bZ (by repeat (first | (with_reducible first | exact HB.1 ) ))) : w.heap.size ≤ gb609)); replace HB := Sd.mk (bT (by repeat (first | (with_reducible first | exact HB.1 ) )) hb); clear hb hbox hg; have z_8_0 : w7.cell? ⟨gb609, 0, none⟩ = some (.int .i64 a0_0) := (kC BK609.1 0).trans rfl; have z_8_1 : w7.cell? ⟨gb609, 1, none⟩ = some (.int .i64 a0_1) := (kC BK609.1 1).trans rfl; have z_8_2 : w7.cell? ⟨gb609, 2, none⟩ = some (.slice A0_2 l0_2.length c0_2) := (kC BK609.1 2).trans rfl; have z_8_3 : w7.cell? ⟨gb609, 3, none⟩ = some (.slice A0_3 l0_3.length c0_3) := (kC BK609.1 3).trans rfl) | ((with_reducible refine gate_callee (f := 16) rfl ?_); refine goesL_ (some 6) rfl rfl Try.func16 (by kernel_rfl) rfl #[.agg #[.int .i64 a0_0, .int .i64 a0_1, .slice A0_2 l0_2.length c0_2, .slice A0_3 l0_3.length c0_3]] rfl (by (try simp only [List.map_toArray, List.map_cons, List.map_nil]); first | rfl ) ?_; (with_reducible refine (glisterlaw04_Thin.calls a0_0 a0_1 _ _ l0_2 _ _ l0_3 true _ ?side1 ?side2 ?side3 ?side4 A3.1).mono ?_); (case side1 => repeat (first | exact (Kd.C_below HR0_2.1 HB.1) )); (case side2 => exact HC0_2.1); (case side3 => repeat (first | exact (Kd.C_below HR0_3.1 HB.1) )); (case side4 => exact HC0_3.1); rintro e w9 ⟨rfl, hb⟩; refine ⟨_, rfl, ?_⟩; replace BK609 := Sd.mk (kB (g := gb609) (o := .cells #[.int .i64 a0_0, .int .i64 a0_1, .slice A0_2 l0_2.length c0_2, .slice A0_3 l0_3.length c0_3] 25 (0, 0)) (by (with_reducible repeat (fail)); exact BK609.1) hb); replace HB := Sd.mk (bT (by repeat (first | (with_reducible first | exact HB.1 ) )) hb); (try clear hb); have z_10_0 : w9.cell? ⟨gb609, 0, none⟩ = some (.int .i64 a0_0) := (kC BK609.1 0).trans rfl; have z_10_1 : w9.cell? ⟨gb609, 1, none⟩ = some (.int .i64 a0_1) := (kC BK609.1 1).trans rfl; have z_10_2 : w9.cell? ⟨gb609, 2, none⟩ = some (.slice A0_2 l0_2.length c0_2) := (kC BK609.1 2).trans rfl; have z_10_3 : w9.cell? ⟨gb609, 3, none⟩ = some (.slice A0_3 l0_3.length c0_3) := (kC BK609.1 3).trans rfl) | (go_at_call 31; (with_reducible refine (glisterlaw04_lossy.calls k a0_0 a0_1 _ _ l0_2 _ _ l0_3 _ _ l1 t611 _ ?side1 ?side2 ?side3 ?side4 ?side5 ?side6 A6.1).mono ?_); (case side1 => repeat (first | exact (Kd.C_below HR0_2.1 HB.1) )); (case side2 => exact HC0_2.1); (case side3 => repeat (first | exact (Kd.C_below HR0_3.1 HB.1) )); (case side4 => exact HC0_3.1); (case side5 => repeat (first | exact (Kd.C_below HR1.1 HB.1) )); (case side6 => exact HC1.1); rintro e w11 ⟨rfl, hb⟩; replace BK609 := Sd.mk (kB (g := gb609) (o := .cells #[.int .i64 a0_0, .int .i64 a0_1, .slice A0_2 l0_2.length c0_2, .slice A0_3 l0_3.length c0_3] 25 (0, 0)) (by (with_reducible repeat (fail)); exact BK609.1) hb); replace HB := Sd.mk (bT (by repeat (first | (with_reducible first | exact HB.1 ) )) hb); (try clear hb)))
   go_ret
   exact ⟨by first | rfl , by repeat (first | (with_reducible first | exact HB.1 ) )⟩
  ·rw [if_neg c5] at H
   have c5b0 : decide ((l1.length : Int) ≤ 9) = false := decide_eq_false c5
   have c5b1 : decide (l1.length ≤ 9) = false := decide_eq_false (by omega)
   clear c5
   obtain rfl := Option.some.inj H
   go_enter Try.func34, Try.ntmps34
   go_wp2_with (first | ((with_reducible refine gD (N := 2) rfl ?_); (try (refine gG (by rfl) ?_; dsimp only)); refine xE ?hg (N := 2) ?hd (cs := #[.int .i64 a0_0, .int .i64 a0_1, .slice A0_2 l0_2.length c0_2, .slice A0_3 l0_3.length c0_3]) (t := 25) ?hr ?_; (case hd => rfl); (case hg => rfl); (case hr => first | (go_simp; done) ); intro gb609 hg w12 hbox hb; have BK609 := Sd.mk (hbox); have GW609 := Sd.mk ((by rw [hg]; exact (bZ (by repeat (first | (with_reducible first | exact HB.1 ) ))) : w.heap.size ≤ gb609)); have GE609 := Sd.mk ((by rw [hg]; exact (bZ (by repeat (first | (with_reducible first | exact HB.1 ) ))) : w.heap.size ≤ gb609)); replace HB := Sd.mk (bT (by repeat (first | (with_reducible first | exact HB.1 ) )) hb); clear hb hbox hg; have z_13_0 : w12.cell? ⟨gb609, 0, none⟩ = some (.int .i64 a0_0) := (kC BK609.1 0).trans rfl; have z_13_1 : w12.cell? ⟨gb609, 1, none⟩ = some (.int .i64 a0_1) := (kC BK609.1 1).trans rfl; have z_13_2 : w12.cell? ⟨gb609, 2, none⟩ = some (.slice A0_2 l0_2.length c0_2) := (kC BK609.1 2).trans rfl; have z_13_3 : w12.cell? ⟨gb609, 3, none⟩ = some (.slice A0_3 l0_3.length c0_3) := (kC BK609.1 3).trans rfl) | ((with_reducible refine gate_callee (f := 16) rfl ?_); refine goesL_ (some 6) rfl rfl Try.func16 (by kernel_rfl) rfl #[.agg #[.int .i64 a0_0, .int .i64 a0_1, .slice A0_2 l0_2.length c0_2, .slice A0_3 l0_3.length c0_3]] rfl (by (try simp only [List.map_toArray, List.map_cons, List.map_nil]); first | rfl ) ?_; (with_reducible refine (glisterlaw04_Thin.calls a0_0 a0_1 _ _ l0_2 _ _ l0_3 true _ ?side1 ?side2 ?side3 ?side4 A3.1).mono ?_); (case side1 => repeat (first | exact (Kd.C_below HR0_2.1 HB.1) )); (case side2 => exact HC0_2.1); (case side3 => repeat (first | exact (Kd.C_below HR0_3.1 HB.1) )); (case side4 => exact HC0_3.1); rintro e w14 ⟨rfl, hb⟩; refine ⟨_, rfl, ?_⟩; replace BK609 := Sd.mk (kB (g := gb609) (o := .cells #[.int .i64 a0_0, .int .i64 a0_1, .slice A0_2 l0_2.length c0_2, .slice A0_3 l0_3.length c0_3] 25 (0, 0)) (by (with_reducible repeat (fail)); exact BK609.1) hb); replace HB := Sd.mk (bT (by repeat (first | (with_reducible first | exact HB.1 ) )) hb); (try clear hb)))
   go_ret
   exact ⟨by first | rfl , by repeat (first | (with_reducible first | exact HB.1 ) )⟩
 ·replace c4 := Bool.eq_false_iff.mpr c4
  subst c4
  rw [if_neg (show ¬ (false = true) by decide)] at H
  obtain rfl := Option.some.inj H
  go_enter Try.func34, Try.ntmps34
  go_wp2_with (first | ((with_reducible refine gD (N := 2) rfl ?_); (try (refine gG (by rfl) ?_; dsimp only)); refine xE ?hg (N := 2) ?hd (cs := #[.int .i64 a0_0, .int .i64 a0_1, .slice A0_2 l0_2.length c0_2, .slice A0_3 l0_3.length c0_3]) (t := 25) ?hr ?_; (case hd => rfl); (case hg => rfl); (case hr => first | (go_simp; done) ); intro gb609 hg w15 hbox hb; have BK609 := Sd.mk (hbox); have GW609 := Sd.mk ((by rw [hg]; exact (bZ (by repeat (first | (with_reducible first | exact HB.1 ) ))) : w.heap.size ≤ gb609)); have GE609 := Sd.mk ((by rw [hg]; exact (bZ (by repeat (first | (with_reducible first | exact HB.1 ) ))) : w.heap.size ≤ gb609)); replace HB := Sd.mk (bT (by repeat (first | (with_reducible first | exact HB.1 ) )) hb); clear hb hbox hg; have z_16_0 : w15.cell? ⟨gb609, 0, none⟩ = some (.int .i64 a0_0) := (kC BK609.1 0).trans rfl; have z_16_1 : w15.cell? ⟨gb609, 1, none⟩ = some (.int .i64 a0_1) := (kC BK609.1 1).trans rfl; have z_16_2 : w15.cell? ⟨gb609, 2, none⟩ = some (.slice A0_2 l0_2.length c0_2) := (kC BK609.1 2).trans rfl; have z_16_3 : w15.cell? ⟨gb609, 3, none⟩ = some (.slice A0_3 l0_3.length c0_3) := (kC BK609.1 3).trans rfl) | ((with_reducible refine gate_callee (f := 16) rfl ?_); refine goesL_ (some 6) rfl rfl Try.func16 (by kernel_rfl) rfl #[.agg #[.int .i64 a0_0, .int .i64 a0_1, .slice A0_2 l0_2.length c0_2, .slice A0_3 l0_3.length c0_3]] rfl (by (try simp only [List.map_toArray, List.map_cons, List.map_nil]); first | rfl ) ?_; (with_reducible refine (glisterlaw04_Thin.calls a0_0 a0_1 _ _ l0_2 _ _ l0_3 false _ ?side1 ?side2 ?side3 ?side4 A3.1).mono ?_); (case side1 => repeat (first | exact (Kd.C_below HR0_2.1 HB.1) )); (case side2 => exact HC0_2.1); (case side3 => repeat (first | exact (Kd.C_below HR0_3.1 HB.1) )); (case side4 => exact HC0_3.1); rintro e w17 ⟨rfl, hb⟩; refine ⟨_, rfl, ?_⟩; replace BK609 := Sd.mk (kB (g := gb609) (o := .cells #[.int .i64 a0_0, .int .i64 a0_1, .slice A0_2 l0_2.length c0_2, .slice A0_3 l0_3.length c0_3] 25 (0, 0)) (by (with_reducible repeat (fail)); exact BK609.1) hb); replace HB := Sd.mk (bT (by repeat (first | (with_reducible first | exact HB.1 ) )) hb); (try clear hb)))
  go_ret
  exact ⟨by first | rfl , by repeat (first | (with_reducible first | exact HB.1 ) )⟩
end Go.Proofs.Ytnidgkmopocdkaa.P
