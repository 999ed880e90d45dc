import Derived.Test.YtnidgkmopocdkaaA3P0
import Derived.Test.YtnidgkmopocdkaaA3P2
import Derived.Test.YtnidgkmopocdkaaA3P3
import Derived.Test.YtnidgkmopocdkaaA3P4
import Derived.Test.YtnidgkmopocdkaaA3P8
import Derived.Test.YtnidgkmopocdkaaA3P14
import Derived.Test.YtnidgkmopocdkaaA3P15
import Derived.Test.YtnidgkmopocdkaaA3P17
import Derived.Test.YtnidgkmopocdkaaA3HAwake
namespace Go.Proofs.Ytnidgkmopocdkaa.P
open Go.RowKit Go.Proofs.YtnidgkmopocdkaaW.PrintWords Go.Proofs.YtnidgkmopocdkaaW.PrintLast Go.Proofs.YtnidgkmopocdkaaW.PrintMore
attribute [local go_sem] max2_int min2_int max_two min_two max_three min_three max_four min_four   -- for this text's walks alone
set_option linter.unusedVariables false
set_option linter.unusedSimpArgs false
def glisterlaw04_CipherExposes.j0 : Nat → List (S58) → Bool → Int → Int → List (S82) → List Int → Option (Bool)
 | 0, _, _, _, _, _, _ => none
 | k + 1, x1, x15, x377000, x377001, x377002, x377003 => if x15 = true then ((glisterlaw04_awake.f).bind fun t378 => (some t378)) else ((glisterlaw04_Book.f k x377000 x377001 x377002 x377003).bind fun bt379 => ((glisterlaw04_Losses.f k x1).bind fun t387 => ((cipher_Exposed.f k bt379.1 bt379.2.1 bt379.2.2.1 bt379.2.2.2 t387).bind fun bt390 => ((glisterlaw04_lossy.f k x377000 x377001 x377002 x377003 x1).bind fun t394 => (if t394 = 0 then (if bt390.2 = 0 then ((glisterref04_Exposed.f k x377000 x377001 x377002 x377003 x1).bind fun t395 => ((glisterref04_Same.f k bt390.1 t395).bind fun t398 => (if t398 = true then ((glisterlaw04_awake.f).bind fun t399 => (some t399)) else (none)))) else (none)) else (if bt390.2 = t394 then (if (bt390.1.length : Int) = 0 then ((glisterlaw04_awake.f).bind fun t400 => (some t400)) else (none)) else (none)))))))
def glisterlaw04_CipherExposes.f (k : Nat) (a0_0 : Int) (a0_1 : Int) (l0_2 : List (S82)) (l0_3 : List Int) (l1 : List (S58)) : Option (Bool) := (glisterlaw04_Thin.f a0_0 a0_1 l0_2 l0_3).bind fun t377 => (if t377 = true then (glisterlaw04_CipherExposes.j0 k l1 (decide ((l1.length : Int) > 9)) a0_0 a0_1 l0_2 l0_3) else (glisterlaw04_CipherExposes.j0 k l1 true a0_0 a0_1 l0_2 l0_3))
set_option maxHeartbeats 8000000 in
set_option maxRecDepth 100000 in
theorem glisterlaw04_CipherExposes.calls (k : Nat) (a0_0 : Int) (a0_1 : Int) (A0_2 : Option Addr) (c0_2 : Nat) (l0_2 : List (S82)) (A0_3 : Option Addr) (c0_3 : Nat) (l0_3 : List Int) (A1 : Option Addr) (c1 : Nat) (l1 : List (S58)) (r : Bool) (w : World) (hr0_2 : Kd.C k82 w A0_2 l0_2.length l0_2) (hc0_2 : l0_2.length ≤ c0_2) (hr0_3 : Kd.C (Kd.int .i64) w A0_3 l0_3.length l0_3) (hc0_3 : l0_3.length ≤ c0_3) (hr1 : Kd.C k58 w A1 l1.length l1) (hc1 : l1.length ≤ c1) (h : glisterlaw04_CipherExposes.f k a0_0 a0_1 l0_2 l0_3 l1 = some r) :
  Calls Try.prog 5 #[.agg #[.int .i64 a0_0, .int .i64 a0_1, .slice A0_2 l0_2.length c0_2, .slice A0_3 l0_3.length c0_3], .slice A1 l1.length c1] w fun e w' => e = .returned (.bool r) ∧ Below w.heap.size w w' := by
 have hu25 := Try.underlying25
 have HR0_2 := Sd.mk hr0_2
 have HC0_2 := Sd.mk hc0_2
 clear hr0_2 hc0_2
 have HR0_3 := Sd.mk hr0_3
 have HC0_3 := Sd.mk hc0_3
 clear hr0_3 hc0_3
 have HR1 := Sd.mk hr1
 have HC1 := Sd.mk hc1
 clear hr1 hc1
 have HB := Sd.mk (Below.refl w.heap.size w)
 have H : ((glisterlaw04_Thin.f a0_0 a0_1 l0_2 l0_3).bind fun t377 => (if t377 = true then (glisterlaw04_CipherExposes.j0 k l1 (decide ((l1.length : Int) > 9)) a0_0 a0_1 l0_2 l0_3) else (glisterlaw04_CipherExposes.j0 k l1 true a0_0 a0_1 l0_2 l0_3))) = some r := h
 clear h
 have HC3 := Sd.mk H
 clear H
 go_enter Try.func5, Try.ntmps5
 go_upto_region 1 with (first | ((with_reducible refine gD (N := 2) rfl ?_); (try (refine gG (by rfl) ?_; dsimp only)); refine xE ?hg (N := 2) ?hd (cs := #[.int .i64 a0_0, .int .i64 a0_1, .slice A0_2 l0_2.length c0_2, .slice A0_3 l0_3.length c0_3]) (t := 25) ?hr ?_; (case hd => rfl); (case hg => rfl); (case hr => first | (go_simp; done) ); intro gb376 hg w4 hbox hb; have BK376 := Sd.mk (hbox); have GW376 := Sd.mk ((by rw [hg]; exact (bZ (by repeat (first | (with_reducible first | exact HB.1 ) ))) : w.heap.size ≤ gb376)); have GE376 := Sd.mk ((by rw [hg]; exact (bZ (by repeat (first | (with_reducible first | exact HB.1 ) ))) : w.heap.size ≤ gb376)); replace HB := Sd.mk (bT (by repeat (first | (with_reducible first | exact HB.1 ) )) hb); clear hb hbox hg))
 go_cut [15] (fun v15 wc => ∃ (kq : Nat) (x15_2 : Bool), v15 = .bool x15_2 ∧ Sd (glisterlaw04_CipherExposes.j0 kq l1 x15_2 a0_0 a0_1 l0_2 l0_3 = some r) ∧ Sd (kq ≤ k) ∧ Sd (wc.heap[gb376]? = some (.cells #[.int .i64 a0_0, .int .i64 a0_1, (.slice A0_2 l0_2.length c0_2), (.slice A0_3 l0_3.length c0_3)] 25 (0, 0))) ∧ Sd (Below w.heap.size w wc))
 case first =>
  have H := HC3.1
  clear HC3
  obtain ⟨t377, A50, H⟩ := Option.bind_eq_some_iff.mp H
  have A5 := Sd.mk A50
  clear A50
  by_cases c6 : t377 = true
  ·subst c6
   rw [if_pos rfl] at H
   have H' := Sd.mk H
   clear H
   have z_7_0 : w4.cell? ⟨gb376, 0, none⟩ = some (.int .i64 a0_0) := (kC BK376.1 0).trans rfl
   have z_7_1 : w4.cell? ⟨gb376, 1, none⟩ = some (.int .i64 a0_1) := (kC BK376.1 1).trans rfl
   have z_7_2 : w4.cell? ⟨gb376, 2, none⟩ = some (.slice A0_2 l0_2.length c0_2) := (kC BK376.1 2).trans rfl
   have z_7_3 : w4.cell? ⟨gb376, 3, none⟩ = some (.slice A0_3 l0_3.length c0_3) := (kC BK376.1 3).trans rfl
   go_wp2_with (first | ((with_reducible refine gate_callee (f := 16) rfl ?_); refine goesL_ (some 9) rfl rfl Try.func16 (by kernel_rfl) rfl #[.agg #[.int .i64 a0_0, .int .i64 a0_1, .slice A0_2 l0_2.length c0_2, .slice A0_3 l0_3.length c0_3]] rfl (by (try simp only [List.map_toArray, List.map_cons, List.map_nil]); first | rfl ) ?_; (with_reducible refine (glisterlaw04_Thin.calls a0_0 a0_1 _ _ l0_2 _ _ l0_3 true _ ?side1 ?side2 ?side3 ?side4 A5.1).mono ?_); (case side1 => repeat (first | exact (Kd.C_below HR0_2.1 HB.1) )); (case side2 => exact HC0_2.1); (case side3 => repeat (first | exact (Kd.C_below HR0_3.1 HB.1) )); (case side4 => exact HC0_3.1); rintro e w8 ⟨rfl, hb⟩; refine ⟨_, rfl, ?_⟩; replace BK376 := Sd.mk (kB (g := gb376) (o := .cells #[.int .i64 a0_0, .int .i64 a0_1, .slice A0_2 l0_2.length c0_2, .slice A0_3 l0_3.length c0_3] 25 (0, 0)) (by (with_reducible repeat (fail)); exact BK376.1) hb); replace HB := Sd.mk (bT (by repeat (first | (with_reducible first | exact HB.1 ) )) hb); (try clear hb)))
   go_meet
   case rel => exact ⟨_, (decide ((l1.length : Int) > 9)), (by first | rfl ), H', ⟨by first | omega ⟩, ⟨by (with_reducible repeat (fail)); exact BK376.1⟩, ⟨by repeat (first | (with_reducible first | exact HB.1 ) )⟩⟩
  ·replace c6 := Bool.eq_false_iff.mpr c6
   subst c6
   rw [if_neg (show ¬ (false = true) by decide)] at H
   have H' := Sd.mk H
   clear H
   have z_9_0 : w4.cell? ⟨gb376, 0, none⟩ = some (.int .i64 a0_0) := (kC BK376.1 0).trans rfl
   have z_9_1 : w4.cell? ⟨gb376, 1, none⟩ = some (.int .i64 a0_1) := (kC BK376.1 1).trans rfl
   have z_9_2 : w4.cell? ⟨gb376, 2, none⟩ = some (.slice A0_2 l0_2.length c0_2) := (kC BK376.1 2).trans rfl
   have z_9_3 : w4.cell? ⟨gb376, 3, none⟩ = some (.slice A0_3 l0_3.length c0_3) := (kC BK376.1 3).trans rfl
   go_wp2_with (first | ((with_reducible refine gate_callee (f := 16) rfl ?_); refine goesL_ (some 9) rfl rfl Try.func16 (by kernel_rfl) rfl #[.agg #[.int .i64 a0_0, .int .i64 a0_1, .slice A0_2 l0_2.length c0_2, .slice A0_3 l0_3.length c0_3]] rfl (by (try simp only [List.map_toArray, List.map_cons, List.map_nil]); first | rfl ) ?_; (with_reducible refine (glisterlaw04_Thin.calls a0_0 a0_1 _ _ l0_2 _ _ l0_3 false _ ?side1 ?side2 ?side3 ?side4 A5.1).mono ?_); (case side1 => repeat (first | exact (Kd.C_below HR0_2.1 HB.1) )); (case side2 => exact HC0_2.1); (case side3 => repeat (first | exact (Kd.C_below HR0_3.1 HB.1) )); (case side4 => exact HC0_3.1); rintro e w10 ⟨rfl, hb⟩; refine ⟨_, rfl, ?_⟩; replace BK376 := Sd.mk (kB (g := gb376) (o := .cells #[.int .i64 a0_0, .int .i64 a0_1, .slice A0_2 l0_2.length c0_2, .slice A0_3 l0_3.length c0_3] 25 (0, 0)) (by (with_reducible repeat (fail)); exact BK376.1) hb); replace HB := Sd.mk (bT (by repeat (first | (with_reducible first | exact HB.1 ) )) hb); (try clear hb)))
   go_meet
   case rel => exact ⟨_, (true), (by first | rfl ), H', ⟨by first | omega ⟩, ⟨by (with_reducible repeat (fail)); exact BK376.1⟩, ⟨by repeat (first | (with_reducible first | exact HB.1 ) )⟩⟩
 case rest =>
  clear HC3
  obtain ⟨kq, x15_2, rfl, HA, HJ2, BK376, HB⟩ := hcut
  cases kq with
  | zero => exact absurd HA.1 (by simp [glisterlaw04_CipherExposes.j0])
  | succ kj2 =>
   have H := HA.1
   clear HA
   simp only [glisterlaw04_CipherExposes.j0] at H
   by_cases c11 : x15_2 = true
   ·subst c11
    rw [if_pos rfl] at H
    obtain ⟨t378, A120, H⟩ := Option.bind_eq_some_iff.mp H
    have A12 := Sd.mk A120
    clear A120
    obtain rfl := Option.some.inj H
    go_wp2_with (first | ((with_reducible refine gate_callee (f := 17) rfl ?_); refine goesL_ (some 16) rfl rfl Try.func17 (by kernel_rfl) rfl #[] rfl (by (try simp only [List.map_toArray, List.map_cons, List.map_nil]); first | done ) ?_; (with_reducible refine (glisterlaw04_awake.calls  t378 _ A12.1).mono ?_); rintro e w13 ⟨rfl, hb⟩; refine ⟨_, rfl, ?_⟩; replace BK376 := Sd.mk (kB (g := gb376) (o := .cells #[.int .i64 a0_0, .int .i64 a0_1, .slice A0_2 l0_2.length c0_2, .slice A0_3 l0_3.length c0_3] 25 (0, 0)) (by (with_reducible repeat (fail)); exact BK376.1) hb); replace HB := Sd.mk (bT (by repeat (first | (with_reducible first | exact HB.1 ) )) hb); (try clear hb)))
    go_ret
    exact ⟨by first | rfl , by repeat (first | (with_reducible first | exact HB.1 ) )⟩
   ·replace c11 := Bool.eq_false_iff.mpr c11
    subst c11
    rw [if_neg (show ¬ (false = true) by decide)] at H
    replace H := Option.bind_eq_some_iff.mp H
    obtain ⟨⟨t379, t380, t381, t384⟩, A140, H⟩ := H
    replace H : ((glisterlaw04_Losses.f kj2 l1).bind fun t387 => ((cipher_Exposed.f kj2 t379 t380 t381 t384 t387).bind fun bt390 => ((glisterlaw04_lossy.f kj2 a0_0 a0_1 l0_2 l0_3 l1).bind fun t394 => (if t394 = 0 then (if bt390.2 = 0 then ((glisterref04_Exposed.f kj2 a0_0 a0_1 l0_2 l0_3 l1).bind fun t395 => ((glisterref04_Same.f kj2 bt390.1 t395).bind fun t398 => (if t398 = true then ((glisterlaw04_awake.f).bind fun t399 => (some t399)) else (none)))) else (none)) else (if bt390.2 = t394 then (if (bt390.1.length : Int) = 0 then ((glisterlaw04_awake.f).bind fun t400 => (some t400)) else (none)) else (none)))))) = some r := H
    have A14 := Sd.mk A140
    clear A140
    obtain ⟨t387, A150, H⟩ := Option.bind_eq_some_iff.mp H
    have A15 := Sd.mk A150
    clear A150
    replace H := Option.bind_eq_some_iff.mp H
    obtain ⟨⟨t390, t393⟩, A160, H⟩ := H
    replace H : ((glisterlaw04_lossy.f kj2 a0_0 a0_1 l0_2 l0_3 l1).bind fun t394 => (if t394 = 0 then (if t393 = 0 then ((glisterref04_Exposed.f kj2 a0_0 a0_1 l0_2 l0_3 l1).bind fun t395 => ((glisterref04_Same.f kj2 t390 t395).bind fun t398 => (if t398 = true then ((glisterlaw04_awake.f).bind fun t399 => (some t399)) else (none)))) else (none)) else (if t393 = t394 then (if (t390.length : Int) = 0 then ((glisterlaw04_awake.f).bind fun t400 => (some t400)) else (none)) else (none)))) = some r := H
    have A16 := Sd.mk A160
    clear A160
    obtain ⟨t394, A170, H⟩ := Option.bind_eq_some_iff.mp H
    have A17 := Sd.mk A170
    clear A170
    by_cases c18 : t394 = 0
    ·rw [if_pos c18] at H
     have c18b0 : (t394 == 0) = true := beq_iff_eq.mpr c18
     have c18b1 : (t394 != 0) = false := bne_eq_false_iff_eq.mpr c18
     clear c18
     by_cases c19 : t393 = 0
     ·rw [if_pos c19] at H
      have c19b0 : (t393 == 0) = true := beq_iff_eq.mpr c19
      have c19b1 : (t393 != 0) = false := bne_eq_false_iff_eq.mpr c19
      clear c19
      obtain ⟨t395, A200, H⟩ := Option.bind_eq_some_iff.mp H
      have A20 := Sd.mk A200
      clear A200
      obtain ⟨t398, A210, H⟩ := Option.bind_eq_some_iff.mp H
      have A21 := Sd.mk A210
      clear A210
      by_cases c22 : t398 = true
      ·subst c22
       rw [if_pos rfl] at H
       obtain ⟨t399, A230, H⟩ := Option.bind_eq_some_iff.mp H
       have A23 := Sd.mk A230
       clear A230
       obtain rfl := Option.some.inj H
       have z_24_0 : wc.cell? ⟨gb376, 0, none⟩ = some (.int .i64 a0_0) := (kC BK376.1 0).trans rfl
       have z_24_1 : wc.cell? ⟨gb376, 1, none⟩ = some (.int .i64 a0_1) := (kC BK376.1 1).trans rfl
       have z_24_2 : wc.cell? ⟨gb376, 2, none⟩ = some (.slice A0_2 l0_2.length c0_2) := (kC BK376.1 2).trans rfl
       have z_24_3 : wc.cell? ⟨gb376, 3, none⟩ = some (.slice A0_3 l0_3.length c0_3) := (kC BK376.1 3).trans rfl
       go_wp2_with (first | ((with_reducible refine gate_callee (f := 19) rfl ?_); refine goesL_ (some 19) rfl rfl Try.func19 (by kernel_rfl) rfl #[.agg #[.int .i64 a0_0, .int .i64 a0_1, .slice A0_2 l0_2.length c0_2, .slice A0_3 l0_3.length c0_3]] rfl (by (try simp only [List.map_toArray, List.map_cons, List.map_nil]); first | rfl ) ?_; (with_reducible refine (glisterlaw04_Book.calls kj2 a0_0 a0_1 _ _ l0_2 _ _ l0_3 t379 t380 t381 t384 _ ?side1 ?side2 ?side3 ?side4 A14.1).mono ?_); (case side1 => repeat (first | exact (Kd.C_below HR0_2.1 HB.1) )); (case side2 => exact HC0_2.1); (case side3 => repeat (first | exact (Kd.C_below HR0_3.1 HB.1) )); (case side4 => exact HC0_3.1); rintro e w25 ⟨v382, v385, rfl, ho0, ho1, hb⟩; refine ⟨_, rfl, ?_⟩; have HO383 := Sd.mk (Kd.R_lower ho0 (bZ (by repeat (first | (with_reducible first | exact HB.1 ) )))); have HO386 := Sd.mk (Kd.R_lower ho1 (bZ (by repeat (first | (with_reducible first | exact HB.1 ) )))); replace BK376 := Sd.mk (kB (g := gb376) (o := .cells #[.int .i64 a0_0, .int .i64 a0_1, .slice A0_2 l0_2.length c0_2, .slice A0_3 l0_3.length c0_3] 25 (0, 0)) (by (with_reducible repeat (fail)); exact BK376.1) hb); replace HB := Sd.mk (bT (by repeat (first | (with_reducible first | exact HB.1 ) )) hb); (try clear hb); (try clear ho0); (try clear ho1)) | ((with_reducible refine gate_callee (f := 30) rfl ?_); refine goesL_ (some 21) rfl rfl Try.func30 (by kernel_rfl) rfl #[.slice A1 l1.length c1] rfl (by (try simp only [List.map_toArray, List.map_cons, List.map_nil]); first | rfl ) ?_; (with_reducible refine (glisterlaw04_Losses.calls kj2 _ _ l1 t387 _ ?side1 ?side2 A15.1).mono ?_); (case side1 => repeat (first | exact (Kd.C_below HR1.1 HB.1) )); (case side2 => exact HC1.1); rintro e w26 ⟨v388, rfl, ho0, hb⟩; refine ⟨_, rfl, ?_⟩; replace HO383 := Sd.mk (Kd.R_below (by (with_reducible repeat (fail)); exact HO383.1) hb); replace HO386 := Sd.mk (Kd.R_below (by (with_reducible repeat (fail)); exact HO386.1) hb); have HO389 := Sd.mk (Kd.R_lower ho0 (bZ (by repeat (first | (with_reducible first | exact HB.1 ) )))); replace BK376 := Sd.mk (kB (g := gb376) (o := .cells #[.int .i64 a0_0, .int .i64 a0_1, .slice A0_2 l0_2.length c0_2, .slice A0_3 l0_3.length c0_3] 25 (0, 0)) (by (with_reducible repeat (fail)); exact BK376.1) hb); replace HB := Sd.mk (bT (by repeat (first | (with_reducible first | exact HB.1 ) )) hb); (try clear hb); (try clear ho0); obtain ⟨Ao27, co27, eo27⟩ := Kd.R_slice HO383.1; subst eo27; obtain ⟨Ao28, co28, eo28⟩ := Kd.R_slice HO386.1; subst eo28; obtain ⟨Ao29, co29, eo29⟩ := Kd.R_slice HO389.1; subst eo29) | ((with_reducible refine gate_callee (f := 29) rfl ?_); refine goesL_ (some 22) rfl rfl Try.func29 (by kernel_rfl) rfl #[.agg #[.int .i64 t379, .int .i64 t380, .slice Ao27 t381.length co27, .slice Ao28 t384.length co28], .slice Ao29 t387.length co29] rfl (by (try simp only [List.map_toArray, List.map_cons, List.map_nil]); first | rfl ) ?_; (with_reducible refine (cipher_Exposed.calls kj2 t379 t380 _ _ t381 _ _ t384 _ _ t387 t390 t393 _ ?side1 ?side2 ?side3 ?side4 ?side5 ?side6 A16.1).mono ?_); (case side1 => repeat (first | exact (Kd.R_reads' HO383.1).2.2 )); (case side2 => exact (Kd.R_reads' HO383.1).2.1); (case side3 => repeat (first | exact (Kd.R_reads' HO386.1).2.2 )); (case side4 => exact (Kd.R_reads' HO386.1).2.1); (case side5 => repeat (first | exact (Kd.R_reads' HO389.1).2.2 )); (case side6 => exact (Kd.R_reads' HO389.1).2.1); rintro e w30 ⟨v391, rfl, ho0, hb⟩; refine ⟨_, rfl, ?_⟩; replace HO383 := Sd.mk (Kd.R_below (by (with_reducible repeat (fail)); exact HO383.1) hb); replace HO389 := Sd.mk (Kd.R_below (by (with_reducible repeat (fail)); exact HO389.1) hb); have HO392 := Sd.mk (Kd.R_lower (Kd.R_new' ho0 (Kd.R_lt (by (with_reducible repeat (fail)); exact HO386.1))) (bZ (by repeat (first | (with_reducible first | exact HB.1 ) )))); replace HO386 := Sd.mk (Kd.R_elder' (by (with_reducible repeat (fail)); exact HO386.1) (Kd.R_base ho0) hb); replace BK376 := Sd.mk (kB (g := gb376) (o := .cells #[.int .i64 a0_0, .int .i64 a0_1, .slice A0_2 l0_2.length c0_2, .slice A0_3 l0_3.length c0_3] 25 (0, 0)) (by (with_reducible repeat (fail)); exact BK376.1) hb); replace HB := Sd.mk (bT (by repeat (first | (with_reducible first | exact HB.1 ) )) hb); (try clear hb); (try clear ho0); have z_31_0 : w30.cell? ⟨gb376, 0, none⟩ = some (.int .i64 a0_0) := (kC BK376.1 0).trans rfl; have z_31_1 : w30.cell? ⟨gb376, 1, none⟩ = some (.int .i64 a0_1) := (kC BK376.1 1).trans rfl; have z_31_2 : w30.cell? ⟨gb376, 2, none⟩ = some (.slice A0_2 l0_2.length c0_2) := (kC BK376.1 2).trans rfl; have z_31_3 : w30.cell? ⟨gb376, 3, none⟩ = some (.slice A0_3 l0_3.length c0_3) := (kC BK376.1 3).trans rfl) | ((with_reducible refine gate_callee (f := 31) rfl ?_); refine goesL_ (some 27) rfl rfl Try.func31 (by kernel_rfl) rfl #[.agg #[.int .i64 a0_0, .int .i64 a0_1, .slice A0_2 l0_2.length c0_2, .slice A0_3 l0_3.length c0_3], .slice A1 l1.length c1] rfl (by (try simp only [List.map_toArray, List.map_cons, List.map_nil]); first | rfl ) ?_; (with_reducible refine (glisterlaw04_lossy.calls kj2 a0_0 a0_1 _ _ l0_2 _ _ l0_3 _ _ l1 t394 _ ?side1 ?side2 ?side3 ?side4 ?side5 ?side6 A17.1).mono ?_); (case side1 => repeat (first | exact (Kd.C_below HR0_2.1 HB.1) )); (case side2 => exact HC0_2.1); (case side3 => repeat (first | exact (Kd.C_below HR0_3.1 HB.1) )); (case side4 => exact HC0_3.1); (case side5 => repeat (first | exact (Kd.C_below HR1.1 HB.1) )); (case side6 => exact HC1.1); rintro e w32 ⟨rfl, hb⟩; refine ⟨_, rfl, ?_⟩; replace HO383 := Sd.mk (Kd.R_below (by (with_reducible repeat (fail)); exact HO383.1) hb); replace HO386 := Sd.mk (Kd.R_below (by (with_reducible repeat (fail)); exact HO386.1) hb); replace HO389 := Sd.mk (Kd.R_below (by (with_reducible repeat (fail)); exact HO389.1) hb); replace HO392 := Sd.mk (Kd.R_below (by (with_reducible repeat (fail)); exact HO392.1) hb); replace BK376 := Sd.mk (kB (g := gb376) (o := .cells #[.int .i64 a0_0, .int .i64 a0_1, .slice A0_2 l0_2.length c0_2, .slice A0_3 l0_3.length c0_3] 25 (0, 0)) (by (with_reducible repeat (fail)); exact BK376.1) hb); replace HB := Sd.mk (bT (by repeat (first | (with_reducible first | exact HB.1 ) )) hb); (try clear hb); have z_33_0 : w32.cell? ⟨gb376, 0, none⟩ = some (.int .i64 a0_0) := (kC BK376.1 0).trans rfl; have z_33_1 : w32.cell? ⟨gb376, 1, none⟩ = some (.int .i64 a0_1) := (kC BK376.1 1).trans rfl; have z_33_2 : w32.cell? ⟨gb376, 2, none⟩ = some (.slice A0_2 l0_2.length c0_2) := (kC BK376.1 2).trans rfl; have z_33_3 : w32.cell? ⟨gb376, 3, none⟩ = some (.slice A0_3 l0_3.length c0_3) := (kC BK376.1 3).trans rfl) | (go_at_call 32; (with_reducible refine (glisterref04_Exposed.calls kj2 a0_0 a0_1 _ _ l0_2 _ _ l0_3 _ _ l1 t395 _ ?side1 ?side2 ?side3 ?side4 ?side5 ?side6 A20.1).mono ?_); (case side1 => repeat (first | exact (Kd.C_below HR0_2.1 HB.1) )); (case side2 => exact HC0_2.1); (case side3 => repeat (first | exact (Kd.C_below HR0_3.1 HB.1) )); (case side4 => exact HC0_3.1); (case side5 => repeat (first | exact (Kd.C_below HR1.1 HB.1) )); (case side6 => exact HC1.1); rintro e w34 ⟨v396, rfl, ho0, hb⟩; replace HO383 := Sd.mk (Kd.R_below (by (with_reducible repeat (fail)); exact HO383.1) hb); replace HO389 := Sd.mk (Kd.R_below (by (with_reducible repeat (fail)); exact HO389.1) hb); have HO397 := Sd.mk (Kd.R_lower (Kd.R_new' (Kd.R_new' ho0 (Kd.R_lt (by (with_reducible repeat (fail)); exact HO386.1))) (Kd.R_lt (by (with_reducible repeat (fail)); exact HO392.1))) (bZ (by repeat (first | (with_reducible first | exact HB.1 ) )))); replace HO386 := Sd.mk (Kd.R_elder' (by (with_reducible repeat (fail)); exact HO386.1) (Kd.R_base ho0) hb); replace HO392 := Sd.mk (Kd.R_elder' (by (with_reducible repeat (fail)); exact HO392.1) (Kd.R_base ho0) hb); replace BK376 := Sd.mk (kB (g := gb376) (o := .cells #[.int .i64 a0_0, .int .i64 a0_1, .slice A0_2 l0_2.length c0_2, .slice A0_3 l0_3.length c0_3] 25 (0, 0)) (by (with_reducible repeat (fail)); exact BK376.1) hb); replace HB := Sd.mk (bT (by repeat (first | (with_reducible first | exact HB.1 ) )) hb); (try clear hb); (try clear ho0); obtain ⟨Ao35, co35, eo35⟩ := Kd.R_slice HO392.1; subst eo35; obtain ⟨Ao36, co36, eo36⟩ := Kd.R_slice HO397.1; subst eo36) | (go_at_call 25; (with_reducible refine (glisterref04_Same.calls kj2 _ _ t390 _ _ t395 true _ ?side1 ?side2 ?side3 ?side4 A21.1).mono ?_); (case side1 => repeat (first | exact (Kd.R_reads' HO392.1).2.2 )); (case side2 => exact (Kd.R_reads' HO392.1).2.1); (case side3 => repeat (first | exact (Kd.R_reads' HO397.1).2.2 )); (case side4 => exact (Kd.R_reads' HO397.1).2.1); rintro e w' ⟨rfl, ⟨nd, rfl⟩⟩) | (go_at_call 17; (with_reducible refine (glisterlaw04_awake.calls  t399 _ A23.1).mono ?_); rintro e w37 ⟨rfl, hb⟩; replace HO383 := Sd.mk (Kd.R_below (by (with_reducible repeat (apply Kd.R_drewN )); exact HO383.1) hb); replace HO386 := Sd.mk (Kd.R_below (by (with_reducible repeat (apply Kd.R_drewN )); exact HO386.1) hb); replace HO389 := Sd.mk (Kd.R_below (by (with_reducible repeat (apply Kd.R_drewN )); exact HO389.1) hb); replace HO392 := Sd.mk (Kd.R_below (by (with_reducible repeat (apply Kd.R_drewN )); exact HO392.1) hb); replace HO397 := Sd.mk (Kd.R_below (by (with_reducible repeat (apply Kd.R_drewN )); exact HO397.1) hb); replace BK376 := Sd.mk (kB (g := gb376) (o := .cells #[.int .i64 a0_0, .int .i64 a0_1, .slice A0_2 l0_2.length c0_2, .slice A0_3 l0_3.length c0_3] 25 (0, 0)) (by (with_reducible repeat (refine kN ?_ _ )); exact BK376.1) hb); replace HB := Sd.mk (bT (by repeat (first | (with_reducible first | exact HB.1 | apply bN ) )) hb); (try clear hb)))
       go_ret
       exact ⟨by first | rfl , by repeat (first | (with_reducible first | exact HB.1 ) )⟩
      ·replace c22 := Bool.eq_false_iff.mpr c22
       subst c22
       rw [if_neg (show ¬ (false = true) by decide)] at H
       exact absurd H (by simp)
     ·rw [if_neg c19] at H
      exact absurd H (by simp)
    ·rw [if_neg c18] at H
     have c18b0 : (t394 == 0) = false := beq_eq_false_iff_ne.mpr c18
     have c18b1 : (t394 != 0) = true := bne_iff_ne.mpr c18
     by_cases c38 : t393 = t394
     ·rw [if_pos c38] at H
      have c38b0 : (t393 == t394) = true := beq_iff_eq.mpr c38
      have c38b1 : (t393 != t394) = false := bne_eq_false_iff_eq.mpr c38
      clear c38
      by_cases c39 : (t390.length : Int) = 0
      ·rw [if_pos c39] at H
       have c39b0 : ((t390.length : Int) == 0) = true := beq_iff_eq.mpr c39
       have c39b1 : ((t390.length : Int) != 0) = false := bne_eq_false_iff_eq.mpr c39
       clear c39
       obtain ⟨t400, A400, H⟩ := Option.bind_eq_some_iff.mp H
       have A40 := Sd.mk A400
       clear A400
       obtain rfl := Option.some.inj H
       have z_41_0 : wc.cell? ⟨gb376, 0, none⟩ = some (.int .i64 a0_0) := (kC BK376.1 0).trans rfl
       have z_41_1 : wc.cell? ⟨gb376, 1, none⟩ = some (.int .i64 a0_1) := (kC BK376.1 1).trans rfl
       have z_41_2 : wc.cell? ⟨gb376, 2, none⟩ = some (.slice A0_2 l0_2.length c0_2) := (kC BK376.1 2).trans rfl
       have z_41_3 : wc.cell? ⟨gb376, 3, none⟩ = some (.slice A0_3 l0_3.length c0_3) := (kC BK376.1 3).trans rfl
       go_wp2_with (first | ((with_reducible refine gate_callee (f := 19) rfl ?_); refine goesL_ (some 19) rfl rfl Try.func19 (by kernel_rfl) rfl #[.agg #[.int .i64 a0_0, .int .i64 a0_1, .slice A0_2 l0_2.length c0_2, .slice A0_3 l0_3.length c0_3]] rfl (by (try simp only [List.map_toArray, List.map_cons, List.map_nil]); first | rfl ) ?_; (with_reducible refine (glisterlaw04_Book.calls kj2 a0_0 a0_1 _ _ l0_2 _ _ l0_3 t379 t380 t381 t384 _ ?side1 ?side2 ?side3 ?side4 A14.1).mono ?_); (case side1 => repeat (first | exact (Kd.C_below HR0_2.1 HB.1) )); (case side2 => exact HC0_2.1); (case side3 => repeat (first | exact (Kd.C_below HR0_3.1 HB.1) )); (case side4 => exact HC0_3.1); rintro e w42 ⟨v382, v385, rfl, ho0, ho1, hb⟩; refine ⟨_, rfl, ?_⟩; have HO383 := Sd.mk (Kd.R_lower ho0 (bZ (by repeat (first | (with_reducible first | exact HB.1 ) )))); have HO386 := Sd.mk (Kd.R_lower ho1 (bZ (by repeat (first | (with_reducible first | exact HB.1 ) )))); replace BK376 := Sd.mk (kB (g := gb376) (o := .cells #[.int .i64 a0_0, .int .i64 a0_1, .slice A0_2 l0_2.length c0_2, .slice A0_3 l0_3.length c0_3] 25 (0, 0)) (by (with_reducible repeat (fail)); exact BK376.1) hb); replace HB := Sd.mk (bT (by repeat (first | (with_reducible first | exact HB.1 ) )) hb); (try clear hb); (try clear ho0); (try clear ho1)) | ((with_reducible refine gate_callee (f := 30) rfl ?_); refine goesL_ (some 21) rfl rfl Try.func30 (by kernel_rfl) rfl #[.slice A1 l1.length c1] rfl (by (try simp only [List.map_toArray, List.map_cons, List.map_nil]); first | rfl ) ?_; (with_reducible refine (glisterlaw04_Losses.calls kj2 _ _ l1 t387 _ ?side1 ?side2 A15.1).mono ?_); (case side1 => repeat (first | exact (Kd.C_below HR1.1 HB.1) )); (case side2 => exact HC1.1); rintro e w43 ⟨v388, rfl, ho0, hb⟩; refine ⟨_, rfl, ?_⟩; replace HO383 := Sd.mk (Kd.R_below (by (with_reducible repeat (fail)); exact HO383.1) hb); replace HO386 := Sd.mk (Kd.R_below (by (with_reducible repeat (fail)); exact HO386.1) hb); have HO389 := Sd.mk (Kd.R_lower ho0 (bZ (by repeat (first | (with_reducible first | exact HB.1 ) )))); replace BK376 := Sd.mk (kB (g := gb376) (o := .cells #[.int .i64 a0_0, .int .i64 a0_1, .slice A0_2 l0_2.length c0_2, .slice A0_3 l0_3.length c0_3] 25 (0, 0)) (by (with_reducible repeat (fail)); exact BK376.1) hb); replace HB := Sd.mk (bT (by repeat (first | (with_reducible first | exact HB.1 ) )) hb); (try clear hb); (try clear ho0); obtain ⟨Ao44, co44, eo44⟩ := Kd.R_slice HO383.1; subst eo44; obtain ⟨Ao45, co45, eo45⟩ := Kd.R_slice HO386.1; subst eo45; obtain ⟨Ao46, co46, eo46⟩ := Kd.R_slice HO389.1; subst eo46) | ((with_reducible refine gate_callee (f := 29) rfl ?_); refine goesL_ (some 22) rfl rfl Try.func29 (by kernel_rfl) rfl #[.agg #[.int .i64 t379, .int .i64 t380, .slice Ao44 t381.length co44, .slice Ao45 t384.length co45], .slice Ao46 t387.length co46] rfl (by (try simp only [List.map_toArray, List.map_cons, List.map_nil]); first | rfl ) ?_; (with_reducible refine (cipher_Exposed.calls kj2 t379 t380 _ _ t381 _ _ t384 _ _ t387 t390 t393 _ ?side1 ?side2 ?side3 ?side4 ?side5 ?side6 A16.1).mono ?_); (case side1 => repeat (first | exact (Kd.R_reads' HO383.1).2.2 )); (case side2 => exact (Kd.R_reads' HO383.1).2.1); (case side3 => repeat (first | exact (Kd.R_reads' HO386.1).2.2 )); (case side4 => exact (Kd.R_reads' HO386.1).2.1); (case side5 => repeat (first | exact (Kd.R_reads' HO389.1).2.2 )); (case side6 => exact (Kd.R_reads' HO389.1).2.1); rintro e w47 ⟨v391, rfl, ho0, hb⟩; refine ⟨_, rfl, ?_⟩; replace HO383 := Sd.mk (Kd.R_below (by (with_reducible repeat (fail)); exact HO383.1) hb); replace HO389 := Sd.mk (Kd.R_below (by (with_reducible repeat (fail)); exact HO389.1) hb); have HO392 := Sd.mk (Kd.R_lower (Kd.R_new' ho0 (Kd.R_lt (by (with_reducible repeat (fail)); exact HO386.1))) (bZ (by repeat (first | (with_reducible first | exact HB.1 ) )))); replace HO386 := Sd.mk (Kd.R_elder' (by (with_reducible repeat (fail)); exact HO386.1) (Kd.R_base ho0) hb); replace BK376 := Sd.mk (kB (g := gb376) (o := .cells #[.int .i64 a0_0, .int .i64 a0_1, .slice A0_2 l0_2.length c0_2, .slice A0_3 l0_3.length c0_3] 25 (0, 0)) (by (with_reducible repeat (fail)); exact BK376.1) hb); replace HB := Sd.mk (bT (by repeat (first | (with_reducible first | exact HB.1 ) )) hb); (try clear hb); (try clear ho0); have z_48_0 : w47.cell? ⟨gb376, 0, none⟩ = some (.int .i64 a0_0) := (kC BK376.1 0).trans rfl; have z_48_1 : w47.cell? ⟨gb376, 1, none⟩ = some (.int .i64 a0_1) := (kC BK376.1 1).trans rfl; have z_48_2 : w47.cell? ⟨gb376, 2, none⟩ = some (.slice A0_2 l0_2.length c0_2) := (kC BK376.1 2).trans rfl; have z_48_3 : w47.cell? ⟨gb376, 3, none⟩ = some (.slice A0_3 l0_3.length c0_3) := (kC BK376.1 3).trans rfl) | ((with_reducible refine gate_callee (f := 31) rfl ?_); refine goesL_ (some 27) rfl rfl Try.func31 (by kernel_rfl) rfl #[.agg #[.int .i64 a0_0, .int .i64 a0_1, .slice A0_2 l0_2.length c0_2, .slice A0_3 l0_3.length c0_3], .slice A1 l1.length c1] rfl (by (try simp only [List.map_toArray, List.map_cons, List.map_nil]); first | rfl ) ?_; (with_reducible refine (glisterlaw04_lossy.calls kj2 a0_0 a0_1 _ _ l0_2 _ _ l0_3 _ _ l1 t394 _ ?side1 ?side2 ?side3 ?side4 ?side5 ?side6 A17.1).mono ?_); (case side1 => repeat (first | exact (Kd.C_below HR0_2.1 HB.1) )); (case side2 => exact HC0_2.1); (case side3 => repeat (first | exact (Kd.C_below HR0_3.1 HB.1) )); (case side4 => exact HC0_3.1); (case side5 => repeat (first | exact (Kd.C_below HR1.1 HB.1) )); (case side6 => exact HC1.1); rintro e w49 ⟨rfl, hb⟩; refine ⟨_, rfl, ?_⟩; replace HO383 := Sd.mk (Kd.R_below (by (with_reducible repeat (fail)); exact HO383.1) hb); replace HO386 := Sd.mk (Kd.R_below (by (with_reducible repeat (fail)); exact HO386.1) hb); replace HO389 := Sd.mk (Kd.R_below (by (with_reducible repeat (fail)); exact HO389.1) hb); replace HO392 := Sd.mk (Kd.R_below (by (with_reducible repeat (fail)); exact HO392.1) hb); replace BK376 := Sd.mk (kB (g := gb376) (o := .cells #[.int .i64 a0_0, .int .i64 a0_1, .slice A0_2 l0_2.length c0_2, .slice A0_3 l0_3.length c0_3] 25 (0, 0)) (by (with_reducible repeat (fail)); exact BK376.1) hb); replace HB := Sd.mk (bT (by repeat (first | (with_reducible first | exact HB.1 ) )) hb); (try clear hb); obtain ⟨Ao50, co50, eo50⟩ := Kd.R_slice HO392.1; subst eo50) | (go_at_call 17; (with_reducible refine (glisterlaw04_awake.calls  t400 _ A40.1).mono ?_); rintro e w51 ⟨rfl, hb⟩; replace HO383 := Sd.mk (Kd.R_below (by (with_reducible repeat (fail)); exact HO383.1) hb); replace HO386 := Sd.mk (Kd.R_below (by (with_reducible repeat (fail)); exact HO386.1) hb); replace HO389 := Sd.mk (Kd.R_below (by (with_reducible repeat (fail)); exact HO389.1) hb); replace HO392 := Sd.mk (Kd.R_below (by (with_reducible repeat (fail)); exact HO392.1) hb); replace BK376 := Sd.mk (kB (g := gb376) (o := .cells #[.int .i64 a0_0, .int .i64 a0_1, .slice A0_2 l0_2.length c0_2, .slice A0_3 l0_3.length c0_3] 25 (0, 0)) (by (with_reducible repeat (fail)); exact BK376.1) hb); replace HB := Sd.mk (bT (by repeat (first | (with_reducible first | exact HB.1 ) )) hb); (try clear hb)))
       go_ret
       exact ⟨by first | rfl , by repeat (first | (with_reducible first | exact HB.1 ) )⟩
      ·rw [if_neg c39] at H
       exact absurd H (by simp)
     ·rw [if_neg c38] at H
      exact absurd H (by simp)
end Go.Proofs.Ytnidgkmopocdkaa.P
