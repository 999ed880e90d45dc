import Derived.Test.YtnidgkmopocdkaaA13P0
import Derived.Test.YtnidgkmopocdkaaA13P1
import Derived.Test.YtnidgkmopocdkaaA13P2
import Derived.Test.YtnidgkmopocdkaaA13HCheck
import Derived.Test.YtnidgkmopocdkaaA13HTurn
import Derived.Test.YtnidgkmopocdkaaA13HTurn2
import Derived.Test.YtnidgkmopocdkaaA13HWords
namespace Go.Proofs.Ytnidgkmopocdkaa.P
open Go.RowKit Go.Proofs.YtnidgkmopocdkaaW.PrintWords Go.Proofs.YtnidgkmopocdkaaW.PrintLast Go.Proofs.YtnidgkmopocdkaaW.PrintMore
attribute [local go_sem] max2_int min2_int max_two min_two max_three min_three max_four min_four   -- for this text's walks alone
set_option linter.unusedVariables false
set_option linter.unusedSimpArgs false
def cipher_Decode.j0 : Nat → Int → List Int → Int → Bool → Int → Int → List (S91) → List Int → Option (List Int × List Int × Int)
 | 0, _, _, _, _, _, _, _, _ => none
 | k + 1, x1, x2, x10, x24, x160000, x160001, x160002, x160003 => if x24 = true then (some (([] : List Int), ([] : List Int), 4)) else (if 0 < (x2.length : Int) then ((cipher_Book_indicator.f x160000 x160001 x160002 x160003 x1).bind fun t165 => (if (rd x2 0) = t165 then (if 0 ≤ x10 then (if x10 < (x2.length : Int) then (if x10 ≤ (x2.length : Int) then ((cipher_Book_check.f k x160000 x160001 x160002 x160003 (x2.take (x10 : Int).toNat)).bind fun t168 => (if (rd x2 x10) = t168 then (if 0 ≤ x1 then (if x1 < (x160003.length : Int) then (if 0 ≤ (rd x160003 x1) then (if (rd x160003 x1) < (x160002.length : Int) then (if 1 ≤ x10 then ((cipher_turned_decode.f x160000 x160001 x160002 x160003 ((rd_T91 x160002 (rd x160003 x1)).f0) ((rd_T91 x160002 (rd x160003 x1)).f1) ((rd_T91 x160002 (rd x160003 x1)).f2) ((x2.take (x10 : Int).toNat).drop 1)).bind fun t172 => ((cipher_words.f t172 x160000 x160001 x160002 x160003).bind fun t175 => (some (t172, t175, 0)))) else (none)) else (none)) else (none)) else (none)) else (none)) else (some (([] : List Int), ([] : List Int), 11)))) else (none)) else (none)) else (none)) else (some (([] : List Int), ([] : List Int), 8)))) else (none))
def cipher_Decode.f (k : Nat) (a0_0 : Int) (a0_1 : Int) (l0_2 : List (S91)) (l0_3 : List Int) (a1 : Int) (l2 : List Int) : Option (List Int × List Int × Int) := (cipher_CheckBook.f a0_0 a0_1 l0_2 l0_3).bind fun t160 => (if t160 = 0 then ((cipher_Book_day.f a0_0 a0_1 l0_2 l0_3 a1).bind fun t161 => (if t161 = true then ((cipher_within.f (wrap64 ((l2.length : Int) - 1)) 1 11).bind fun t162 => (if t162 = true then ((cipher_all_plain.f l2 a0_0 a0_1 l0_2 l0_3).bind fun t163 => (cipher_Decode.j0 k a1 l2 (wrap64 ((l2.length : Int) - 1)) (!t163) a0_0 a0_1 l0_2 l0_3)) else (cipher_Decode.j0 k a1 l2 (wrap64 ((l2.length : Int) - 1)) true a0_0 a0_1 l0_2 l0_3))) else (some (([] : List Int), ([] : List Int), 2)))) else (some (([] : List Int), ([] : List Int), t160)))
def cipher_Decode.T9 : Bool × List (List Nat × List Nat) := (true, [([], []), ([0], [0]), ([1], [1]), ([], []), ([], []), ([3, 4], [3, 4]), ([2, 5], [2, 5]), ([6, 5], [6])])
def cipher_Decode.B9 : List Nat := [0, 1, 3, 0, 0, 24, 63, 127]
theorem cipher_Decode.tab9 : rtab .any (opsOf Try.f27 9) = cipher_Decode.T9 := by kernel_rfl
theorem cipher_Decode.bits9 : waitsOk cipher_Decode.T9.2 cipher_Decode.B9 = true := by kernel_rfl
def cipher_Decode.T11 : Bool × List (List Nat × List Nat) := (true, [([], []), ([], []), ([0, 1], [0, 1]), ([2], [2]), ([], []), ([], []), ([], []), ([5, 6], [5, 6]), ([4, 7], [4, 7]), ([3, 8], [3, 8]), ([9, 8], [9])])
def cipher_Decode.B11 : List Nat := [0, 0, 3, 7, 0, 0, 0, 96, 240, 511, 1023]
theorem cipher_Decode.tab11 : rtab .any (opsOf Try.f27 11) = cipher_Decode.T11 := by kernel_rfl
theorem cipher_Decode.bits11 : waitsOk cipher_Decode.T11.2 cipher_Decode.B11 = true := by kernel_rfl
def cipher_Decode.T13 : Bool × List (List Nat × List Nat) := (true, [([], []), ([], []), ([], []), ([2], [2]), ([], []), ([4], [4]), ([], []), ([5, 6], [5, 6]), ([7], [7]), ([3, 8], [3, 8]), ([9], [9]), ([], []), ([], []), ([11, 12], [11, 12]), ([0, 1, 10, 13], [0, 1, 10, 13]), ([14, 14, 0, 1, 2, 3, 4, 5, 6, 7, 8, 9, 10, 11, 12, 13, 14], [14])])
def cipher_Decode.B13 : List Nat := [0, 0, 0, 4, 0, 16, 0, 112, 240, 508, 1020, 0, 0, 6144, 16383, 32767]
theorem cipher_Decode.tab13 : rtab .any (opsOf Try.f27 13) = cipher_Decode.T13 := by kernel_rfl
theorem cipher_Decode.bits13 : waitsOk cipher_Decode.T13.2 cipher_Decode.B13 = true := by kernel_rfl
set_option maxHeartbeats 8000000 in
set_option maxRecDepth 100000 in
theorem cipher_Decode.calls (k : Nat) (a0_0 : Int) (a0_1 : Int) (A0_2 : Option Addr) (c0_2 : Nat) (l0_2 : List (S91)) (A0_3 : Option Addr) (c0_3 : Nat) (l0_3 : List Int) (a1 : Int) (A2 : Option Addr) (c2 : Nat) (l2 : List Int) (r1 : List Int) (r2 : List Int) (r3 : Int) (w : World) (hr0_2 : Kd.C k91 w A0_2 l0_2.length l0_2) (hc0_2 : l0_2.length ≤ c0_2) (hr0_3 : Kd.C (Kd.int .i64) w A0_3 l0_3.length l0_3) (hc0_3 : l0_3.length ≤ c0_3) (hr2 : Kd.C (Kd.int .i64) w A2 l2.length l2) (hc2 : l2.length ≤ c2) (h : cipher_Decode.f k a0_0 a0_1 l0_2 l0_3 a1 l2 = some (r1, r2, r3)) :
  Calls Try.prog 27 #[.agg #[.int .i64 a0_0, .int .i64 a0_1, .slice A0_2 l0_2.length c0_2, .slice A0_3 l0_3.length c0_3], .int .i64 a1, .slice A2 l2.length c2] w fun e w' => ∃ v0_ v1_ : Value, e = .returned (.tuple #[v0_, v1_, .int .i64 r3]) ∧ Kd.R (Kd.int .i64) 3 w' w.heap.size (fun k_ => some k_ ≠ (v1_ : Value).ownBlock) v0_ r1 ∧ Kd.R (Kd.int .i64) 3 w' w.heap.size (fun k_ => some k_ ≠ (v0_ : Value).ownBlock) v1_ r2 ∧ Below w.heap.size w w' := by
 have hu32 := Try.underlying32
 have hu91 := Try.underlying91
 have HR0_2 := Sd.mk hr0_2
 have HC0_2 := Sd.mk hc0_2
 clear hr0_2 hc0_2
 have HR0_3 := Sd.mk hr0_3
 have HC0_3 := Sd.mk hc0_3
 clear hr0_3 hc0_3
 have HR2 := Sd.mk hr2
 have HC2 := Sd.mk hc2
 clear hr2 hc2
 have HB := Sd.mk (Below.refl w.heap.size w)
 have H : ((cipher_CheckBook.f a0_0 a0_1 l0_2 l0_3).bind fun t160 => (if t160 = 0 then ((cipher_Book_day.f a0_0 a0_1 l0_2 l0_3 a1).bind fun t161 => (if t161 = true then ((cipher_within.f (wrap64 ((l2.length : Int) - 1)) 1 11).bind fun t162 => (if t162 = true then ((cipher_all_plain.f l2 a0_0 a0_1 l0_2 l0_3).bind fun t163 => (cipher_Decode.j0 k a1 l2 (wrap64 ((l2.length : Int) - 1)) (!t163) a0_0 a0_1 l0_2 l0_3)) else (cipher_Decode.j0 k a1 l2 (wrap64 ((l2.length : Int) - 1)) true a0_0 a0_1 l0_2 l0_3))) else (some (([] : List Int), ([] : List Int), 2)))) else (some (([] : List Int), ([] : List Int), t160)))) = some (r1, r2, r3) := h
 clear h
 obtain ⟨t160, A40, H⟩ := Option.bind_eq_some_iff.mp H
 have A4 := Sd.mk A40
 clear A40
 by_cases c5 : t160 = 0
 ·rw [if_pos c5] at H
  have c5b0 : (t160 == 0) = true := beq_iff_eq.mpr c5
  have c5b1 : (t160 != 0) = false := bne_eq_false_iff_eq.mpr c5
  clear c5
  obtain ⟨t161, A60, H⟩ := Option.bind_eq_some_iff.mp H
  have A6 := Sd.mk A60
  clear A60
  by_cases c7 : t161 = true
  ·subst c7
   rw [if_pos rfl] at H
   have HC8 := Sd.mk H
   clear H
   go_enter Try.func27, Try.ntmps27
   go_upto_region 7 with (first | ((with_reducible refine gD (N := 3) rfl ?_); refine xE ?hg (N := 3) ?hd (cs := #[.int .i64 a0_0, .int .i64 a0_1, .slice A0_2 l0_2.length c0_2, .slice A0_3 l0_3.length c0_3]) (t := 32) ?hr ?_; (case hd => rfl); (case hg => rfl); (case hr => first | (go_simp; done) ); intro gb159 hg w9 hbox hb; have BK159 := Sd.mk (hbox); have GW159 := Sd.mk ((by rw [hg]; exact (bZ (by repeat (first | (with_reducible first | exact HB.1 ) ))) : w.heap.size ≤ gb159)); have GE159 := Sd.mk ((by rw [hg]; exact (bZ (by repeat (first | (with_reducible first | exact HB.1 ) ))) : w.heap.size ≤ gb159)); replace HB := Sd.mk (bT (by repeat (first | (with_reducible first | exact HB.1 ) )) hb); clear hb hbox hg; have z_10_0 : w9.cell? ⟨gb159, 0, none⟩ = some (.int .i64 a0_0) := (kC BK159.1 0).trans rfl; have z_10_1 : w9.cell? ⟨gb159, 1, none⟩ = some (.int .i64 a0_1) := (kC BK159.1 1).trans rfl; have z_10_2 : w9.cell? ⟨gb159, 2, none⟩ = some (.slice A0_2 l0_2.length c0_2) := (kC BK159.1 2).trans rfl; have z_10_3 : w9.cell? ⟨gb159, 3, none⟩ = some (.slice A0_3 l0_3.length c0_3) := (kC BK159.1 3).trans rfl) | ((with_reducible refine gate_callee (f := 18) rfl ?_); refine goesL_ (some 12) rfl rfl Try.func18 (by kernel_rfl) rfl #[.agg #[.int .i64 a0_0, .int .i64 a0_1, .slice A0_2 l0_2.length c0_2, .slice A0_3 l0_3.length c0_3]] rfl (by (try simp only [List.map_toArray, List.map_cons, List.map_nil]); first | rfl ) ?_; (with_reducible refine (cipher_CheckBook.calls a0_0 a0_1 _ _ l0_2 _ _ l0_3 t160 _ ?side1 ?side2 ?side3 ?side4 A4.1).mono ?_); (case side1 => repeat (first | exact (Kd.C_below HR0_2.1 HB.1) )); (case side2 => exact HC0_2.1); (case side3 => repeat (first | exact (Kd.C_below HR0_3.1 HB.1) )); (case side4 => exact HC0_3.1); rintro e w11 ⟨rfl, hb⟩; refine ⟨_, rfl, ?_⟩; replace BK159 := Sd.mk (kB (g := gb159) (o := .cells #[.int .i64 a0_0, .int .i64 a0_1, .slice A0_2 l0_2.length c0_2, .slice A0_3 l0_3.length c0_3] 32 (0, 0)) (by (with_reducible repeat (fail)); exact BK159.1) hb); replace HB := Sd.mk (bT (by repeat (first | (with_reducible first | exact HB.1 ) )) hb); (try clear hb); have z_12_0 : w11.cell? ⟨gb159, 0, none⟩ = some (.int .i64 a0_0) := (kC BK159.1 0).trans rfl; have z_12_1 : w11.cell? ⟨gb159, 1, none⟩ = some (.int .i64 a0_1) := (kC BK159.1 1).trans rfl; have z_12_2 : w11.cell? ⟨gb159, 2, none⟩ = some (.slice A0_2 l0_2.length c0_2) := (kC BK159.1 2).trans rfl; have z_12_3 : w11.cell? ⟨gb159, 3, none⟩ = some (.slice A0_3 l0_3.length c0_3) := (kC BK159.1 3).trans rfl) | ((with_reducible refine gate_callee (f := 56) rfl ?_); refine goesL_ (some 22) rfl rfl Try.func56 (by kernel_rfl) rfl #[.agg #[.int .i64 a0_0, .int .i64 a0_1, .slice A0_2 l0_2.length c0_2, .slice A0_3 l0_3.length c0_3], .int .i64 a1] rfl (by (try simp only [List.map_toArray, List.map_cons, List.map_nil]); first | rfl ) ?_; (with_reducible refine (cipher_Book_day.calls a0_0 a0_1 _ _ l0_2 _ _ l0_3 a1 true _ ?side1 ?side2 ?side3 ?side4 A6.1).mono ?_); (case side1 => repeat (first | exact (Kd.C_below HR0_2.1 HB.1) )); (case side2 => exact HC0_2.1); (case side3 => repeat (first | exact (Kd.C_below HR0_3.1 HB.1) )); (case side4 => exact HC0_3.1); rintro e w13 ⟨rfl, hb⟩; refine ⟨_, rfl, ?_⟩; replace BK159 := Sd.mk (kB (g := gb159) (o := .cells #[.int .i64 a0_0, .int .i64 a0_1, .slice A0_2 l0_2.length c0_2, .slice A0_3 l0_3.length c0_3] 32 (0, 0)) (by (with_reducible repeat (fail)); exact BK159.1) hb); replace HB := Sd.mk (bT (by repeat (first | (with_reducible first | exact HB.1 ) )) hb); (try clear hb)))
   go_cut [24] (fun v24 wc => ∃ (kq : Nat) (x24_7 : Bool), v24 = .bool x24_7 ∧ Sd (cipher_Decode.j0 kq a1 l2 (wrap64 ((l2.length : Int) - 1)) x24_7 a0_0 a0_1 l0_2 l0_3 = some (r1, r2, r3)) ∧ Sd (kq ≤ k) ∧ Sd (wc.heap[gb159]? = some (.cells #[.int .i64 a0_0, .int .i64 a0_1, (.slice A0_2 l0_2.length c0_2), (.slice A0_3 l0_3.length c0_3)] 32 (0, 0))) ∧ Sd (Below w.heap.size w wc))
   case first =>
    have H := HC8.1
    clear HC8
    obtain ⟨t162, A140, H⟩ := Option.bind_eq_some_iff.mp H
    have A14 := Sd.mk A140
    clear A140
    by_cases c15 : t162 = true
    ·subst c15
     rw [if_pos rfl] at H
     obtain ⟨t163, A160, H⟩ := Option.bind_eq_some_iff.mp H
     have A16 := Sd.mk A160
     clear A160
     have H' := Sd.mk H
     clear H
     go_wp2_with (first | ((with_reducible refine gate_callee (f := 51) rfl ?_); refine goesL_ (some 26) rfl rfl Try.func51 (by kernel_rfl) rfl #[.int .i64 (wrap64 ((l2.length : Int) - 1)), .int .i64 1, .int .i64 11] rfl (by (try simp only [List.map_toArray, List.map_cons, List.map_nil]); first | rfl ) ?_; (with_reducible refine (cipher_within.calls (wrap64 ((l2.length : Int) - 1)) 1 11 true _ A14.1).mono ?_); rintro e w' ⟨rfl, ⟨nd, rfl⟩⟩; refine ⟨_, rfl, ?_⟩; have z_17_0 : w13.cell? ⟨gb159, 0, none⟩ = some (.int .i64 a0_0) := (kC BK159.1 0).trans rfl; have z_17_1 : w13.cell? ⟨gb159, 1, none⟩ = some (.int .i64 a0_1) := (kC BK159.1 1).trans rfl; have z_17_2 : w13.cell? ⟨gb159, 2, none⟩ = some (.slice A0_2 l0_2.length c0_2) := (kC BK159.1 2).trans rfl; have z_17_3 : w13.cell? ⟨gb159, 3, none⟩ = some (.slice A0_3 l0_3.length c0_3) := (kC BK159.1 3).trans rfl) | (go_at_call 54; (with_reducible refine (cipher_all_plain.calls _ _ l2 a0_0 a0_1 _ _ l0_2 _ _ l0_3 t163 _ ?side1 ?side2 ?side3 ?side4 ?side5 ?side6 A16.1).mono ?_); (case side1 => repeat (first | exact (Kd.C_below HR2.1 (by repeat (first | (with_reducible first | exact HB.1 | apply bN ) ))) )); (case side2 => exact HC2.1); (case side3 => repeat (first | exact (Kd.C_below HR0_2.1 (by repeat (first | (with_reducible first | exact HB.1 | apply bN ) ))) )); (case side4 => exact HC0_2.1); (case side5 => repeat (first | exact (Kd.C_below HR0_3.1 (by repeat (first | (with_reducible first | exact HB.1 | apply bN ) ))) )); (case side6 => exact HC0_3.1); rintro e w18 ⟨rfl, hb⟩; replace BK159 := Sd.mk (kB (g := gb159) (o := .cells #[.int .i64 a0_0, .int .i64 a0_1, .slice A0_2 l0_2.length c0_2, .slice A0_3 l0_3.length c0_3] 32 (0, 0)) (by (with_reducible repeat (refine kN ?_ _ )); exact BK159.1) hb); replace HB := Sd.mk (bT (by repeat (first | (with_reducible first | exact HB.1 | apply bN ) )) hb); (try clear hb)))
     go_meet
     case rel => exact ⟨_, (!t163), (by first | rfl ), H', ⟨by first | omega ⟩, ⟨by (with_reducible repeat (fail)); exact BK159.1⟩, ⟨by repeat (first | (with_reducible first | exact HB.1 ) )⟩⟩
    ·replace c15 := Bool.eq_false_iff.mpr c15
     subst c15
     rw [if_neg (show ¬ (false = true) by decide)] at H
     have H' := Sd.mk H
     clear H
     go_wp2_with (first | ((with_reducible refine gate_callee (f := 51) rfl ?_); refine goesL_ (some 26) rfl rfl Try.func51 (by kernel_rfl) rfl #[.int .i64 (wrap64 ((l2.length : Int) - 1)), .int .i64 1, .int .i64 11] rfl (by (try simp only [List.map_toArray, List.map_cons, List.map_nil]); first | rfl ) ?_; (with_reducible refine (cipher_within.calls (wrap64 ((l2.length : Int) - 1)) 1 11 false _ A14.1).mono ?_); rintro e w' ⟨rfl, ⟨nd, rfl⟩⟩; refine ⟨_, rfl, ?_⟩))
     go_meet
     case rel => exact ⟨_, (true), (by first | rfl ), H', ⟨by first | omega ⟩, ⟨by (with_reducible repeat (refine kN ?_ _ )); exact BK159.1⟩, ⟨by repeat (first | (with_reducible first | exact HB.1 | apply bN ) )⟩⟩
   case rest =>
    clear HC8
    clear c5b0 c5b1
    clear z_10_0 z_10_1 z_10_2 z_10_3 z_12_0 z_12_1 z_12_2 z_12_3
    obtain ⟨kq, x24_7, rfl, HA, HJ7, BK159, HB⟩ := hcut
    cases kq with
    | zero => exact absurd HA.1 (by simp [cipher_Decode.j0])
    | succ kj7 =>
     have H := HA.1
     clear HA
     simp only [cipher_Decode.j0] at H
     by_cases c19 : x24_7 = true
     ·subst c19
      rw [if_pos rfl] at H
      simp only [Option.some.injEq, Prod.mk.injEq] at H
      obtain ⟨rfl, rfl, rfl⟩ := H
      go_wp2
      go_ret3
      exact ⟨_, _, by first | rfl , by first | exact Kd.R_nil _ _ _ _ _ , by first | exact Kd.R_nil _ _ _ _ _ , by repeat (first | (with_reducible first | exact HB.1 ) )⟩
     ·replace c19 := Bool.eq_false_iff.mpr c19
      subst c19
      rw [if_neg (show ¬ (false = true) by decide)] at H
      by_cases c20 : 0 < (l2.length : Int)
      ·rw [if_pos c20] at H
       have c20b0 : decide (0 < (l2.length : Int)) = true := decide_eq_true c20
       have c20b1 : decide (0 < l2.length) = true := decide_eq_true (by omega)
       clear c20
       obtain ⟨t165, A210, H⟩ := Option.bind_eq_some_iff.mp H
       have A21 := Sd.mk A210
       clear A210
       by_cases c22 : (rd l2 0) = t165
       ·rw [if_pos c22] at H
        have c22b0 : ((rd l2 0) == t165) = true := beq_iff_eq.mpr c22
        have c22b1 : ((rd l2 0) != t165) = false := bne_eq_false_iff_eq.mpr c22
        clear c22
        obtain ⟨ji23, hji23⟩ : ∃ j_ : Int, (wrap64 ((l2.length : Int) - 1)) = j_ := ⟨_, rfl⟩
        replace H : (if 0 ≤ (ji23) then (if (ji23) < (l2.length : Int) then (if (ji23) ≤ (l2.length : Int) then ((cipher_Book_check.f kj7 a0_0 a0_1 l0_2 l0_3 (l2.take ((ji23) : Int).toNat)).bind fun t168 => (if (rd l2 (ji23)) = t168 then (if 0 ≤ a1 then (if a1 < (l0_3.length : Int) then (if 0 ≤ (rd l0_3 a1) then (if (rd l0_3 a1) < (l0_2.length : Int) then (if 1 ≤ (ji23) then ((cipher_turned_decode.f a0_0 a0_1 l0_2 l0_3 ((rd_T91 l0_2 (rd l0_3 a1)).f0) ((rd_T91 l0_2 (rd l0_3 a1)).f1) ((rd_T91 l0_2 (rd l0_3 a1)).f2) ((l2.take ((ji23) : Int).toNat).drop 1)).bind fun t172 => ((cipher_words.f t172 a0_0 a0_1 l0_2 l0_3).bind fun t175 => (some (t172, t175, 0)))) else (none)) else (none)) else (none)) else (none)) else (none)) else (some (([] : List Int), ([] : List Int), 11)))) else (none)) else (none)) else (none)) = some (r1, r2, r3) := by first | (rw [hji23] at H; exact H) 
        have hji23w : (IntKind.i64.wrap ((l2.length : Int) - 1)) = ji23 := (i64_w _).trans hji23
        by_cases c24 : 0 ≤ (ji23)
        ·rw [if_pos c24] at H
         have c24b0 : decide (0 ≤ (ji23)) = true := decide_eq_true c24
         clear c24
         by_cases c25 : (ji23) < (l2.length : Int)
         ·rw [if_pos c25] at H
          have c25b0 : decide ((ji23) < (l2.length : Int)) = true := decide_eq_true c25
          clear c25
          have c26b0 := eq_true (of_decide_eq_true (by first | (with_reducible assumption) ) : 0 ≤ (ji23))
          by_cases c27 : (ji23) ≤ (l2.length : Int)
          ·rw [if_pos c27] at H
           have c27b0 := eq_true c27
           have c27b1 : decide ((ji23) ≤ (l2.length : Int)) = true := decide_eq_true c27
           clear c27
           obtain ⟨t168, A280, H⟩ := Option.bind_eq_some_iff.mp H
           have A28 := Sd.mk A280
           clear A280
           by_cases c29 : (rd l2 (ji23)) = t168
           ·rw [if_pos c29] at H
            have c29b0 : ((rd l2 (ji23)) == t168) = true := beq_iff_eq.mpr c29
            have c29b1 : ((rd l2 (ji23)) != t168) = false := bne_eq_false_iff_eq.mpr c29
            clear c29
            by_cases c30 : 0 ≤ a1
            ·rw [if_pos c30] at H
             have c30b0 : decide (0 ≤ a1) = true := decide_eq_true c30
             clear c30
             by_cases c31 : a1 < (l0_3.length : Int)
             ·rw [if_pos c31] at H
              have c31b0 : decide (a1 < (l0_3.length : Int)) = true := decide_eq_true c31
              clear c31
              by_cases c32 : 0 ≤ (rd l0_3 a1)
              ·rw [if_pos c32] at H
               have c32b0 : decide (0 ≤ (rd l0_3 a1)) = true := decide_eq_true c32
               clear c32
               by_cases c33 : (rd l0_3 a1) < (l0_2.length : Int)
               ·rw [if_pos c33] at H
                have c33b0 : decide ((rd l0_3 a1) < (l0_2.length : Int)) = true := decide_eq_true c33
                clear c33
                by_cases c34 : 1 ≤ (ji23)
                ·rw [if_pos c34] at H
                 have c34b0 := eq_true c34
                 have c34b1 : decide (1 ≤ (ji23)) = true := decide_eq_true c34
                 clear c34
                 have c35b0 := eq_true (of_decide_eq_true (by first | (with_reducible assumption) ) : (ji23) ≤ (l2.length : Int))
                 obtain ⟨t172, A360, H⟩ := Option.bind_eq_some_iff.mp H
                 have A36 := Sd.mk A360
                 clear A360
                 obtain ⟨t175, A370, H⟩ := Option.bind_eq_some_iff.mp H
                 have A37 := Sd.mk A370
                 clear A370
                 simp only [Option.some.injEq, Prod.mk.injEq] at H
                 obtain ⟨rfl, rfl, rfl⟩ := H
                 try go_wp2
                 have n0_ := Sd.mk (kD BK159.1)
                 have n1_ := Sd.mk (bD HB.1)
                 clear BK159
                 clear HB
                 have BK159 := n0_
                 have HB := n1_
                 clear n0_ n1_
                 have p164 : 0 ≤ (0 : Int) := (by omega)
                 have q164 : 0 < (l2.length : Int) := of_decide_eq_true (by first | (with_reducible assumption) )
                 obtain ⟨ad164, e164, hx164_0⟩ := Kd.at_int HR2.1 0 p164 q164
                 have hw164_0 := hx164_0
                 (try rw [show ((0 : Int)).toNat = 0 from rfl] at hw164_0)
                 (try rw [Addr.add_zero'] at hw164_0)
                 cases e164
                 have qi164 : (0 < l2.length) = True := eq_true (by omega)
                 (try rw [show ((0 : Int)).toNat = 0 from rfl] at hx164_0)
                 (try rw [Addr.add_zero'] at hx164_0)
                 replace hx164_0 := (HB.1.cell (World.block_lt_of_cell? w _ hx164_0)).trans hx164_0
                 replace p164 := eq_true p164
                 replace q164 := eq_true q164
                 refine start_ (n := 8) (S := fun w' => w'.cell? ⟨gb159, 0, none⟩ = some (.int .i64 a0_0) ∧ w'.cell? ⟨gb159, 1, none⟩ = some (.int .i64 a0_1) ∧ w'.cell? ⟨gb159, 2, none⟩ = some (.slice A0_2 l0_2.length c0_2) ∧ w'.cell? ⟨gb159, 3, none⟩ = some (.slice A0_3 l0_3.length c0_3) ∧ w'.cell? ad164 = some (.int .i64 (rd l2 0))) (ds := []) #[false, false, false, false, false, false, false, false] (by kernel_rfl) rfl rfl ⟨(kC BK159.1 0).trans rfl, (kC BK159.1 1).trans rfl, (kC BK159.1 2).trans rfl, (kC BK159.1 3).trans rfl, ((HB.1.cell (World.block_lt_of_cell? w _ hw164_0)).trans hw164_0)⟩ (fun hHeld => ?_); refine with_tabW cipher_Decode.tab9 cipher_Decode.bits9 (fun HT_ HW_ => ?_)
                 generalize wc.drew = w38 at BK159 HB hx164_0 hHeld ⊢
                 refine pure_ (i := 0) (N := some 36) (v := ?_) (a' := ?_) #[true, false, false, false, false, false, false, false] rfl rfl (any_of HT_.1 (by kernel_rfl)) (fun _ _ _ h => h) (Or.inl ⟨by rfl, ?_⟩) ?_ ?_
                 rotate_left
                 ·intro w'
                  go_simp
                  with_reducible rfl
                 rotate_left
                 ·simp only [Act.put, List.setIfInBounds_toArray, List.set_cons_zero, List.set_cons_succ, i64_w, i32_w]
                  rfl
                 refine pure_ (i := 1) (N := some 37) (v := ?_) (a' := ?_) #[true, true, false, false, false, false, false, false] rfl rfl (any_of HT_.1 (by kernel_rfl)) (fun _ _ _ h => h) (Or.inl ⟨by rfl, ?_⟩) ?_ ?_
                 rotate_left
                 ·intro w'
                  go_simp
                  with_reducible rfl
                 rotate_left
                 ·simp only [Act.put, List.setIfInBounds_toArray, List.set_cons_zero, List.set_cons_succ, i64_w, i32_w]
                  rfl
                 refine pure_ (i := 4) (N := some 40) (v := ?_) (a' := ?_) #[true, true, false, false, true, false, false, false] rfl rfl (any_of HT_.1 (by kernel_rfl)) (fun _ _ _ h => h) (Or.inl ⟨by rfl, ?_⟩) ?_ ?_
                 rotate_left
                 ·intro w'
                  go_simp
                  with_reducible rfl
                 rotate_left
                 ·simp only [Act.put, List.setIfInBounds_toArray, List.set_cons_zero, List.set_cons_succ, i64_w, i32_w]
                  rfl
                 refine take_ (i := 2) (N := some 38) (v := ?_) (a' := ?_) #[true, true, true, false, true, false, false, false] rfl rfl (take_ofW HT_.1 HW_.1 (by kernel_rfl)) (fun _ _ _ h => h) (Or.inl ⟨by rfl, ?_⟩) hHeld ?_ ?_
                 rotate_left
                 ·rintro w' ⟨s0, s1, s2, s3, s4⟩
                  go_simp
                  with_reducible rfl
                 rotate_left
                 ·simp only [Act.put, List.setIfInBounds_toArray, List.set_cons_zero, List.set_cons_succ, i64_w, i32_w]
                  rfl
                 refine take_ (i := 3) (N := some 39) (v := ?_) (a' := ?_) #[true, true, true, true, true, false, false, false] rfl rfl (take_ofW HT_.1 HW_.1 (by kernel_rfl)) (fun _ _ _ h => h) (Or.inl ⟨by rfl, ?_⟩) hHeld ?_ ?_
                 rotate_left
                 ·rintro w' ⟨s0, s1, s2, s3, s4⟩
                  go_simp
                  with_reducible rfl
                 rotate_left
                 ·simp only [Act.put, List.setIfInBounds_toArray, List.set_cons_zero, List.set_cons_succ, i64_w, i32_w]
                  rfl
                 refine one_ (i := 5) (N := some 41) #[true, true, true, true, true, true, false, false] rfl rfl (one_of HT_.1 (by kernel_rfl)) (by decide) (fun K hK => ?_)
                 refine goes_ Try.func58 (by kernel_rfl) rfl #[.agg #[.int .i64 a0_0, .int .i64 a0_1, .slice A0_2 l0_2.length c0_2, .slice A0_3 l0_3.length c0_3], .int .i64 a1] (by rfl) rfl rfl (by (try simp only [List.map_toArray, List.map_cons, List.map_nil]); first | rfl ) ?_
                 with_reducible refine (cipher_Book_indicator.calls a0_0 a0_1 _ _ l0_2 _ _ l0_3 a1 t165 _ ?side1 ?side2 ?side3 ?side4 A21.1).mono ?_
                 (case side1 => repeat (first | exact (Kd.C_below HR0_2.1 HB.1) ))
                 (case side2 => exact HC0_2.1)
                 (case side3 => repeat (first | exact (Kd.C_below HR0_3.1 HB.1) ))
                 (case side4 => exact HC0_3.1)
                 rintro e w39 ⟨rfl, hb⟩
                 refine ⟨_, rfl, ?_⟩
                 have n0_ := Sd.mk (kB (g := gb159) (o := .cells #[.int .i64 a0_0, .int .i64 a0_1, .slice A0_2 l0_2.length c0_2, .slice A0_3 l0_3.length c0_3] 32 (0, 0)) (by (with_reducible repeat (fail)); exact BK159.1) hb)
                 have n1_ := Sd.mk (bT (by repeat (first | (with_reducible first | exact HB.1 ) )) hb)
                 clear BK159
                 clear HB
                 have BK159 := n0_
                 have HB := n1_
                 clear n0_ n1_
                 (try clear hb)
                 refine hK.out _ _ ⟨(kC BK159.1 0).trans rfl, (kC BK159.1 1).trans rfl, (kC BK159.1 2).trans rfl, (kC BK159.1 3).trans rfl, ((HB.1.cell (World.block_lt_of_cell? w _ hw164_0)).trans hw164_0)⟩ (fun hHeld => ?_)
                 clear hK K
                 refine norm_ (a' := ?_) ?_ ?_
                 rotate_left
                 ·show Act.put _ (some 41) _ = _
                  simp only [Act.put, List.setIfInBounds_toArray, List.set_cons_zero, List.set_cons_succ, i64_w, i32_w]
                  rfl
                 refine pure_ (i := 6) (N := some 42) (v := ?_) (a' := ?_) #[true, true, true, true, true, true, true, false] rfl rfl (any_of HT_.1 (by kernel_rfl)) (fun _ _ _ h => h) (Or.inl ⟨by rfl, ?_⟩) ?_ ?_
                 rotate_left
                 ·intro w'
                  go_simp
                  with_reducible rfl
                 rotate_left
                 ·simp only [Act.put, List.setIfInBounds_toArray, List.set_cons_zero, List.set_cons_succ, i64_w, i32_w]
                  rfl
                 refine pure_ (i := 7) (N := some 35) (v := ?_) (a' := ?_) #[true, true, true, true, true, true, true, true] rfl rfl (any_of HT_.1 (by kernel_rfl)) (fun _ _ _ h => h) (Or.inl ⟨by rfl, ?_⟩) ?_ ?_
                 rotate_left
                 ·intro w'
                  go_simp
                  with_reducible rfl
                 rotate_left
                 ·simp only [Act.put, List.setIfInBounds_toArray, List.set_cons_zero, List.set_cons_succ, i64_w, i32_w]
                  rfl
                 refine done_ (done_of HT_.1 (by kernel_rfl)) ?_
                 try go_wp2
                 have n0_ := Sd.mk (kD BK159.1)
                 have n1_ := Sd.mk (bD HB.1)
                 clear BK159
                 clear HB
                 have BK159 := n0_
                 have HB := n1_
                 clear n0_ n1_
                 have p166 : 0 ≤ ((ji23) : Int) := of_decide_eq_true (by first | (with_reducible assumption) )
                 have q166 : (ji23) < (l2.length : Int) := of_decide_eq_true (by first | (with_reducible assumption) )
                 obtain ⟨ad166, e166, hx166_0⟩ := Kd.at_int HR2.1 (ji23) p166 q166
                 have hw166_0 := hx166_0
                 obtain rfl : ad164 = ad166 := (by injection e166)
                 replace hx166_0 := (HB.1.cell (World.block_lt_of_cell? w _ hx166_0)).trans hx166_0
                 replace p166 := eq_true p166
                 replace q166 := eq_true q166
                 obtain ⟨i041, hi041, _, hsz41, _⟩ := info_parts info3
                 obtain ⟨hcut41, hA41, hC41⟩ := print_take_of (P := Try.prog) (Value.int .i64) 0 23 3 .i64 Try.underlying23 hi041 hsz41 (some ad164) c2 l2 (ji23) (of_decide_eq_true (by first | (with_reducible assumption) )) (of_decide_eq_true (by first | (with_reducible assumption) )) HC2.1
                 have HR167 := Sd.mk (Kd.C_of_reads (h1 := fun _ => rfl) (hA41 _ (Kd.reads_of_C HR2.1)))
                 have HC167 := Sd.mk hC41
                 clear hA41 hC41 hi041 hsz41
                 refine start_ (n := 11) (S := fun w' => w'.cell? ⟨gb159, 0, none⟩ = some (.int .i64 a0_0) ∧ w'.cell? ⟨gb159, 1, none⟩ = some (.int .i64 a0_1) ∧ w'.cell? ⟨gb159, 2, none⟩ = some (.slice A0_2 l0_2.length c0_2) ∧ w'.cell? ⟨gb159, 3, none⟩ = some (.slice A0_3 l0_3.length c0_3) ∧ w'.cell? (ad164.add ((ji23)).toNat) = some (.int .i64 (rd l2 (ji23)))) (ds := []) #[false, false, false, false, false, false, false, false, false, false, false] (by kernel_rfl) rfl rfl ⟨(kC BK159.1 0).trans rfl, (kC BK159.1 1).trans rfl, (kC BK159.1 2).trans rfl, (kC BK159.1 3).trans rfl, ((HB.1.cell (World.block_lt_of_cell? w _ hw166_0)).trans hw166_0)⟩ (fun hHeld => ?_); refine with_tabW cipher_Decode.tab11 cipher_Decode.bits11 (fun HT_ HW_ => ?_)
                 generalize w39.drew = w40 at BK159 HB HR167 hx166_0 hHeld ⊢
                 refine pure_ (i := 0) (N := some 44) (v := ?_) (a' := ?_) #[true, false, false, false, false, false, false, false, false, false, false] rfl rfl (any_of HT_.1 (by kernel_rfl)) (fun _ _ _ h => h) (Or.inl ⟨by rfl, ?_⟩) ?_ ?_
                 rotate_left
                 ·intro w'
                  go_simp
                  with_reducible rfl
                 rotate_left
                 ·simp only [Act.put, List.setIfInBounds_toArray, List.set_cons_zero, List.set_cons_succ, i64_w, i32_w]
                  rfl
                 refine pure_ (i := 1) (N := some 45) (v := ?_) (a' := ?_) #[true, true, false, false, false, false, false, false, false, false, false] rfl rfl (any_of HT_.1 (by kernel_rfl)) (fun _ _ _ h => h) (Or.inl ⟨by rfl, ?_⟩) ?_ ?_
                 rotate_left
                 ·intro w'
                  go_simp
                  with_reducible rfl
                 rotate_left
                 ·simp only [Act.put, List.setIfInBounds_toArray, List.set_cons_zero, List.set_cons_succ, i64_w, i32_w]
                  rfl
                 refine pure_ (i := 2) (N := some 46) (v := ?_) (a' := ?_) #[true, true, true, false, false, false, false, false, false, false, false] rfl rfl (any_of HT_.1 (by kernel_rfl)) (fun _ _ _ h => h) (Or.inl ⟨by rfl, ?_⟩) ?_ ?_
                 rotate_left
                 ·intro w'
                  go_simp
                  with_reducible rfl
                 rotate_left
                 ·simp only [Act.put, List.setIfInBounds_toArray, List.set_cons_zero, List.set_cons_succ, i64_w, i32_w]
                  rfl
                 refine pure_ (i := 5) (N := some 49) (v := ?_) (a' := ?_) #[true, true, true, false, false, true, false, false, false, false, false] rfl rfl (any_of HT_.1 (by kernel_rfl)) (fun _ _ _ h => h) (Or.inl ⟨by rfl, ?_⟩) ?_ ?_
                 rotate_left
                 ·intro w'
                  go_simp
                  with_reducible rfl
                 rotate_left
                 ·simp only [Act.put, List.setIfInBounds_toArray, List.set_cons_zero, List.set_cons_succ, i64_w, i32_w]
                  rfl
                 refine pure_ (i := 6) (N := some 50) (v := ?_) (a' := ?_) #[true, true, true, false, false, true, true, false, false, false, false] rfl rfl (any_of HT_.1 (by kernel_rfl)) (fun _ _ _ h => h) (Or.inl ⟨by rfl, ?_⟩) ?_ ?_
                 rotate_left
                 ·intro w'
                  go_simp
                  with_reducible rfl
                 rotate_left
                 ·simp only [Act.put, List.setIfInBounds_toArray, List.set_cons_zero, List.set_cons_succ, i64_w, i32_w]
                  rfl
                 refine pure_ (i := 7) (N := some 51) (v := ?_) (a' := ?_) #[true, true, true, false, false, true, true, true, false, false, false] rfl rfl (any_of HT_.1 (by kernel_rfl)) (fun _ _ _ h => h) (Or.inl ⟨by rfl, ?_⟩) ?_ ?_
                 rotate_left
                 ·intro w'
                  go_simp
                  with_reducible rfl
                 rotate_left
                 ·simp only [Act.put, List.setIfInBounds_toArray, List.set_cons_zero, List.set_cons_succ, i64_w, i32_w]
                  rfl
                 refine take_ (i := 3) (N := some 47) (v := ?_) (a' := ?_) #[true, true, true, true, false, true, true, true, false, false, false] rfl rfl (take_ofW HT_.1 HW_.1 (by kernel_rfl)) (fun _ _ _ h => h) (Or.inl ⟨by rfl, ?_⟩) hHeld ?_ ?_
                 rotate_left
                 ·rintro w' ⟨s0, s1, s2, s3, s4⟩
                  go_simp
                  with_reducible rfl
                 rotate_left
                 ·simp only [Act.put, List.setIfInBounds_toArray, List.set_cons_zero, List.set_cons_succ, i64_w, i32_w]
                  rfl
                 refine take_ (i := 4) (N := some 48) (v := ?_) (a' := ?_) #[true, true, true, true, true, true, true, true, false, false, false] rfl rfl (take_ofW HT_.1 HW_.1 (by kernel_rfl)) (fun _ _ _ h => h) (Or.inl ⟨by rfl, ?_⟩) hHeld ?_ ?_
                 rotate_left
                 ·rintro w' ⟨s0, s1, s2, s3, s4⟩
                  go_simp
                  with_reducible rfl
                 rotate_left
                 ·simp only [Act.put, List.setIfInBounds_toArray, List.set_cons_zero, List.set_cons_succ, i64_w, i32_w]
                  rfl
                 refine one_ (i := 8) (N := some 52) #[true, true, true, true, true, true, true, true, true, false, false] rfl rfl (one_of HT_.1 (by kernel_rfl)) (by decide) (fun K hK => ?_)
                 refine goes_ Try.func61 (by kernel_rfl) rfl #[.agg #[.int .i64 a0_0, .int .i64 a0_1, .slice A0_2 l0_2.length c0_2, .slice A0_3 l0_3.length c0_3], .slice (some ad164) (l2.take ((ji23) : Int).toNat).length c2] (by rfl) rfl rfl (by (try simp only [List.map_toArray, List.map_cons, List.map_nil]); first | (rw [show (l2.take ((ji23) : Int).toNat).length = (ji23).toNat from (by rw [List.length_take]; have h_ : ((ji23) : Int) ≤ (l2.length : Int) := of_decide_eq_true (by first | (with_reducible assumption) ); omega)] <;> rfl) ) ?_
                 with_reducible refine (cipher_Book_check.calls kj7 a0_0 a0_1 _ _ l0_2 _ _ l0_3 _ _ (l2.take ((ji23) : Int).toNat) t168 _ ?side1 ?side2 ?side3 ?side4 ?side5 ?side6 A28.1).mono ?_
                 (case side1 => repeat (first | exact (Kd.C_below HR0_2.1 HB.1) ))
                 (case side2 => exact HC0_2.1)
                 (case side3 => repeat (first | exact (Kd.C_below HR0_3.1 HB.1) ))
                 (case side4 => exact HC0_3.1)
                 (case side5 => repeat (first | exact (Kd.C_below HR167.1 HB.1) ))
                 (case side6 => exact HC167.1)
                 rintro e w42 ⟨rfl, hb⟩
                 refine ⟨_, rfl, ?_⟩
                 have n0_ := Sd.mk (kB (g := gb159) (o := .cells #[.int .i64 a0_0, .int .i64 a0_1, .slice A0_2 l0_2.length c0_2, .slice A0_3 l0_3.length c0_3] 32 (0, 0)) (by (with_reducible repeat (fail)); exact BK159.1) hb)
                 have n1_ := Sd.mk (bT (by repeat (first | (with_reducible first | exact HB.1 ) )) hb)
                 clear BK159
                 clear HB
                 have BK159 := n0_
                 have HB := n1_
                 clear n0_ n1_
                 (try clear hb)
                 refine hK.out _ _ ⟨(kC BK159.1 0).trans rfl, (kC BK159.1 1).trans rfl, (kC BK159.1 2).trans rfl, (kC BK159.1 3).trans rfl, ((HB.1.cell (World.block_lt_of_cell? w _ hw166_0)).trans hw166_0)⟩ (fun hHeld => ?_)
                 clear hK K
                 refine norm_ (a' := ?_) ?_ ?_
                 rotate_left
                 ·show Act.put _ (some 52) _ = _
                  simp only [Act.put, List.setIfInBounds_toArray, List.set_cons_zero, List.set_cons_succ, i64_w, i32_w]
                  rfl
                 refine pure_ (i := 9) (N := some 53) (v := ?_) (a' := ?_) #[true, true, true, true, true, true, true, true, true, true, false] rfl rfl (any_of HT_.1 (by kernel_rfl)) (fun _ _ _ h => h) (Or.inl ⟨by rfl, ?_⟩) ?_ ?_
                 rotate_left
                 ·intro w'
                  go_simp
                  with_reducible rfl
                 rotate_left
                 ·simp only [Act.put, List.setIfInBounds_toArray, List.set_cons_zero, List.set_cons_succ, i64_w, i32_w]
                  rfl
                 refine pure_ (i := 10) (N := some 43) (v := ?_) (a' := ?_) #[true, true, true, true, true, true, true, true, true, true, true] rfl rfl (any_of HT_.1 (by kernel_rfl)) (fun _ _ _ h => h) (Or.inl ⟨by rfl, ?_⟩) ?_ ?_
                 rotate_left
                 ·intro w'
                  go_simp
                  with_reducible rfl
                 rotate_left
                 ·simp only [Act.put, List.setIfInBounds_toArray, List.set_cons_zero, List.set_cons_succ, i64_w, i32_w]
                  rfl
                 refine done_ (done_of HT_.1 (by kernel_rfl)) ?_
                 try go_wp2
                 have n0_ := Sd.mk (kD BK159.1)
                 have n1_ := Sd.mk (bD HB.1)
                 clear BK159
                 clear HB
                 have BK159 := n0_
                 have HB := n1_
                 clear n0_ n1_
                 have p169 : 0 ≤ (a1 : Int) := of_decide_eq_true (by first | (with_reducible assumption) )
                 have q169 : a1 < (l0_3.length : Int) := of_decide_eq_true (by first | (with_reducible assumption) )
                 obtain ⟨ad169, e169, hx169_0⟩ := Kd.at_int HR0_3.1 a1 p169 q169
                 have hw169_0 := hx169_0
                 cases e169
                 replace hx169_0 := (HB.1.cell (World.block_lt_of_cell? w _ hx169_0)).trans hx169_0
                 replace p169 := eq_true p169
                 replace q169 := eq_true q169
                 have p170 : 0 ≤ ((rd l0_3 a1) : Int) := of_decide_eq_true (by first | (with_reducible assumption) )
                 have q170 : (rd l0_3 a1) < (l0_2.length : Int) := of_decide_eq_true (by first | (with_reducible assumption) )
                 obtain ⟨ad170, e170, hx170_0, hx170_1, hx170_2⟩ := at_T91 HR0_2.1 (rd l0_3 a1) p170 q170
                 have hw170_2 := hx170_2
                 have hw170_1 := hx170_1
                 have hw170_0 := hx170_0
                 cases e170
                 replace hx170_0 := (HB.1.cell (World.block_lt_of_cell? w _ hx170_0)).trans hx170_0
                 replace hx170_1 := (HB.1.cell (World.block_lt_of_cell? w _ hx170_1)).trans hx170_1
                 replace hx170_2 := (HB.1.cell (World.block_lt_of_cell? w _ hx170_2)).trans hx170_2
                 replace p170 := eq_true p170
                 replace q170 := eq_true q170
                 obtain ⟨i044, hi044, _, hsz44, _⟩ := info_parts info3
                 obtain ⟨A44, hcut44, hA44, hC44⟩ := print_mid_of (P := Try.prog) (Value.int .i64) 0 23 3 .i64 .i64 Try.underlying23 hi044 hsz44 (some ad164) c2 l2 1 (ji23) (by omega) (by first | exact of_decide_eq_true (by first | (with_reducible assumption) )) (of_decide_eq_true (by first | (with_reducible assumption) )) HC2.1
                 have HR171 := Sd.mk (Kd.C_of_reads (h1 := fun _ => rfl) (hA44 _ (Kd.reads_of_C HR2.1)))
                 have HC171 := Sd.mk hC44
                 clear hA44 hC44 hi044 hsz44
                 refine start_ (n := 16) (S := fun w' => w'.cell? ⟨gb159, 0, none⟩ = some (.int .i64 a0_0) ∧ w'.cell? ⟨gb159, 1, none⟩ = some (.int .i64 a0_1) ∧ w'.cell? ⟨gb159, 2, none⟩ = some (.slice (some ad170) l0_2.length c0_2) ∧ w'.cell? ⟨gb159, 3, none⟩ = some (.slice (some ad169) l0_3.length c0_3) ∧ w'.cell? (ad169.add (a1).toNat) = some (.int .i64 (rd l0_3 a1)) ∧ w'.cell? (ad170.add (((rd l0_3 a1)).toNat * 3)) = some (.int .i64 ((rd_T91 l0_2 (rd l0_3 a1)).f0)) ∧ w'.cell? ⟨(ad170.add (((rd l0_3 a1)).toNat * 3)).block, (ad170.add (((rd l0_3 a1)).toNat * 3)).off + 1, none⟩ = some (.int .i64 ((rd_T91 l0_2 (rd l0_3 a1)).f1)) ∧ w'.cell? ⟨(ad170.add (((rd l0_3 a1)).toNat * 3)).block, (ad170.add (((rd l0_3 a1)).toNat * 3)).off + 2, none⟩ = some (.int .i64 ((rd_T91 l0_2 (rd l0_3 a1)).f2))) (ds := []) #[false, false, false, false, false, false, false, false, false, false, false, false, false, false, false, false] (by kernel_rfl) rfl rfl ⟨(kC BK159.1 0).trans rfl, (kC BK159.1 1).trans rfl, (kC BK159.1 2).trans rfl, (kC BK159.1 3).trans rfl, ((HB.1.cell (World.block_lt_of_cell? w _ hw169_0)).trans hw169_0), ((HB.1.cell (World.block_lt_of_cell? w _ hw170_0)).trans hw170_0), ((HB.1.cell (World.block_lt_of_cell? w _ hw170_1)).trans hw170_1), ((HB.1.cell (World.block_lt_of_cell? w _ hw170_2)).trans hw170_2)⟩ (fun hHeld => ?_); refine with_tabW cipher_Decode.tab13 cipher_Decode.bits13 (fun HT_ HW_ => ?_)
                 generalize w42.drew = w43 at BK159 HB HR171 hx169_0 hx170_0 hx170_1 hx170_2 hHeld ⊢
                 refine pure_ (i := 1) (N := some 55) (v := ?_) (a' := ?_) #[false, true, false, false, false, false, false, false, false, false, false, false, false, false, false, false] rfl rfl (any_of HT_.1 (by kernel_rfl)) (fun _ _ _ h => h) (Or.inl ⟨by rfl, ?_⟩) ?_ ?_
                 rotate_left
                 ·intro w'
                  go_simp
                  with_reducible rfl
                 rotate_left
                 ·simp only [Act.put, List.setIfInBounds_toArray, List.set_cons_zero, List.set_cons_succ, i64_w, i32_w]
                  rfl
                 refine pure_ (i := 2) (N := some 56) (v := ?_) (a' := ?_) #[false, true, true, false, false, false, false, false, false, false, false, false, false, false, false, false] rfl rfl (any_of HT_.1 (by kernel_rfl)) (fun _ _ _ h => h) (Or.inl ⟨by rfl, ?_⟩) ?_ ?_
                 rotate_left
                 ·intro w'
                  go_simp
                  with_reducible rfl
                 rotate_left
                 ·simp only [Act.put, List.setIfInBounds_toArray, List.set_cons_zero, List.set_cons_succ, i64_w, i32_w]
                  rfl
                 refine pure_ (i := 4) (N := some 58) (v := ?_) (a' := ?_) #[false, true, true, false, true, false, false, false, false, false, false, false, false, false, false, false] rfl rfl (any_of HT_.1 (by kernel_rfl)) (fun _ _ _ h => h) (Or.inl ⟨by rfl, ?_⟩) ?_ ?_
                 rotate_left
                 ·intro w'
                  go_simp
                  with_reducible rfl
                 rotate_left
                 ·simp only [Act.put, List.setIfInBounds_toArray, List.set_cons_zero, List.set_cons_succ, i64_w, i32_w]
                  rfl
                 refine pure_ (i := 6) (N := some 60) (v := ?_) (a' := ?_) #[false, true, true, false, true, false, true, false, false, false, false, false, false, false, false, false] rfl rfl (any_of HT_.1 (by kernel_rfl)) (fun _ _ _ h => h) (Or.inl ⟨by rfl, ?_⟩) ?_ ?_
                 rotate_left
                 ·intro w'
                  go_simp
                  with_reducible rfl
                 rotate_left
                 ·simp only [Act.put, List.setIfInBounds_toArray, List.set_cons_zero, List.set_cons_succ, i64_w, i32_w]
                  rfl
                 refine pure_ (i := 11) (N := some 65) (v := ?_) (a' := ?_) #[false, true, true, false, true, false, true, false, false, false, false, true, false, false, false, false] rfl rfl (any_of HT_.1 (by kernel_rfl)) (fun _ _ _ h => h) (Or.inl ⟨by rfl, ?_⟩) ?_ ?_
                 rotate_left
                 ·intro w'
                  go_simp
                  with_reducible rfl
                 rotate_left
                 ·simp only [Act.put, List.setIfInBounds_toArray, List.set_cons_zero, List.set_cons_succ, i64_w, i32_w]
                  rfl
                 refine pure_ (i := 12) (N := some 66) (v := ?_) (a' := ?_) #[false, true, true, false, true, false, true, false, false, false, false, true, true, false, false, false] rfl rfl (any_of HT_.1 (by kernel_rfl)) (fun _ _ _ h => h) (Or.inl ⟨by rfl, ?_⟩) ?_ ?_
                 rotate_left
                 ·intro w'
                  go_simp
                  with_reducible rfl
                 rotate_left
                 ·simp only [Act.put, List.setIfInBounds_toArray, List.set_cons_zero, List.set_cons_succ, i64_w, i32_w]
                  rfl
                 refine pure_ (i := 13) (N := some 67) (v := ?_) (a' := ?_) #[false, true, true, false, true, false, true, false, false, false, false, true, true, true, false, false] rfl rfl (any_of HT_.1 (by kernel_rfl)) (fun _ _ _ h => h) (Or.inl ⟨by rfl, ?_⟩) ?_ ?_
                 rotate_left
                 ·intro w'
                  go_simp
                  with_reducible rfl
                 rotate_left
                 ·simp only [Act.put, List.setIfInBounds_toArray, List.set_cons_zero, List.set_cons_succ, i64_w, i32_w]
                  rfl
                 refine take_ (i := 0) (N := some 54) (v := ?_) (a' := ?_) #[true, true, true, false, true, false, true, false, false, false, false, true, true, true, false, false] rfl rfl (take_ofW HT_.1 HW_.1 (by kernel_rfl)) (fun _ _ _ h => h) (Or.inl ⟨by rfl, ?_⟩) hHeld ?_ ?_
                 rotate_left
                 ·rintro w' ⟨s0, s1, s2, s3, s4, s5, s6, s7⟩
                  go_simp
                  with_reducible rfl
                 rotate_left
                 ·simp only [Act.put, List.setIfInBounds_toArray, List.set_cons_zero, List.set_cons_succ, i64_w, i32_w]
                  rfl
                 refine take_ (i := 3) (N := some 57) (v := ?_) (a' := ?_) #[true, true, true, true, true, false, true, false, false, false, false, true, true, true, false, false] rfl rfl (take_ofW HT_.1 HW_.1 (by kernel_rfl)) (fun _ _ _ h => h) (Or.inl ⟨by rfl, ?_⟩) hHeld ?_ ?_
                 rotate_left
                 ·rintro w' ⟨s0, s1, s2, s3, s4, s5, s6, s7⟩
                  go_simp
                  with_reducible rfl
                 rotate_left
                 ·simp only [Act.put, List.setIfInBounds_toArray, List.set_cons_zero, List.set_cons_succ, i64_w, i32_w]
                  rfl
                 refine take_ (i := 5) (N := some 59) (v := ?_) (a' := ?_) #[true, true, true, true, true, true, true, false, false, false, false, true, true, true, false, false] rfl rfl (take_ofW HT_.1 HW_.1 (by kernel_rfl)) (fun _ _ _ h => h) (Or.inl ⟨by rfl, ?_⟩) hHeld ?_ ?_
                 rotate_left
                 ·rintro w' ⟨s0, s1, s2, s3, s4, s5, s6, s7⟩
                  go_simp
                  with_reducible rfl
                 rotate_left
                 ·simp only [Act.put, List.setIfInBounds_toArray, List.set_cons_zero, List.set_cons_succ, i64_w, i32_w]
                  rfl
                 refine pure_ (i := 7) (N := some 61) (v := ?_) (a' := ?_) #[true, true, true, true, true, true, true, true, false, false, false, true, true, true, false, false] rfl rfl (any_of HT_.1 (by kernel_rfl)) (fun _ _ _ h => h) (Or.inl ⟨by rfl, ?_⟩) ?_ ?_
                 rotate_left
                 ·intro w'
                  go_simp
                  with_reducible rfl
                 rotate_left
                 ·simp only [Act.put, List.setIfInBounds_toArray, List.set_cons_zero, List.set_cons_succ, i64_w, i32_w]
                  rfl
                 refine take_ (i := 8) (N := some 62) (v := ?_) (a' := ?_) #[true, true, true, true, true, true, true, true, true, false, false, true, true, true, false, false] rfl rfl (take_ofW HT_.1 HW_.1 (by kernel_rfl)) (fun _ _ _ h => h) (Or.inl ⟨by rfl, ?_⟩) hHeld ?_ ?_
                 rotate_left
                 ·rintro w' ⟨s0, s1, s2, s3, s4, s5, s6, s7⟩
                  go_simp
                  with_reducible rfl
                 rotate_left
                 ·simp only [Act.put, List.setIfInBounds_toArray, List.set_cons_zero, List.set_cons_succ, i64_w, i32_w]
                  rfl
                 refine pure_ (i := 9) (N := some 63) (v := ?_) (a' := ?_) #[true, true, true, true, true, true, true, true, true, true, false, true, true, true, false, false] rfl rfl (any_of HT_.1 (by kernel_rfl)) (fun _ _ _ h => h) (Or.inl ⟨by rfl, ?_⟩) ?_ ?_
                 rotate_left
                 ·intro w'
                  go_simp
                  with_reducible rfl
                 rotate_left
                 ·simp only [Act.put, List.setIfInBounds_toArray, List.set_cons_zero, List.set_cons_succ, i64_w, i32_w]
                  rfl
                 refine take_ (i := 10) (N := some 64) (v := ?_) (a' := ?_) #[true, true, true, true, true, true, true, true, true, true, true, true, true, true, false, false] rfl rfl (take_ofW HT_.1 HW_.1 (by kernel_rfl)) (fun _ _ _ h => h) (Or.inl ⟨by rfl, ?_⟩) hHeld ?_ ?_
                 rotate_left
                 ·rintro w' ⟨s0, s1, s2, s3, s4, s5, s6, s7⟩
                  go_simp
                  with_reducible rfl
                 rotate_left
                 ·simp only [Act.put, List.setIfInBounds_toArray, List.set_cons_zero, List.set_cons_succ, i64_w, i32_w]
                  rfl
                 refine one_ (i := 14) (N := some 68) #[true, true, true, true, true, true, true, true, true, true, true, true, true, true, true, false] rfl rfl (one_of HT_.1 (by kernel_rfl)) (by decide) (fun K hK => ?_)
                 refine goes_ Try.func59 (by kernel_rfl) rfl #[.agg #[.int .i64 a0_0, .int .i64 a0_1, .slice (some ad170) l0_2.length c0_2, .slice (some ad169) l0_3.length c0_3], .agg #[.func (.func 66) #[] #[]], .agg #[.int .i64 ((rd_T91 l0_2 (rd l0_3 a1)).f0), .int .i64 ((rd_T91 l0_2 (rd l0_3 a1)).f1), .int .i64 ((rd_T91 l0_2 (rd l0_3 a1)).f2)], .slice A44 ((l2.take ((ji23) : Int).toNat).drop 1).length (c2 - 1)] (by rfl) rfl rfl (by (try simp only [List.map_toArray, List.map_cons, List.map_nil]); first | (rw [show ((l2.take ((ji23) : Int).toNat).drop 1).length = ((ji23).toNat - 1) from (by rw [List.length_drop, List.length_take]; have h_ : ((ji23) : Int) ≤ (l2.length : Int) := of_decide_eq_true (by first | (with_reducible assumption) ); omega)] <;> rfl) ) ?_
                 with_reducible refine (cipher_turned_decode.calls a0_0 a0_1 _ _ l0_2 _ _ l0_3  ((rd_T91 l0_2 (rd l0_3 a1)).f0) ((rd_T91 l0_2 (rd l0_3 a1)).f1) ((rd_T91 l0_2 (rd l0_3 a1)).f2) _ _ ((l2.take ((ji23) : Int).toNat).drop 1) t172 _ ?side1 ?side2 ?side3 ?side4 ?side5 ?side6 A36.1).mono ?_
                 (case side1 => repeat (first | exact (Kd.C_below HR0_2.1 HB.1) ))
                 (case side2 => exact HC0_2.1)
                 (case side3 => repeat (first | exact (Kd.C_below HR0_3.1 HB.1) ))
                 (case side4 => exact HC0_3.1)
                 (case side5 => repeat (first | exact (Kd.C_below HR171.1 HB.1) ))
                 (case side6 => exact HC171.1)
                 rintro e w45 ⟨v173, rfl, ho0, hb⟩
                 refine ⟨_, rfl, ?_⟩
                 have n0_ := Sd.mk (Kd.R_lower ho0 (bZ (by repeat (first | (with_reducible first | exact HB.1 ) ))))
                 have n1_ := Sd.mk (kB (g := gb159) (o := .cells #[.int .i64 a0_0, .int .i64 a0_1, .slice (some ad170) l0_2.length c0_2, .slice (some ad169) l0_3.length c0_3] 32 (0, 0)) (by (with_reducible repeat (fail)); exact BK159.1) hb)
                 have n2_ := Sd.mk (bT (by repeat (first | (with_reducible first | exact HB.1 ) )) hb)
                 clear BK159
                 clear HB
                 have HO174 := n0_
                 have BK159 := n1_
                 have HB := n2_
                 clear n0_ n1_ n2_
                 (try clear hb)
                 (try clear ho0)
                 refine hK.out _ _ ⟨(kC BK159.1 0).trans rfl, (kC BK159.1 1).trans rfl, (kC BK159.1 2).trans rfl, (kC BK159.1 3).trans rfl, ((HB.1.cell (World.block_lt_of_cell? w _ hw169_0)).trans hw169_0), ((HB.1.cell (World.block_lt_of_cell? w _ hw170_0)).trans hw170_0), ((HB.1.cell (World.block_lt_of_cell? w _ hw170_1)).trans hw170_1), ((HB.1.cell (World.block_lt_of_cell? w _ hw170_2)).trans hw170_2)⟩ (fun hHeld => ?_)
                 clear hK K
                 refine norm_ (a' := ?_) ?_ ?_
                 rotate_left
                 ·show Act.put _ (some 68) _ = _
                  simp only [Act.put, List.setIfInBounds_toArray, List.set_cons_zero, List.set_cons_succ, i64_w, i32_w]
                  rfl
                 refine pure_ (i := 15) (N := some 6) (v := ?_) (a' := ?_) #[true, true, true, true, true, true, true, true, true, true, true, true, true, true, true, true] rfl rfl (any_of HT_.1 (by kernel_rfl)) (fun _ _ _ h => h) (Or.inl ⟨by rfl, ?_⟩) ?_ ?_
                 rotate_left
                 ·intro w'
                  go_simp
                  with_reducible rfl
                 rotate_left
                 ·simp only [Act.put, List.setIfInBounds_toArray, List.set_cons_zero, List.set_cons_succ, i64_w, i32_w]
                  rfl
                 refine done_ (done_of HT_.1 (by kernel_rfl)) ?_
                 obtain ⟨Ao46, co46, eo46⟩ := Kd.R_slice HO174.1
                 subst eo46
                 try go_wp2_with (first | (go_at_call 68; refine (clone_any _ _ t172 _ ?s1 (turned_len A36.1)).mono ?_; (case s1 => repeat (first | exact (Kd.R_reads' HO174.1).2.2 )); rintro e wc ⟨vc, rfl, hoc, hbc⟩; have HOC := Sd.mk hoc; have HBC := Sd.mk hbc; clear hoc hbc) | (go_at_call 67; refine (delete_any #[.int .i64 a0_0, .int .i64 a0_1, .slice (some ad170) l0_2.length c0_2, .slice (some ad169) l0_3.length c0_3] a0_1 gb159 vc t172 _ _ HOC.1 (turned_len A36.1) HBC.1 (kB (by (with_reducible repeat (fail)); exact BK159.1) HBC.1) (blk_lt (by (with_reducible repeat (fail)); exact BK159.1)) rfl).mono ?_; rintro e w47 ⟨v176, rfl, ho0, hb⟩; rw [words_eq A37.1] at ho0; have HO177 := Sd.mk (Kd.R_lower (Kd.R_new' ho0 (Kd.R_lt (by (with_reducible repeat (fail)); exact HO174.1))) (bZ (by repeat (first | (with_reducible first | exact HB.1 ) )))); replace HO174 := Sd.mk (Kd.R_elder' (by (with_reducible repeat (fail)); exact HO174.1) (Kd.R_base ho0) hb); replace BK159 := Sd.mk (kB (g := gb159) (o := .cells #[.int .i64 a0_0, .int .i64 a0_1, .slice (some ad170) l0_2.length c0_2, .slice (some ad169) l0_3.length c0_3] 32 (0, 0)) (by (with_reducible repeat (fail)); exact BK159.1) hb); replace HB := Sd.mk (bT (by repeat (first | (with_reducible first | exact HB.1 ) )) hb); (try clear hb); (try clear ho0)))
                 go_ret3
                 exact ⟨_, _, by first | rfl , by (with_reducible repeat (fail)); exact Kd.R_mono HO174.1 (fun _ hk => hk.2), by (with_reducible repeat (fail)); exact Kd.R_mono HO177.1 (fun _ hk => hk.2), by repeat (first | (with_reducible first | exact HB.1 ) )⟩
                ·rw [if_neg c34] at H
                 exact absurd H (by simp)
               ·rw [if_neg c33] at H
                exact absurd H (by simp)
              ·rw [if_neg c32] at H
               exact absurd H (by simp)
             ·rw [if_neg c31] at H
              exact absurd H (by simp)
            ·rw [if_neg c30] at H
             exact absurd H (by simp)
           ·rw [if_neg c29] at H
            have c29b0 : ((rd l2 (ji23)) == t168) = false := beq_eq_false_iff_ne.mpr c29
            have c29b1 : ((rd l2 (ji23)) != t168) = true := bne_iff_ne.mpr c29
            simp only [Option.some.injEq, Prod.mk.injEq] at H
            obtain ⟨rfl, rfl, rfl⟩ := H
            try go_wp2
            have n0_ := Sd.mk (kD BK159.1)
            have n1_ := Sd.mk (bD HB.1)
            clear BK159
            clear HB
            have BK159 := n0_
            have HB := n1_
            clear n0_ n1_
            have p164 : 0 ≤ (0 : Int) := (by omega)
            have q164 : 0 < (l2.length : Int) := of_decide_eq_true (by first | (with_reducible assumption) )
            obtain ⟨ad164, e164, hx164_0⟩ := Kd.at_int HR2.1 0 p164 q164
            have hw164_0 := hx164_0
            (try rw [show ((0 : Int)).toNat = 0 from rfl] at hw164_0)
            (try rw [Addr.add_zero'] at hw164_0)
            cases e164
            have qi164 : (0 < l2.length) = True := eq_true (by omega)
            (try rw [show ((0 : Int)).toNat = 0 from rfl] at hx164_0)
            (try rw [Addr.add_zero'] at hx164_0)
            replace hx164_0 := (HB.1.cell (World.block_lt_of_cell? w _ hx164_0)).trans hx164_0
            replace p164 := eq_true p164
            replace q164 := eq_true q164
            refine start_ (n := 8) (S := fun w' => w'.cell? ⟨gb159, 0, none⟩ = some (.int .i64 a0_0) ∧ w'.cell? ⟨gb159, 1, none⟩ = some (.int .i64 a0_1) ∧ w'.cell? ⟨gb159, 2, none⟩ = some (.slice A0_2 l0_2.length c0_2) ∧ w'.cell? ⟨gb159, 3, none⟩ = some (.slice A0_3 l0_3.length c0_3) ∧ w'.cell? ad164 = some (.int .i64 (rd l2 0))) (ds := []) #[false, false, false, false, false, false, false, false] (by kernel_rfl) rfl rfl ⟨(kC BK159.1 0).trans rfl, (kC BK159.1 1).trans rfl, (kC BK159.1 2).trans rfl, (kC BK159.1 3).trans rfl, ((HB.1.cell (World.block_lt_of_cell? w _ hw164_0)).trans hw164_0)⟩ (fun hHeld => ?_); refine with_tabW cipher_Decode.tab9 cipher_Decode.bits9 (fun HT_ HW_ => ?_)
            generalize wc.drew = w48 at BK159 HB hx164_0 hHeld ⊢
            refine pure_ (i := 0) (N := some 36) (v := ?_) (a' := ?_) #[true, false, false, false, false, false, false, false] rfl rfl (any_of HT_.1 (by kernel_rfl)) (fun _ _ _ h => h) (Or.inl ⟨by rfl, ?_⟩) ?_ ?_
            rotate_left
            ·intro w'
             go_simp
             with_reducible rfl
            rotate_left
            ·simp only [Act.put, List.setIfInBounds_toArray, List.set_cons_zero, List.set_cons_succ, i64_w, i32_w]
             rfl
            refine pure_ (i := 1) (N := some 37) (v := ?_) (a' := ?_) #[true, true, false, false, false, false, false, false] rfl rfl (any_of HT_.1 (by kernel_rfl)) (fun _ _ _ h => h) (Or.inl ⟨by rfl, ?_⟩) ?_ ?_
            rotate_left
            ·intro w'
             go_simp
             with_reducible rfl
            rotate_left
            ·simp only [Act.put, List.setIfInBounds_toArray, List.set_cons_zero, List.set_cons_succ, i64_w, i32_w]
             rfl
            refine pure_ (i := 4) (N := some 40) (v := ?_) (a' := ?_) #[true, true, false, false, true, false, false, false] rfl rfl (any_of HT_.1 (by kernel_rfl)) (fun _ _ _ h => h) (Or.inl ⟨by rfl, ?_⟩) ?_ ?_
            rotate_left
            ·intro w'
             go_simp
             with_reducible rfl
            rotate_left
            ·simp only [Act.put, List.setIfInBounds_toArray, List.set_cons_zero, List.set_cons_succ, i64_w, i32_w]
             rfl
            refine take_ (i := 2) (N := some 38) (v := ?_) (a' := ?_) #[true, true, true, false, true, false, false, false] rfl rfl (take_ofW HT_.1 HW_.1 (by kernel_rfl)) (fun _ _ _ h => h) (Or.inl ⟨by rfl, ?_⟩) hHeld ?_ ?_
            rotate_left
            ·rintro w' ⟨s0, s1, s2, s3, s4⟩
             go_simp
             with_reducible rfl
            rotate_left
            ·simp only [Act.put, List.setIfInBounds_toArray, List.set_cons_zero, List.set_cons_succ, i64_w, i32_w]
             rfl
            refine take_ (i := 3) (N := some 39) (v := ?_) (a' := ?_) #[true, true, true, true, true, false, false, false] rfl rfl (take_ofW HT_.1 HW_.1 (by kernel_rfl)) (fun _ _ _ h => h) (Or.inl ⟨by rfl, ?_⟩) hHeld ?_ ?_
            rotate_left
            ·rintro w' ⟨s0, s1, s2, s3, s4⟩
             go_simp
             with_reducible rfl
            rotate_left
            ·simp only [Act.put, List.setIfInBounds_toArray, List.set_cons_zero, List.set_cons_succ, i64_w, i32_w]
             rfl
            refine one_ (i := 5) (N := some 41) #[true, true, true, true, true, true, false, false] rfl rfl (one_of HT_.1 (by kernel_rfl)) (by decide) (fun K hK => ?_)
            refine goes_ Try.func58 (by kernel_rfl) rfl #[.agg #[.int .i64 a0_0, .int .i64 a0_1, .slice A0_2 l0_2.length c0_2, .slice A0_3 l0_3.length c0_3], .int .i64 a1] (by rfl) rfl rfl (by (try simp only [List.map_toArray, List.map_cons, List.map_nil]); first | rfl ) ?_
            with_reducible refine (cipher_Book_indicator.calls a0_0 a0_1 _ _ l0_2 _ _ l0_3 a1 t165 _ ?side1 ?side2 ?side3 ?side4 A21.1).mono ?_
            (case side1 => repeat (first | exact (Kd.C_below HR0_2.1 HB.1) ))
            (case side2 => exact HC0_2.1)
            (case side3 => repeat (first | exact (Kd.C_below HR0_3.1 HB.1) ))
            (case side4 => exact HC0_3.1)
            rintro e w49 ⟨rfl, hb⟩
            refine ⟨_, rfl, ?_⟩
            have n0_ := Sd.mk (kB (g := gb159) (o := .cells #[.int .i64 a0_0, .int .i64 a0_1, .slice A0_2 l0_2.length c0_2, .slice A0_3 l0_3.length c0_3] 32 (0, 0)) (by (with_reducible repeat (fail)); exact BK159.1) hb)
            have n1_ := Sd.mk (bT (by repeat (first | (with_reducible first | exact HB.1 ) )) hb)
            clear BK159
            clear HB
            have BK159 := n0_
            have HB := n1_
            clear n0_ n1_
            (try clear hb)
            refine hK.out _ _ ⟨(kC BK159.1 0).trans rfl, (kC BK159.1 1).trans rfl, (kC BK159.1 2).trans rfl, (kC BK159.1 3).trans rfl, ((HB.1.cell (World.block_lt_of_cell? w _ hw164_0)).trans hw164_0)⟩ (fun hHeld => ?_)
            clear hK K
            refine norm_ (a' := ?_) ?_ ?_
            rotate_left
            ·show Act.put _ (some 41) _ = _
             simp only [Act.put, List.setIfInBounds_toArray, List.set_cons_zero, List.set_cons_succ, i64_w, i32_w]
             rfl
            refine pure_ (i := 6) (N := some 42) (v := ?_) (a' := ?_) #[true, true, true, true, true, true, true, false] rfl rfl (any_of HT_.1 (by kernel_rfl)) (fun _ _ _ h => h) (Or.inl ⟨by rfl, ?_⟩) ?_ ?_
            rotate_left
            ·intro w'
             go_simp
             with_reducible rfl
            rotate_left
            ·simp only [Act.put, List.setIfInBounds_toArray, List.set_cons_zero, List.set_cons_succ, i64_w, i32_w]
             rfl
            refine pure_ (i := 7) (N := some 35) (v := ?_) (a' := ?_) #[true, true, true, true, true, true, true, true] rfl rfl (any_of HT_.1 (by kernel_rfl)) (fun _ _ _ h => h) (Or.inl ⟨by rfl, ?_⟩) ?_ ?_
            rotate_left
            ·intro w'
             go_simp
             with_reducible rfl
            rotate_left
            ·simp only [Act.put, List.setIfInBounds_toArray, List.set_cons_zero, List.set_cons_succ, i64_w, i32_w]
             rfl
            refine done_ (done_of HT_.1 (by kernel_rfl)) ?_
            try go_wp2
            have n0_ := Sd.mk (kD BK159.1)
            have n1_ := Sd.mk (bD HB.1)
            clear BK159
            clear HB
            have BK159 := n0_
            have HB := n1_
            clear n0_ n1_
            have p166 : 0 ≤ ((ji23) : Int) := of_decide_eq_true (by first | (with_reducible assumption) )
            have q166 : (ji23) < (l2.length : Int) := of_decide_eq_true (by first | (with_reducible assumption) )
            obtain ⟨ad166, e166, hx166_0⟩ := Kd.at_int HR2.1 (ji23) p166 q166
            have hw166_0 := hx166_0
            obtain rfl : ad164 = ad166 := (by injection e166)
            replace hx166_0 := (HB.1.cell (World.block_lt_of_cell? w _ hx166_0)).trans hx166_0
            replace p166 := eq_true p166
            replace q166 := eq_true q166
            obtain ⟨i051, hi051, _, hsz51, _⟩ := info_parts info3
            obtain ⟨hcut51, hA51, hC51⟩ := print_take_of (P := Try.prog) (Value.int .i64) 0 23 3 .i64 Try.underlying23 hi051 hsz51 (some ad164) c2 l2 (ji23) (of_decide_eq_true (by first | (with_reducible assumption) )) (of_decide_eq_true (by first | (with_reducible assumption) )) HC2.1
            have HR167 := Sd.mk (Kd.C_of_reads (h1 := fun _ => rfl) (hA51 _ (Kd.reads_of_C HR2.1)))
            have HC167 := Sd.mk hC51
            clear hA51 hC51 hi051 hsz51
            refine start_ (n := 11) (S := fun w' => w'.cell? ⟨gb159, 0, none⟩ = some (.int .i64 a0_0) ∧ w'.cell? ⟨gb159, 1, none⟩ = some (.int .i64 a0_1) ∧ w'.cell? ⟨gb159, 2, none⟩ = some (.slice A0_2 l0_2.length c0_2) ∧ w'.cell? ⟨gb159, 3, none⟩ = some (.slice A0_3 l0_3.length c0_3) ∧ w'.cell? (ad164.add ((ji23)).toNat) = some (.int .i64 (rd l2 (ji23)))) (ds := []) #[false, false, false, false, false, false, false, false, false, false, false] (by kernel_rfl) rfl rfl ⟨(kC BK159.1 0).trans rfl, (kC BK159.1 1).trans rfl, (kC BK159.1 2).trans rfl, (kC BK159.1 3).trans rfl, ((HB.1.cell (World.block_lt_of_cell? w _ hw166_0)).trans hw166_0)⟩ (fun hHeld => ?_); refine with_tabW cipher_Decode.tab11 cipher_Decode.bits11 (fun HT_ HW_ => ?_)
            generalize w49.drew = w50 at BK159 HB HR167 hx166_0 hHeld ⊢
            refine pure_ (i := 0) (N := some 44) (v := ?_) (a' := ?_) #[true, false, false, false, false, false, false, false, false, false, false] rfl rfl (any_of HT_.1 (by kernel_rfl)) (fun _ _ _ h => h) (Or.inl ⟨by rfl, ?_⟩) ?_ ?_
            rotate_left
            ·intro w'
             go_simp
             with_reducible rfl
            rotate_left
            ·simp only [Act.put, List.setIfInBounds_toArray, List.set_cons_zero, List.set_cons_succ, i64_w, i32_w]
             rfl
            refine pure_ (i := 1) (N := some 45) (v := ?_) (a' := ?_) #[true, true, false, false, false, false, false, false, false, false, false] rfl rfl (any_of HT_.1 (by kernel_rfl)) (fun _ _ _ h => h) (Or.inl ⟨by rfl, ?_⟩) ?_ ?_
            rotate_left
            ·intro w'
             go_simp
             with_reducible rfl
            rotate_left
            ·simp only [Act.put, List.setIfInBounds_toArray, List.set_cons_zero, List.set_cons_succ, i64_w, i32_w]
             rfl
            refine pure_ (i := 2) (N := some 46) (v := ?_) (a' := ?_) #[true, true, true, false, false, false, false, false, false, false, false] rfl rfl (any_of HT_.1 (by kernel_rfl)) (fun _ _ _ h => h) (Or.inl ⟨by rfl, ?_⟩) ?_ ?_
            rotate_left
            ·intro w'
             go_simp
             with_reducible rfl
            rotate_left
            ·simp only [Act.put, List.setIfInBounds_toArray, List.set_cons_zero, List.set_cons_succ, i64_w, i32_w]
             rfl
            refine pure_ (i := 5) (N := some 49) (v := ?_) (a' := ?_) #[true, true, true, false, false, true, false, false, false, false, false] rfl rfl (any_of HT_.1 (by kernel_rfl)) (fun _ _ _ h => h) (Or.inl ⟨by rfl, ?_⟩) ?_ ?_
            rotate_left
            ·intro w'
             go_simp
             with_reducible rfl
            rotate_left
            ·simp only [Act.put, List.setIfInBounds_toArray, List.set_cons_zero, List.set_cons_succ, i64_w, i32_w]
             rfl
            refine pure_ (i := 6) (N := some 50) (v := ?_) (a' := ?_) #[true, true, true, false, false, true, true, false, false, false, false] rfl rfl (any_of HT_.1 (by kernel_rfl)) (fun _ _ _ h => h) (Or.inl ⟨by rfl, ?_⟩) ?_ ?_
            rotate_left
            ·intro w'
             go_simp
             with_reducible rfl
            rotate_left
            ·simp only [Act.put, List.setIfInBounds_toArray, List.set_cons_zero, List.set_cons_succ, i64_w, i32_w]
             rfl
            refine pure_ (i := 7) (N := some 51) (v := ?_) (a' := ?_) #[true, true, true, false, false, true, true, true, false, false, false] rfl rfl (any_of HT_.1 (by kernel_rfl)) (fun _ _ _ h => h) (Or.inl ⟨by rfl, ?_⟩) ?_ ?_
            rotate_left
            ·intro w'
             go_simp
             with_reducible rfl
            rotate_left
            ·simp only [Act.put, List.setIfInBounds_toArray, List.set_cons_zero, List.set_cons_succ, i64_w, i32_w]
             rfl
            refine take_ (i := 3) (N := some 47) (v := ?_) (a' := ?_) #[true, true, true, true, false, true, true, true, false, false, false] rfl rfl (take_ofW HT_.1 HW_.1 (by kernel_rfl)) (fun _ _ _ h => h) (Or.inl ⟨by rfl, ?_⟩) hHeld ?_ ?_
            rotate_left
            ·rintro w' ⟨s0, s1, s2, s3, s4⟩
             go_simp
             with_reducible rfl
            rotate_left
            ·simp only [Act.put, List.setIfInBounds_toArray, List.set_cons_zero, List.set_cons_succ, i64_w, i32_w]
             rfl
            refine take_ (i := 4) (N := some 48) (v := ?_) (a' := ?_) #[true, true, true, true, true, true, true, true, false, false, false] rfl rfl (take_ofW HT_.1 HW_.1 (by kernel_rfl)) (fun _ _ _ h => h) (Or.inl ⟨by rfl, ?_⟩) hHeld ?_ ?_
            rotate_left
            ·rintro w' ⟨s0, s1, s2, s3, s4⟩
             go_simp
             with_reducible rfl
            rotate_left
            ·simp only [Act.put, List.setIfInBounds_toArray, List.set_cons_zero, List.set_cons_succ, i64_w, i32_w]
             rfl
            refine one_ (i := 8) (N := some 52) #[true, true, true, true, true, true, true, true, true, false, false] rfl rfl (one_of HT_.1 (by kernel_rfl)) (by decide) (fun K hK => ?_)
            refine goes_ Try.func61 (by kernel_rfl) rfl #[.agg #[.int .i64 a0_0, .int .i64 a0_1, .slice A0_2 l0_2.length c0_2, .slice A0_3 l0_3.length c0_3], .slice (some ad164) (l2.take ((ji23) : Int).toNat).length c2] (by rfl) rfl rfl (by (try simp only [List.map_toArray, List.map_cons, List.map_nil]); first | (rw [show (l2.take ((ji23) : Int).toNat).length = (ji23).toNat from (by rw [List.length_take]; have h_ : ((ji23) : Int) ≤ (l2.length : Int) := of_decide_eq_true (by first | (with_reducible assumption) ); omega)] <;> rfl) ) ?_
            with_reducible refine (cipher_Book_check.calls kj7 a0_0 a0_1 _ _ l0_2 _ _ l0_3 _ _ (l2.take ((ji23) : Int).toNat) t168 _ ?side1 ?side2 ?side3 ?side4 ?side5 ?side6 A28.1).mono ?_
            (case side1 => repeat (first | exact (Kd.C_below HR0_2.1 HB.1) ))
            (case side2 => exact HC0_2.1)
            (case side3 => repeat (first | exact (Kd.C_below HR0_3.1 HB.1) ))
            (case side4 => exact HC0_3.1)
            (case side5 => repeat (first | exact (Kd.C_below HR167.1 HB.1) ))
            (case side6 => exact HC167.1)
            rintro e w52 ⟨rfl, hb⟩
            refine ⟨_, rfl, ?_⟩
            have n0_ := Sd.mk (kB (g := gb159) (o := .cells #[.int .i64 a0_0, .int .i64 a0_1, .slice A0_2 l0_2.length c0_2, .slice A0_3 l0_3.length c0_3] 32 (0, 0)) (by (with_reducible repeat (fail)); exact BK159.1) hb)
            have n1_ := Sd.mk (bT (by repeat (first | (with_reducible first | exact HB.1 ) )) hb)
            clear BK159
            clear HB
            have BK159 := n0_
            have HB := n1_
            clear n0_ n1_
            (try clear hb)
            refine hK.out _ _ ⟨(kC BK159.1 0).trans rfl, (kC BK159.1 1).trans rfl, (kC BK159.1 2).trans rfl, (kC BK159.1 3).trans rfl, ((HB.1.cell (World.block_lt_of_cell? w _ hw166_0)).trans hw166_0)⟩ (fun hHeld => ?_)
            clear hK K
            refine norm_ (a' := ?_) ?_ ?_
            rotate_left
            ·show Act.put _ (some 52) _ = _
             simp only [Act.put, List.setIfInBounds_toArray, List.set_cons_zero, List.set_cons_succ, i64_w, i32_w]
             rfl
            refine pure_ (i := 9) (N := some 53) (v := ?_) (a' := ?_) #[true, true, true, true, true, true, true, true, true, true, false] rfl rfl (any_of HT_.1 (by kernel_rfl)) (fun _ _ _ h => h) (Or.inl ⟨by rfl, ?_⟩) ?_ ?_
            rotate_left
            ·intro w'
             go_simp
             with_reducible rfl
            rotate_left
            ·simp only [Act.put, List.setIfInBounds_toArray, List.set_cons_zero, List.set_cons_succ, i64_w, i32_w]
             rfl
            refine pure_ (i := 10) (N := some 43) (v := ?_) (a' := ?_) #[true, true, true, true, true, true, true, true, true, true, true] rfl rfl (any_of HT_.1 (by kernel_rfl)) (fun _ _ _ h => h) (Or.inl ⟨by rfl, ?_⟩) ?_ ?_
            rotate_left
            ·intro w'
             go_simp
             with_reducible rfl
            rotate_left
            ·simp only [Act.put, List.setIfInBounds_toArray, List.set_cons_zero, List.set_cons_succ, i64_w, i32_w]
             rfl
            refine done_ (done_of HT_.1 (by kernel_rfl)) ?_
            try go_wp2
            go_ret3
            exact ⟨_, _, by first | rfl , by first | exact Kd.R_nil _ _ _ _ _ , by first | exact Kd.R_nil _ _ _ _ _ , by repeat (first | (with_reducible first | exact HB.1 ) )⟩
          ·rw [if_neg c27] at H
           exact absurd H (by simp)
         ·rw [if_neg c25] at H
          exact absurd H (by simp)
        ·rw [if_neg c24] at H
         exact absurd H (by simp)
       ·rw [if_neg c22] at H
        have c22b0 : ((rd l2 0) == t165) = false := beq_eq_false_iff_ne.mpr c22
        have c22b1 : ((rd l2 0) != t165) = true := bne_iff_ne.mpr c22
        simp only [Option.some.injEq, Prod.mk.injEq] at H
        obtain ⟨rfl, rfl, rfl⟩ := H
        try go_wp2
        have n0_ := Sd.mk (kD BK159.1)
        have n1_ := Sd.mk (bD HB.1)
        clear BK159
        clear HB
        have BK159 := n0_
        have HB := n1_
        clear n0_ n1_
        have p164 : 0 ≤ (0 : Int) := (by omega)
        have q164 : 0 < (l2.length : Int) := of_decide_eq_true (by first | (with_reducible assumption) )
        obtain ⟨ad164, e164, hx164_0⟩ := Kd.at_int HR2.1 0 p164 q164
        have hw164_0 := hx164_0
        (try rw [show ((0 : Int)).toNat = 0 from rfl] at hw164_0)
        (try rw [Addr.add_zero'] at hw164_0)
        cases e164
        have qi164 : (0 < l2.length) = True := eq_true (by omega)
        (try rw [show ((0 : Int)).toNat = 0 from rfl] at hx164_0)
        (try rw [Addr.add_zero'] at hx164_0)
        replace hx164_0 := (HB.1.cell (World.block_lt_of_cell? w _ hx164_0)).trans hx164_0
        replace p164 := eq_true p164
        replace q164 := eq_true q164
        refine start_ (n := 8) (S := fun w' => w'.cell? ⟨gb159, 0, none⟩ = some (.int .i64 a0_0) ∧ w'.cell? ⟨gb159, 1, none⟩ = some (.int .i64 a0_1) ∧ w'.cell? ⟨gb159, 2, none⟩ = some (.slice A0_2 l0_2.length c0_2) ∧ w'.cell? ⟨gb159, 3, none⟩ = some (.slice A0_3 l0_3.length c0_3) ∧ w'.cell? ad164 = some (.int .i64 (rd l2 0))) (ds := []) #[false, false, false, false, false, false, false, false] (by kernel_rfl) rfl rfl ⟨(kC BK159.1 0).trans rfl, (kC BK159.1 1).trans rfl, (kC BK159.1 2).trans rfl, (kC BK159.1 3).trans rfl, ((HB.1.cell (World.block_lt_of_cell? w _ hw164_0)).trans hw164_0)⟩ (fun hHeld => ?_); refine with_tabW cipher_Decode.tab9 cipher_Decode.bits9 (fun HT_ HW_ => ?_)
        generalize wc.drew = w53 at BK159 HB hx164_0 hHeld ⊢
        refine pure_ (i := 0) (N := some 36) (v := ?_) (a' := ?_) #[true, false, false, false, false, false, false, false] rfl rfl (any_of HT_.1 (by kernel_rfl)) (fun _ _ _ h => h) (Or.inl ⟨by rfl, ?_⟩) ?_ ?_
        rotate_left
        ·intro w'
         go_simp
         with_reducible rfl
        rotate_left
        ·simp only [Act.put, List.setIfInBounds_toArray, List.set_cons_zero, List.set_cons_succ, i64_w, i32_w]
         rfl
        refine pure_ (i := 1) (N := some 37) (v := ?_) (a' := ?_) #[true, true, false, false, false, false, false, false] rfl rfl (any_of HT_.1 (by kernel_rfl)) (fun _ _ _ h => h) (Or.inl ⟨by rfl, ?_⟩) ?_ ?_
        rotate_left
        ·intro w'
         go_simp
         with_reducible rfl
        rotate_left
        ·simp only [Act.put, List.setIfInBounds_toArray, List.set_cons_zero, List.set_cons_succ, i64_w, i32_w]
         rfl
        refine pure_ (i := 4) (N := some 40) (v := ?_) (a' := ?_) #[true, true, false, false, true, false, false, false] rfl rfl (any_of HT_.1 (by kernel_rfl)) (fun _ _ _ h => h) (Or.inl ⟨by rfl, ?_⟩) ?_ ?_
        rotate_left
        ·intro w'
         go_simp
         with_reducible rfl
        rotate_left
        ·simp only [Act.put, List.setIfInBounds_toArray, List.set_cons_zero, List.set_cons_succ, i64_w, i32_w]
         rfl
        refine take_ (i := 2) (N := some 38) (v := ?_) (a' := ?_) #[true, true, true, false, true, false, false, false] rfl rfl (take_ofW HT_.1 HW_.1 (by kernel_rfl)) (fun _ _ _ h => h) (Or.inl ⟨by rfl, ?_⟩) hHeld ?_ ?_
        rotate_left
        ·rintro w' ⟨s0, s1, s2, s3, s4⟩
         go_simp
         with_reducible rfl
        rotate_left
        ·simp only [Act.put, List.setIfInBounds_toArray, List.set_cons_zero, List.set_cons_succ, i64_w, i32_w]
         rfl
        refine take_ (i := 3) (N := some 39) (v := ?_) (a' := ?_) #[true, true, true, true, true, false, false, false] rfl rfl (take_ofW HT_.1 HW_.1 (by kernel_rfl)) (fun _ _ _ h => h) (Or.inl ⟨by rfl, ?_⟩) hHeld ?_ ?_
        rotate_left
        ·rintro w' ⟨s0, s1, s2, s3, s4⟩
         go_simp
         with_reducible rfl
        rotate_left
        ·simp only [Act.put, List.setIfInBounds_toArray, List.set_cons_zero, List.set_cons_succ, i64_w, i32_w]
         rfl
        refine one_ (i := 5) (N := some 41) #[true, true, true, true, true, true, false, false] rfl rfl (one_of HT_.1 (by kernel_rfl)) (by decide) (fun K hK => ?_)
        refine goes_ Try.func58 (by kernel_rfl) rfl #[.agg #[.int .i64 a0_0, .int .i64 a0_1, .slice A0_2 l0_2.length c0_2, .slice A0_3 l0_3.length c0_3], .int .i64 a1] (by rfl) rfl rfl (by (try simp only [List.map_toArray, List.map_cons, List.map_nil]); first | rfl ) ?_
        with_reducible refine (cipher_Book_indicator.calls a0_0 a0_1 _ _ l0_2 _ _ l0_3 a1 t165 _ ?side1 ?side2 ?side3 ?side4 A21.1).mono ?_
        (case side1 => repeat (first | exact (Kd.C_below HR0_2.1 HB.1) ))
        (case side2 => exact HC0_2.1)
        (case side3 => repeat (first | exact (Kd.C_below HR0_3.1 HB.1) ))
        (case side4 => exact HC0_3.1)
        rintro e w54 ⟨rfl, hb⟩
        refine ⟨_, rfl, ?_⟩
        have n0_ := Sd.mk (kB (g := gb159) (o := .cells #[.int .i64 a0_0, .int .i64 a0_1, .slice A0_2 l0_2.length c0_2, .slice A0_3 l0_3.length c0_3] 32 (0, 0)) (by (with_reducible repeat (fail)); exact BK159.1) hb)
        have n1_ := Sd.mk (bT (by repeat (first | (with_reducible first | exact HB.1 ) )) hb)
        clear BK159
        clear HB
        have BK159 := n0_
        have HB := n1_
        clear n0_ n1_
        (try clear hb)
        refine hK.out _ _ ⟨(kC BK159.1 0).trans rfl, (kC BK159.1 1).trans rfl, (kC BK159.1 2).trans rfl, (kC BK159.1 3).trans rfl, ((HB.1.cell (World.block_lt_of_cell? w _ hw164_0)).trans hw164_0)⟩ (fun hHeld => ?_)
        clear hK K
        refine norm_ (a' := ?_) ?_ ?_
        rotate_left
        ·show Act.put _ (some 41) _ = _
         simp only [Act.put, List.setIfInBounds_toArray, List.set_cons_zero, List.set_cons_succ, i64_w, i32_w]
         rfl
        refine pure_ (i := 6) (N := some 42) (v := ?_) (a' := ?_) #[true, true, true, true, true, true, true, false] rfl rfl (any_of HT_.1 (by kernel_rfl)) (fun _ _ _ h => h) (Or.inl ⟨by rfl, ?_⟩) ?_ ?_
        rotate_left
        ·intro w'
         go_simp
         with_reducible rfl
        rotate_left
        ·simp only [Act.put, List.setIfInBounds_toArray, List.set_cons_zero, List.set_cons_succ, i64_w, i32_w]
         rfl
        refine pure_ (i := 7) (N := some 35) (v := ?_) (a' := ?_) #[true, true, true, true, true, true, true, true] rfl rfl (any_of HT_.1 (by kernel_rfl)) (fun _ _ _ h => h) (Or.inl ⟨by rfl, ?_⟩) ?_ ?_
        rotate_left
        ·intro w'
         go_simp
         with_reducible rfl
        rotate_left
        ·simp only [Act.put, List.setIfInBounds_toArray, List.set_cons_zero, List.set_cons_succ, i64_w, i32_w]
         rfl
        refine done_ (done_of HT_.1 (by kernel_rfl)) ?_
        try go_wp2
        go_ret3
        exact ⟨_, _, by first | rfl , by first | exact Kd.R_nil _ _ _ _ _ , by first | exact Kd.R_nil _ _ _ _ _ , by repeat (first | (with_reducible first | exact HB.1 ) )⟩
      ·rw [if_neg c20] at H
       exact absurd H (by simp)
  ·replace c7 := Bool.eq_false_iff.mpr c7
   subst c7
   rw [if_neg (show ¬ (false = true) by decide)] at H
   simp only [Option.some.injEq, Prod.mk.injEq] at H
   obtain ⟨rfl, rfl, rfl⟩ := H
   go_enter Try.func27, Try.ntmps27
   go_wp2_with (first | ((with_reducible refine gD (N := 3) rfl ?_); refine xE ?hg (N := 3) ?hd (cs := #[.int .i64 a0_0, .int .i64 a0_1, .slice A0_2 l0_2.length c0_2, .slice A0_3 l0_3.length c0_3]) (t := 32) ?hr ?_; (case hd => rfl); (case hg => rfl); (case hr => first | (go_simp; done) ); intro gb159 hg w55 hbox hb; have BK159 := Sd.mk (hbox); have GW159 := Sd.mk ((by rw [hg]; exact (bZ (by repeat (first | (with_reducible first | exact HB.1 ) ))) : w.heap.size ≤ gb159)); have GE159 := Sd.mk ((by rw [hg]; exact (bZ (by repeat (first | (with_reducible first | exact HB.1 ) ))) : w.heap.size ≤ gb159)); replace HB := Sd.mk (bT (by repeat (first | (with_reducible first | exact HB.1 ) )) hb); clear hb hbox hg; have z_56_0 : w55.cell? ⟨gb159, 0, none⟩ = some (.int .i64 a0_0) := (kC BK159.1 0).trans rfl; have z_56_1 : w55.cell? ⟨gb159, 1, none⟩ = some (.int .i64 a0_1) := (kC BK159.1 1).trans rfl; have z_56_2 : w55.cell? ⟨gb159, 2, none⟩ = some (.slice A0_2 l0_2.length c0_2) := (kC BK159.1 2).trans rfl; have z_56_3 : w55.cell? ⟨gb159, 3, none⟩ = some (.slice A0_3 l0_3.length c0_3) := (kC BK159.1 3).trans rfl) | ((with_reducible refine gate_callee (f := 18) rfl ?_); refine goesL_ (some 12) rfl rfl Try.func18 (by kernel_rfl) rfl #[.agg #[.int .i64 a0_0, .int .i64 a0_1, .slice A0_2 l0_2.length c0_2, .slice A0_3 l0_3.length c0_3]] rfl (by (try simp only [List.map_toArray, List.map_cons, List.map_nil]); first | rfl ) ?_; (with_reducible refine (cipher_CheckBook.calls a0_0 a0_1 _ _ l0_2 _ _ l0_3 t160 _ ?side1 ?side2 ?side3 ?side4 A4.1).mono ?_); (case side1 => repeat (first | exact (Kd.C_below HR0_2.1 HB.1) )); (case side2 => exact HC0_2.1); (case side3 => repeat (first | exact (Kd.C_below HR0_3.1 HB.1) )); (case side4 => exact HC0_3.1); rintro e w57 ⟨rfl, hb⟩; refine ⟨_, rfl, ?_⟩; replace BK159 := Sd.mk (kB (g := gb159) (o := .cells #[.int .i64 a0_0, .int .i64 a0_1, .slice A0_2 l0_2.length c0_2, .slice A0_3 l0_3.length c0_3] 32 (0, 0)) (by (with_reducible repeat (fail)); exact BK159.1) hb); replace HB := Sd.mk (bT (by repeat (first | (with_reducible first | exact HB.1 ) )) hb); (try clear hb); have z_58_0 : w57.cell? ⟨gb159, 0, none⟩ = some (.int .i64 a0_0) := (kC BK159.1 0).trans rfl; have z_58_1 : w57.cell? ⟨gb159, 1, none⟩ = some (.int .i64 a0_1) := (kC BK159.1 1).trans rfl; have z_58_2 : w57.cell? ⟨gb159, 2, none⟩ = some (.slice A0_2 l0_2.length c0_2) := (kC BK159.1 2).trans rfl; have z_58_3 : w57.cell? ⟨gb159, 3, none⟩ = some (.slice A0_3 l0_3.length c0_3) := (kC BK159.1 3).trans rfl) | ((with_reducible refine gate_callee (f := 56) rfl ?_); refine goesL_ (some 22) rfl rfl Try.func56 (by kernel_rfl) rfl #[.agg #[.int .i64 a0_0, .int .i64 a0_1, .slice A0_2 l0_2.length c0_2, .slice A0_3 l0_3.length c0_3], .int .i64 a1] rfl (by (try simp only [List.map_toArray, List.map_cons, List.map_nil]); first | rfl ) ?_; (with_reducible refine (cipher_Book_day.calls a0_0 a0_1 _ _ l0_2 _ _ l0_3 a1 false _ ?side1 ?side2 ?side3 ?side4 A6.1).mono ?_); (case side1 => repeat (first | exact (Kd.C_below HR0_2.1 HB.1) )); (case side2 => exact HC0_2.1); (case side3 => repeat (first | exact (Kd.C_below HR0_3.1 HB.1) )); (case side4 => exact HC0_3.1); rintro e w59 ⟨rfl, hb⟩; refine ⟨_, rfl, ?_⟩; replace BK159 := Sd.mk (kB (g := gb159) (o := .cells #[.int .i64 a0_0, .int .i64 a0_1, .slice A0_2 l0_2.length c0_2, .slice A0_3 l0_3.length c0_3] 32 (0, 0)) (by (with_reducible repeat (fail)); exact BK159.1) hb); replace HB := Sd.mk (bT (by repeat (first | (with_reducible first | exact HB.1 ) )) hb); (try clear hb)))
   go_ret3
   exact ⟨_, _, by first | rfl , by first | exact Kd.R_nil _ _ _ _ _ , by first | exact Kd.R_nil _ _ _ _ _ , by repeat (first | (with_reducible first | exact HB.1 ) )⟩
 ·rw [if_neg c5] at H
  have c5b0 : (t160 == 0) = false := beq_eq_false_iff_ne.mpr c5
  have c5b1 : (t160 != 0) = true := bne_iff_ne.mpr c5
  simp only [Option.some.injEq, Prod.mk.injEq] at H
  obtain ⟨rfl, rfl, rfl⟩ := H
  go_enter Try.func27, Try.ntmps27
  go_wp2_with (first | ((with_reducible refine gD (N := 3) rfl ?_); refine xE ?hg (N := 3) ?hd (cs := #[.int .i64 a0_0, .int .i64 a0_1, .slice A0_2 l0_2.length c0_2, .slice A0_3 l0_3.length c0_3]) (t := 32) ?hr ?_; (case hd => rfl); (case hg => rfl); (case hr => first | (go_simp; done) ); intro gb159 hg w60 hbox hb; have BK159 := Sd.mk (hbox); have GW159 := Sd.mk ((by rw [hg]; exact (bZ (by repeat (first | (with_reducible first | exact HB.1 ) ))) : w.heap.size ≤ gb159)); have GE159 := Sd.mk ((by rw [hg]; exact (bZ (by repeat (first | (with_reducible first | exact HB.1 ) ))) : w.heap.size ≤ gb159)); replace HB := Sd.mk (bT (by repeat (first | (with_reducible first | exact HB.1 ) )) hb); clear hb hbox hg; have z_61_0 : w60.cell? ⟨gb159, 0, none⟩ = some (.int .i64 a0_0) := (kC BK159.1 0).trans rfl; have z_61_1 : w60.cell? ⟨gb159, 1, none⟩ = some (.int .i64 a0_1) := (kC BK159.1 1).trans rfl; have z_61_2 : w60.cell? ⟨gb159, 2, none⟩ = some (.slice A0_2 l0_2.length c0_2) := (kC BK159.1 2).trans rfl; have z_61_3 : w60.cell? ⟨gb159, 3, none⟩ = some (.slice A0_3 l0_3.length c0_3) := (kC BK159.1 3).trans rfl) | ((with_reducible refine gate_callee (f := 18) rfl ?_); refine goesL_ (some 12) rfl rfl Try.func18 (by kernel_rfl) rfl #[.agg #[.int .i64 a0_0, .int .i64 a0_1, .slice A0_2 l0_2.length c0_2, .slice A0_3 l0_3.length c0_3]] rfl (by (try simp only [List.map_toArray, List.map_cons, List.map_nil]); first | rfl ) ?_; (with_reducible refine (cipher_CheckBook.calls a0_0 a0_1 _ _ l0_2 _ _ l0_3 t160 _ ?side1 ?side2 ?side3 ?side4 A4.1).mono ?_); (case side1 => repeat (first | exact (Kd.C_below HR0_2.1 HB.1) )); (case side2 => exact HC0_2.1); (case side3 => repeat (first | exact (Kd.C_below HR0_3.1 HB.1) )); (case side4 => exact HC0_3.1); rintro e w62 ⟨rfl, hb⟩; refine ⟨_, rfl, ?_⟩; replace BK159 := Sd.mk (kB (g := gb159) (o := .cells #[.int .i64 a0_0, .int .i64 a0_1, .slice A0_2 l0_2.length c0_2, .slice A0_3 l0_3.length c0_3] 32 (0, 0)) (by (with_reducible repeat (fail)); exact BK159.1) hb); replace HB := Sd.mk (bT (by repeat (first | (with_reducible first | exact HB.1 ) )) hb); (try clear hb)))
  go_ret3
  exact ⟨_, _, by first | rfl , by first | exact Kd.R_nil _ _ _ _ _ , by first | exact Kd.R_nil _ _ _ _ _ , by repeat (first | (with_reducible first | exact HB.1 ) )⟩
end Go.Proofs.Ytnidgkmopocdkaa.P
