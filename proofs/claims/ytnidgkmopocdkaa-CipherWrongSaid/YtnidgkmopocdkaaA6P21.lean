import Derived.Test.YtnidgkmopocdkaaA6P0
import Derived.Test.YtnidgkmopocdkaaA6P3
import Derived.Test.YtnidgkmopocdkaaA6P4
import Derived.Test.YtnidgkmopocdkaaA6P13
import Derived.Test.YtnidgkmopocdkaaA6P14
import Derived.Test.YtnidgkmopocdkaaA6P17
import Derived.Test.YtnidgkmopocdkaaA6HAwake
namespace Go.Proofs.Ytnidgkmopocdkaa.P
open Go.RowKit Go.Proofs.YtnidgkmopocdkaaW.PrintWords Go.Proofs.YtnidgkmopocdkaaW.PrintLast Go.Proofs.YtnidgkmopocdkaaW.PrintMore
attribute [local go_sem] max2_int min2_int max_two min_two max_three min_three max_four min_four   -- for this text's walks alone
set_option linter.unusedVariables false
set_option linter.unusedSimpArgs false
mutual
def glisterlaw04_CipherWrong.j0 : Nat → Int → Int → Int → Int → List Int → Bool → Int → Int → List (S82) → List Int → Option (Bool)
 | 0, _, _, _, _, _, _, _, _, _, _ => none
 | k + 1, x3, x4, x5, x13, x14, x55, x466000, x466001, x466002, x466003 => if x55 = true then (none) else (if (x14.length : Int) = 0 then (none) else ((glisterlaw04_list.f x14).bind fun t483 => ((glisterlaw04_list.f x14).bind fun t486 => (if 0 ≤ (Int.tmod (wrap64 (x3)) (x14.length : Int)) then (if (Int.tmod (wrap64 (x3)) (x14.length : Int)) < (t483.length : Int) then (if (wrap64 (x466000 - 1)) = 0 then (none) else (if x466000 = 0 then (none) else (if 0 ≤ (Int.tmod (wrap64 (x4)) (x14.length : Int)) then (if (Int.tmod (wrap64 (x4)) (x14.length : Int)) < (x14.length : Int) then (if (Int.tmod (wrap64 (x3)) (x14.length : Int)) < (t486.length : Int) then (if (Int.tmod (wrap64 (x3)) (x14.length : Int)) < (x14.length : Int) then (if (Int.tmod (wrap64 (x4)) (x14.length : Int)) < (t486.length : Int) then ((glisterlaw04_Book.f k x466000 x466001 x466002 x466003).bind fun bt495 => ((cipher_Decode.f k bt495.1 bt495.2.1 bt495.2.2.1 bt495.2.2.2 x13 (t483.set ((Int.tmod (wrap64 (x3)) (x14.length : Int)) : Int).toNat (Int.tmod (wrap64 ((wrap64 ((rd t483 (Int.tmod (wrap64 (x3)) (x14.length : Int))) + 1)) + (Int.tmod (wrap64 (x5)) (wrap64 (x466000 - 1))))) x466000))).bind fun bt503 => ((glisterlaw04_Book.f k x466000 x466001 x466002 x466003).bind fun bt510 => ((cipher_Decode.f k bt510.1 bt510.2.1 bt510.2.2.1 bt510.2.2.2 x13 ((t486.set ((Int.tmod (wrap64 (x3)) (x14.length : Int)) : Int).toNat (rd x14 (Int.tmod (wrap64 (x4)) (x14.length : Int)))).set ((Int.tmod (wrap64 (x4)) (x14.length : Int)) : Int).toNat (rd x14 (Int.tmod (wrap64 (x3)) (x14.length : Int))))).bind fun bt518 => (if bt503.2.2 = 0 then (glisterlaw04_CipherWrong.j1 k x14 (Int.tmod (wrap64 (x3)) (x14.length : Int)) (Int.tmod (wrap64 (x4)) (x14.length : Int)) bt518.1 bt518.2.1 bt518.2.2 true) else (glisterlaw04_CipherWrong.j1 k x14 (Int.tmod (wrap64 (x3)) (x14.length : Int)) (Int.tmod (wrap64 (x4)) (x14.length : Int)) bt518.1 bt518.2.1 bt518.2.2 (decide ((wrap64 ((bt503.1.length : Int) + (bt503.2.1.length : Int))) > 0)))))))) else (none)) else (none)) else (none)) else (none)) else (none)))) else (none)) else (none)))))
def glisterlaw04_CipherWrong.j1 : Nat → List Int → Int → Int → List Int → List Int → Int → Bool → Option (Bool)
 | 0, _, _, _, _, _, _, _ => none
 | k + 1, x14, x16, x17, x23, x24, x25, x129 => if x129 = true then (none) else (if 0 ≤ x16 then (if x16 < (x14.length : Int) then (if 0 ≤ x17 then (if x17 < (x14.length : Int) then (if (rd x14 x16) = (rd x14 x17) then (if x25 = 0 then ((glisterlaw04_awake.f).bind fun t527 => (some t527)) else (none)) else (if x25 = 0 then (none) else (if (wrap64 ((x23.length : Int) + (x24.length : Int))) = 0 then ((glisterlaw04_awake.f).bind fun t528 => (some t528)) else (none)))) else (none)) else (none)) else (none)) else (none))
end
def glisterlaw04_CipherWrong.f (k : Nat) (a0_0 : Int) (a0_1 : Int) (l0_2 : List (S82)) (l0_3 : List Int) (l1 : List Int) (a2 : Int) (a3 : Int) (a4 : Int) (a5 : Int) : Option (Bool) := (glisterlaw04_ready.f k a0_0 a0_1 l0_2 l0_3 l1).bind fun t466 => (if t466 = true then (if (l0_3.length : Int) = 0 then (none) else ((glisterlaw04_Book.f k a0_0 a0_1 l0_2 l0_3).bind fun bt468 => ((glisterlaw04_list.f l1).bind fun t476 => ((cipher_Code.f k bt468.1 bt468.2.1 bt468.2.2.1 bt468.2.2.2 (Int.tmod (wrap64 (a2)) (l0_3.length : Int)) t476).bind fun bt479 => (if bt479.2 = 0 then (glisterlaw04_CipherWrong.j0 k a3 a4 a5 (Int.tmod (wrap64 (a2)) (l0_3.length : Int)) bt479.1 ((bt479.1.length : Int) != (wrap64 ((l1.length : Int) + 2))) a0_0 a0_1 l0_2 l0_3) else (glisterlaw04_CipherWrong.j0 k a3 a4 a5 (Int.tmod (wrap64 (a2)) (l0_3.length : Int)) bt479.1 true a0_0 a0_1 l0_2 l0_3)))))) else ((glisterlaw04_awake.f).bind fun t467 => (some t467)))
def glisterlaw04_CipherWrong.T7 : Bool × List (List Nat × List Nat) := (true, [([], []), ([0], [0]), ([], []), ([2], [2]), ([1, 3], [1, 3]), ([], []), ([5], [5]), ([], []), ([7], [7]), ([6, 8], [6, 8]), ([4, 0, 1, 2, 3, 4], [4]), ([9, 10, 0, 1, 2, 3, 4, 5, 6, 7, 8, 9, 10], [9])])
def glisterlaw04_CipherWrong.B7 : List Nat := [0, 1, 0, 4, 15, 0, 32, 0, 128, 480, 31, 2047]
theorem glisterlaw04_CipherWrong.tab7 : rtab .any (opsOf Try.f7 7) = glisterlaw04_CipherWrong.T7 := by kernel_rfl
theorem glisterlaw04_CipherWrong.bits7 : waitsOk glisterlaw04_CipherWrong.T7.2 glisterlaw04_CipherWrong.B7 = true := by kernel_rfl
def glisterlaw04_CipherWrong.T9 : Bool × List (List Nat × List Nat) := (true, [([], []), ([], []), ([], []), ([], []), ([2, 3], [2, 3]), ([4], [4]), ([5], [5]), ([], []), ([7], [7]), ([], []), ([9], [9]), ([10], [10]), ([8, 11], [8, 11]), ([6, 12], [6, 12]), ([], []), ([14], [14]), ([13, 15], [13, 15]), ([0, 1, 0, 1, 2, 3, 4, 5, 6, 7, 8, 9, 10, 11, 12, 13, 14, 15, 16], [0, 1]), ([17, 16, 0, 1, 2, 3, 4, 5, 6, 7, 8, 9, 10, 11, 12, 13, 14, 15, 16], [16, 17])])
def glisterlaw04_CipherWrong.B9 : List Nat := [0, 0, 0, 0, 12, 28, 60, 0, 128, 0, 512, 1536, 3968, 8188, 0, 16384, 65532, 131071, 262143]
theorem glisterlaw04_CipherWrong.tab9 : rtab .any (opsOf Try.f7 9) = glisterlaw04_CipherWrong.T9 := by kernel_rfl
theorem glisterlaw04_CipherWrong.bits9 : waitsOk glisterlaw04_CipherWrong.T9.2 glisterlaw04_CipherWrong.B9 = true := by kernel_rfl
def glisterlaw04_CipherWrong.T16 : Bool × List (List Nat × List Nat) := (true, [([], []), ([], []), ([0, 1], [0, 1]), ([2], [2]), ([], []), ([], []), ([4, 5], [4, 5]), ([6], [6]), ([3, 7], [3, 7])])
def glisterlaw04_CipherWrong.B16 : List Nat := [0, 0, 3, 7, 0, 0, 48, 112, 255]
theorem glisterlaw04_CipherWrong.tab16 : rtab .any (opsOf Try.f7 16) = glisterlaw04_CipherWrong.T16 := by kernel_rfl
theorem glisterlaw04_CipherWrong.bits16 : waitsOk glisterlaw04_CipherWrong.T16.2 glisterlaw04_CipherWrong.B16 = true := by kernel_rfl
set_option maxHeartbeats 8000000 in
set_option maxRecDepth 100000 in
theorem glisterlaw04_CipherWrong.calls (k : Nat) (a0_0 : Int) (a0_1 : Int) (A0_2 : Option Addr) (c0_2 : Nat) (l0_2 : List (S82)) (A0_3 : Option Addr) (c0_3 : Nat) (l0_3 : List Int) (A1 : Option Addr) (c1 : Nat) (l1 : List Int) (a2 : Int) (a3 : Int) (a4 : Int) (a5 : Int) (r : Bool) (w : World) (hr0_2 : Kd.C k82 w A0_2 l0_2.length l0_2) (hc0_2 : l0_2.length ≤ c0_2) (hr0_3 : Kd.C (Kd.int .i64) w A0_3 l0_3.length l0_3) (hc0_3 : l0_3.length ≤ c0_3) (hr1 : Kd.C (Kd.int .i64) w A1 l1.length l1) (hc1 : l1.length ≤ c1) (h : glisterlaw04_CipherWrong.f k a0_0 a0_1 l0_2 l0_3 l1 a2 a3 a4 a5 = some r) :
  Calls Try.prog 7 #[.agg #[.int .i64 a0_0, .int .i64 a0_1, .slice A0_2 l0_2.length c0_2, .slice A0_3 l0_3.length c0_3], .slice A1 l1.length c1, .int .u8 a2, .int .u8 a3, .int .u8 a4, .int .u8 a5] w fun e w' => e = .returned (.bool r) ∧ Below w.heap.size w w' := by
 have hu25 := Try.underlying25
 have HR0_2 := Sd.mk hr0_2
 have HC0_2 := Sd.mk hc0_2
 clear hr0_2 hc0_2
 have HR0_3 := Sd.mk hr0_3
 have HC0_3 := Sd.mk hc0_3
 clear hr0_3 hc0_3
 have HR1 := Sd.mk hr1
 have HC1 := Sd.mk hc1
 clear hr1 hc1
 have HB := Sd.mk (Below.refl w.heap.size w)
 have H : ((glisterlaw04_ready.f k a0_0 a0_1 l0_2 l0_3 l1).bind fun t466 => (if t466 = true then (if (l0_3.length : Int) = 0 then (none) else ((glisterlaw04_Book.f k a0_0 a0_1 l0_2 l0_3).bind fun bt468 => ((glisterlaw04_list.f l1).bind fun t476 => ((cipher_Code.f k bt468.1 bt468.2.1 bt468.2.2.1 bt468.2.2.2 (Int.tmod (wrap64 (a2)) (l0_3.length : Int)) t476).bind fun bt479 => (if bt479.2 = 0 then (glisterlaw04_CipherWrong.j0 k a3 a4 a5 (Int.tmod (wrap64 (a2)) (l0_3.length : Int)) bt479.1 ((bt479.1.length : Int) != (wrap64 ((l1.length : Int) + 2))) a0_0 a0_1 l0_2 l0_3) else (glisterlaw04_CipherWrong.j0 k a3 a4 a5 (Int.tmod (wrap64 (a2)) (l0_3.length : Int)) bt479.1 true a0_0 a0_1 l0_2 l0_3)))))) else ((glisterlaw04_awake.f).bind fun t467 => (some t467)))) = some r := h
 clear h
 obtain ⟨t466, A70, H⟩ := Option.bind_eq_some_iff.mp H
 have A7 := Sd.mk A70
 clear A70
 by_cases c8 : t466 = true
 ·subst c8
  rw [if_pos rfl] at H
  by_cases c9 : (l0_3.length : Int) = 0
  ·rw [if_pos c9] at H
   exact absurd H (by simp)
  ·rw [if_neg c9] at H
   have c9b0 : ((l0_3.length : Int) == 0) = false := beq_eq_false_iff_ne.mpr c9
   have c9b1 : ((l0_3.length : Int) != 0) = true := bne_iff_ne.mpr c9
   have c9b2 : ¬ (l0_3 = []) := fun h_ => c9 (by rw [h_]; rfl)
   replace H := Option.bind_eq_some_iff.mp H
   obtain ⟨⟨t468, t469, t470, t473⟩, A100, H⟩ := H
   replace H : ((glisterlaw04_list.f l1).bind fun t476 => ((cipher_Code.f k t468 t469 t470 t473 (Int.tmod (wrap64 (a2)) (l0_3.length : Int)) t476).bind fun bt479 => (if bt479.2 = 0 then (glisterlaw04_CipherWrong.j0 k a3 a4 a5 (Int.tmod (wrap64 (a2)) (l0_3.length : Int)) bt479.1 ((bt479.1.length : Int) != (wrap64 ((l1.length : Int) + 2))) a0_0 a0_1 l0_2 l0_3) else (glisterlaw04_CipherWrong.j0 k a3 a4 a5 (Int.tmod (wrap64 (a2)) (l0_3.length : Int)) bt479.1 true a0_0 a0_1 l0_2 l0_3)))) = some r := H
   have A10 := Sd.mk A100
   clear A100
   obtain ⟨t476, A110, H⟩ := Option.bind_eq_some_iff.mp H
   have A11 := Sd.mk A110
   clear A110
   replace H := Option.bind_eq_some_iff.mp H
   obtain ⟨⟨t479, t482⟩, A120, H⟩ := H
   replace H : (if t482 = 0 then (glisterlaw04_CipherWrong.j0 k a3 a4 a5 (Int.tmod (wrap64 (a2)) (l0_3.length : Int)) t479 ((t479.length : Int) != (wrap64 ((l1.length : Int) + 2))) a0_0 a0_1 l0_2 l0_3) else (glisterlaw04_CipherWrong.j0 k a3 a4 a5 (Int.tmod (wrap64 (a2)) (l0_3.length : Int)) t479 true a0_0 a0_1 l0_2 l0_3)) = some r := H
   have A12 := Sd.mk A120
   clear A120
   have HC13 := Sd.mk H
   clear H
   go_enter Try.func7, Try.ntmps7
   go_upto_region 5 with (first | ((with_reducible refine gD (N := 6) rfl ?_); (try (refine gG (by rfl) ?_; dsimp only)); refine xE ?hg (N := 6) ?hd (cs := #[.int .i64 a0_0, .int .i64 a0_1, .slice A0_2 l0_2.length c0_2, .slice A0_3 l0_3.length c0_3]) (t := 25) ?hr ?_; (case hd => rfl); (case hg => rfl); (case hr => first | (go_simp; done) ); intro gb465 hg w14 hbox hb; have BK465 := Sd.mk (hbox); have GW465 := Sd.mk ((by rw [hg]; exact (bZ (by repeat (first | (with_reducible first | exact HB.1 ) ))) : w.heap.size ≤ gb465)); have GE465 := Sd.mk ((by rw [hg]; exact (bZ (by repeat (first | (with_reducible first | exact HB.1 ) ))) : w.heap.size ≤ gb465)); replace HB := Sd.mk (bT (by repeat (first | (with_reducible first | exact HB.1 ) )) hb); clear hb hbox hg; have z_15_0 : w14.cell? ⟨gb465, 0, none⟩ = some (.int .i64 a0_0) := (kC BK465.1 0).trans rfl; have z_15_1 : w14.cell? ⟨gb465, 1, none⟩ = some (.int .i64 a0_1) := (kC BK465.1 1).trans rfl; have z_15_2 : w14.cell? ⟨gb465, 2, none⟩ = some (.slice A0_2 l0_2.length c0_2) := (kC BK465.1 2).trans rfl; have z_15_3 : w14.cell? ⟨gb465, 3, none⟩ = some (.slice A0_3 l0_3.length c0_3) := (kC BK465.1 3).trans rfl) | ((with_reducible refine gate_callee (f := 33) rfl ?_); refine goesL_ (some 28) rfl rfl Try.func33 (by kernel_rfl) rfl #[.agg #[.int .i64 a0_0, .int .i64 a0_1, .slice A0_2 l0_2.length c0_2, .slice A0_3 l0_3.length c0_3], .slice A1 l1.length c1] rfl (by (try simp only [List.map_toArray, List.map_cons, List.map_nil]); first | rfl ) ?_; (with_reducible refine (glisterlaw04_ready.calls k a0_0 a0_1 _ _ l0_2 _ _ l0_3 _ _ l1 true _ ?side1 ?side2 ?side3 ?side4 ?side5 ?side6 A7.1).mono ?_); (case side1 => repeat (first | exact (Kd.C_below HR0_2.1 HB.1) )); (case side2 => exact HC0_2.1); (case side3 => repeat (first | exact (Kd.C_below HR0_3.1 HB.1) )); (case side4 => exact HC0_3.1); (case side5 => repeat (first | exact (Kd.C_below HR1.1 HB.1) )); (case side6 => exact HC1.1); rintro e w16 ⟨rfl, hb⟩; refine ⟨_, rfl, ?_⟩; replace BK465 := Sd.mk (kB (g := gb465) (o := .cells #[.int .i64 a0_0, .int .i64 a0_1, .slice A0_2 l0_2.length c0_2, .slice A0_3 l0_3.length c0_3] 25 (0, 0)) (by (with_reducible repeat (fail)); exact BK465.1) hb); replace HB := Sd.mk (bT (by repeat (first | (with_reducible first | exact HB.1 ) )) hb); (try clear hb); have z_17_0 : w16.cell? ⟨gb465, 0, none⟩ = some (.int .i64 a0_0) := (kC BK465.1 0).trans rfl; have z_17_1 : w16.cell? ⟨gb465, 1, none⟩ = some (.int .i64 a0_1) := (kC BK465.1 1).trans rfl; have z_17_2 : w16.cell? ⟨gb465, 2, none⟩ = some (.slice A0_2 l0_2.length c0_2) := (kC BK465.1 2).trans rfl; have z_17_3 : w16.cell? ⟨gb465, 3, none⟩ = some (.slice A0_3 l0_3.length c0_3) := (kC BK465.1 3).trans rfl) | ((with_reducible refine gate_callee (f := 19) rfl ?_); refine goesL_ (some 39) rfl rfl Try.func19 (by kernel_rfl) rfl #[.agg #[.int .i64 a0_0, .int .i64 a0_1, .slice A0_2 l0_2.length c0_2, .slice A0_3 l0_3.length c0_3]] rfl (by (try simp only [List.map_toArray, List.map_cons, List.map_nil]); first | rfl ) ?_; (with_reducible refine (glisterlaw04_Book.calls k a0_0 a0_1 _ _ l0_2 _ _ l0_3 t468 t469 t470 t473 _ ?side1 ?side2 ?side3 ?side4 A10.1).mono ?_); (case side1 => repeat (first | exact (Kd.C_below HR0_2.1 HB.1) )); (case side2 => exact HC0_2.1); (case side3 => repeat (first | exact (Kd.C_below HR0_3.1 HB.1) )); (case side4 => exact HC0_3.1); rintro e w18 ⟨v471, v474, rfl, ho0, ho1, hb⟩; refine ⟨_, rfl, ?_⟩; have HO472 := Sd.mk (Kd.R_lower ho0 (bZ (by repeat (first | (with_reducible first | exact HB.1 ) )))); have HO475 := Sd.mk (Kd.R_lower ho1 (bZ (by repeat (first | (with_reducible first | exact HB.1 ) )))); replace BK465 := Sd.mk (kB (g := gb465) (o := .cells #[.int .i64 a0_0, .int .i64 a0_1, .slice A0_2 l0_2.length c0_2, .slice A0_3 l0_3.length c0_3] 25 (0, 0)) (by (with_reducible repeat (fail)); exact BK465.1) hb); replace HB := Sd.mk (bT (by repeat (first | (with_reducible first | exact HB.1 ) )) hb); (try clear hb); (try clear ho0); (try clear ho1)) | ((with_reducible refine gate_callee (f := 21) rfl ?_); refine goesL_ (some 42) rfl rfl Try.func21 (by kernel_rfl) rfl #[.slice A1 l1.length c1] rfl (by (try simp only [List.map_toArray, List.map_cons, List.map_nil]); first | rfl ) ?_; (with_reducible refine (glisterlaw04_list.calls _ _ l1 t476 _ ?side1 ?side2 A11.1).mono ?_); (case side1 => repeat (first | exact (Kd.C_below HR1.1 HB.1) )); (case side2 => exact HC1.1); rintro e w19 ⟨v477, rfl, ho0, hb⟩; refine ⟨_, rfl, ?_⟩; replace HO472 := Sd.mk (Kd.R_below (by (with_reducible repeat (fail)); exact HO472.1) hb); have HO478 := Sd.mk (Kd.R_lower (Kd.R_new' ho0 (Kd.R_lt (by (with_reducible repeat (fail)); exact HO475.1))) (bZ (by repeat (first | (with_reducible first | exact HB.1 ) )))); replace HO475 := Sd.mk (Kd.R_elder' (by (with_reducible repeat (fail)); exact HO475.1) (Kd.R_base ho0) hb); replace BK465 := Sd.mk (kB (g := gb465) (o := .cells #[.int .i64 a0_0, .int .i64 a0_1, .slice A0_2 l0_2.length c0_2, .slice A0_3 l0_3.length c0_3] 25 (0, 0)) (by (with_reducible repeat (fail)); exact BK465.1) hb); replace HB := Sd.mk (bT (by repeat (first | (with_reducible first | exact HB.1 ) )) hb); (try clear hb); (try clear ho0); obtain ⟨Ao20, co20, eo20⟩ := Kd.R_slice HO472.1; subst eo20; obtain ⟨Ao21, co21, eo21⟩ := Kd.R_slice HO475.1; subst eo21; obtain ⟨Ao22, co22, eo22⟩ := Kd.R_slice HO478.1; subst eo22) | ((with_reducible refine gate_callee (f := 20) rfl ?_); refine goesL_ (some 43) rfl rfl Try.func20 (by kernel_rfl) rfl #[.agg #[.int .i64 t468, .int .i64 t469, .slice Ao20 t470.length co20, .slice Ao21 t473.length co21], .int .i64 (Int.tmod (wrap64 (a2)) (l0_3.length : Int)), .slice Ao22 t476.length co22] rfl (by (try simp only [List.map_toArray, List.map_cons, List.map_nil]); first | rfl ) ?_; (with_reducible refine (cipher_Code.calls k t468 t469 _ _ t470 _ _ t473 (Int.tmod (wrap64 (a2)) (l0_3.length : Int)) _ _ t476 t479 t482 _ ?side1 ?side2 ?side3 ?side4 ?side5 ?side6 A12.1).mono ?_); (case side1 => repeat (first | exact (Kd.R_reads' HO472.1).2.2 )); (case side2 => exact (Kd.R_reads' HO472.1).2.1); (case side3 => repeat (first | exact (Kd.R_reads' HO475.1).2.2 )); (case side4 => exact (Kd.R_reads' HO475.1).2.1); (case side5 => repeat (first | exact (Kd.R_reads' HO478.1).2.2 )); (case side6 => exact (Kd.R_reads' HO478.1).2.1); rintro e w23 ⟨v480, rfl, ho0, hb⟩; refine ⟨_, rfl, ?_⟩; replace HO472 := Sd.mk (Kd.R_below (by (with_reducible repeat (fail)); exact HO472.1) hb); have HO481 := Sd.mk (Kd.R_lower (Kd.R_new' (Kd.R_new' ho0 (Kd.R_lt (by (with_reducible repeat (fail)); exact HO475.1))) (Kd.R_lt (by (with_reducible repeat (fail)); exact HO478.1))) (bZ (by repeat (first | (with_reducible first | exact HB.1 ) )))); replace HO475 := Sd.mk (Kd.R_elder' (by (with_reducible repeat (fail)); exact HO475.1) (Kd.R_base ho0) hb); replace HO478 := Sd.mk (Kd.R_elder' (by (with_reducible repeat (fail)); exact HO478.1) (Kd.R_base ho0) hb); replace BK465 := Sd.mk (kB (g := gb465) (o := .cells #[.int .i64 a0_0, .int .i64 a0_1, .slice A0_2 l0_2.length c0_2, .slice A0_3 l0_3.length c0_3] 25 (0, 0)) (by (with_reducible repeat (fail)); exact BK465.1) hb); replace HB := Sd.mk (bT (by repeat (first | (with_reducible first | exact HB.1 ) )) hb); (try clear hb); (try clear ho0)))
   go_cut [55] (fun v55 wc => ∃ (kq : Nat) (x55_12 : Bool), v55 = .bool x55_12 ∧ Sd (glisterlaw04_CipherWrong.j0 kq a3 a4 a5 (Int.tmod (wrap64 (a2)) (l0_3.length : Int)) t479 x55_12 a0_0 a0_1 l0_2 l0_3 = some r) ∧ Sd (kq ≤ k) ∧ Sd (Kd.R (Kd.int .i64) 3 wc w.heap.size (fun _ => True) v480 t479) ∧ Sd (wc.heap[gb465]? = some (.cells #[.int .i64 a0_0, .int .i64 a0_1, (.slice A0_2 l0_2.length c0_2), (.slice A0_3 l0_3.length c0_3)] 25 (0, 0))) ∧ Sd (Below w.heap.size w wc))
   case first =>
    have H := HC13.1
    clear HC13
    by_cases c24 : t482 = 0
    ·rw [if_pos c24] at H
     have c24b0 : (t482 == 0) = true := beq_iff_eq.mpr c24
     have c24b1 : (t482 != 0) = false := bne_eq_false_iff_eq.mpr c24
     clear c24
     have H' := Sd.mk H
     clear H
     obtain ⟨Ao25, co25, eo25⟩ := Kd.R_slice HO481.1
     subst eo25
     go_wp2
     go_meet
     case rel => exact ⟨_, (((t479.length : Int) != (wrap64 ((l1.length : Int) + 2)))), (by first | rfl ), H', ⟨by first | omega ⟩, ⟨by (with_reducible repeat (fail)); exact Kd.R_mono HO481.1 (fun _ hk => trivial)⟩, ⟨by (with_reducible repeat (fail)); exact BK465.1⟩, ⟨by repeat (first | (with_reducible first | exact HB.1 ) )⟩⟩
    ·rw [if_neg c24] at H
     have c24b0 : (t482 == 0) = false := beq_eq_false_iff_ne.mpr c24
     have c24b1 : (t482 != 0) = true := bne_iff_ne.mpr c24
     have H' := Sd.mk H
     clear H
     go_wp2
     go_meet
     case rel => exact ⟨_, (true), (by first | rfl ), H', ⟨by first | omega ⟩, ⟨by (with_reducible repeat (fail)); exact Kd.R_mono HO481.1 (fun _ hk => trivial)⟩, ⟨by (with_reducible repeat (fail)); exact BK465.1⟩, ⟨by repeat (first | (with_reducible first | exact HB.1 ) )⟩⟩
   case rest =>
    clear HC13
    clear c9 c9b0 c9b1 c9b2
    clear z_15_0 z_15_1 z_15_2 z_15_3 z_17_0 z_17_1 z_17_2 z_17_3
    obtain ⟨kq, x55_12, rfl, HA, HJ12, HO_14, BK465, HB⟩ := hcut
    cases kq with
    | zero => exact absurd HA.1 (by simp [glisterlaw04_CipherWrong.j0])
    | succ kj12 =>
     have H := HA.1
     clear HA
     simp only [glisterlaw04_CipherWrong.j0] at H
     by_cases c26 : x55_12 = true
     ·subst c26
      rw [if_pos rfl] at H
      exact absurd H (by simp)
     ·replace c26 := Bool.eq_false_iff.mpr c26
      subst c26
      rw [if_neg (show ¬ (false = true) by decide)] at H
      by_cases c27 : (t479.length : Int) = 0
      ·rw [if_pos c27] at H
       exact absurd H (by simp)
      ·rw [if_neg c27] at H
       have c27b0 : ((t479.length : Int) == 0) = false := beq_eq_false_iff_ne.mpr c27
       have c27b1 : ((t479.length : Int) != 0) = true := bne_iff_ne.mpr c27
       have c27b2 : ¬ (t479 = []) := fun h_ => c27 (by rw [h_]; rfl)
       obtain ⟨t483, A280, H⟩ := Option.bind_eq_some_iff.mp H
       have A28 := Sd.mk A280
       clear A280
       obtain ⟨t486, A290, H⟩ := Option.bind_eq_some_iff.mp H
       have A29 := Sd.mk A290
       clear A290
       obtain ⟨ji30, hji30⟩ : ∃ j_ : Int, (Int.tmod (wrap64 (a3)) (t479.length : Int)) = j_ := ⟨_, rfl⟩
       replace H : (if 0 ≤ (ji30) then (if (ji30) < (t483.length : Int) then (if (wrap64 (a0_0 - 1)) = 0 then (none) else (if a0_0 = 0 then (none) else (if 0 ≤ (Int.tmod (wrap64 (a4)) (t479.length : Int)) then (if (Int.tmod (wrap64 (a4)) (t479.length : Int)) < (t479.length : Int) then (if (ji30) < (t486.length : Int) then (if (ji30) < (t479.length : Int) then (if (Int.tmod (wrap64 (a4)) (t479.length : Int)) < (t486.length : Int) then ((glisterlaw04_Book.f kj12 a0_0 a0_1 l0_2 l0_3).bind fun bt495 => ((cipher_Decode.f kj12 bt495.1 bt495.2.1 bt495.2.2.1 bt495.2.2.2 (Int.tmod (wrap64 (a2)) (l0_3.length : Int)) (t483.set ((ji30) : Int).toNat (Int.tmod (wrap64 ((wrap64 ((rd t483 (ji30)) + 1)) + (Int.tmod (wrap64 (a5)) (wrap64 (a0_0 - 1))))) a0_0))).bind fun bt503 => ((glisterlaw04_Book.f kj12 a0_0 a0_1 l0_2 l0_3).bind fun bt510 => ((cipher_Decode.f kj12 bt510.1 bt510.2.1 bt510.2.2.1 bt510.2.2.2 (Int.tmod (wrap64 (a2)) (l0_3.length : Int)) ((t486.set ((ji30) : Int).toNat (rd t479 (Int.tmod (wrap64 (a4)) (t479.length : Int)))).set ((Int.tmod (wrap64 (a4)) (t479.length : Int)) : Int).toNat (rd t479 (ji30)))).bind fun bt518 => (if bt503.2.2 = 0 then (glisterlaw04_CipherWrong.j1 kj12 t479 ji30 (Int.tmod (wrap64 (a4)) (t479.length : Int)) bt518.1 bt518.2.1 bt518.2.2 true) else (glisterlaw04_CipherWrong.j1 kj12 t479 ji30 (Int.tmod (wrap64 (a4)) (t479.length : Int)) bt518.1 bt518.2.1 bt518.2.2 (decide ((wrap64 ((bt503.1.length : Int) + (bt503.2.1.length : Int))) > 0)))))))) else (none)) else (none)) else (none)) else (none)) else (none)))) else (none)) else (none)) = some r := by first | (rw [hji30] at H; exact H) 
       by_cases c31 : 0 ≤ (ji30)
       ·rw [if_pos c31] at H
        have c31b0 : decide (0 ≤ (ji30)) = true := decide_eq_true c31
        clear c31
        by_cases c32 : (ji30) < (t483.length : Int)
        ·rw [if_pos c32] at H
         have c32b0 : decide ((ji30) < (t483.length : Int)) = true := decide_eq_true c32
         clear c32
         by_cases c33 : (wrap64 (a0_0 - 1)) = 0
         ·rw [if_pos c33] at H
          exact absurd H (by simp)
         ·rw [if_neg c33] at H
          have c33b0 : ((wrap64 (a0_0 - 1)) == 0) = false := beq_eq_false_iff_ne.mpr c33
          have c33b1 : ((wrap64 (a0_0 - 1)) != 0) = true := bne_iff_ne.mpr c33
          by_cases c34 : a0_0 = 0
          ·rw [if_pos c34] at H
           exact absurd H (by simp)
          ·rw [if_neg c34] at H
           have c34b0 : (a0_0 == 0) = false := beq_eq_false_iff_ne.mpr c34
           have c34b1 : (a0_0 != 0) = true := bne_iff_ne.mpr c34
           obtain ⟨y490, hy490⟩ : ∃ y_ : List Int, y_ = (t483.set ((ji30) : Int).toNat (Int.tmod (wrap64 ((wrap64 ((rd t483 (ji30)) + 1)) + (Int.tmod (wrap64 (a5)) (wrap64 (a0_0 - 1))))) a0_0)) := ⟨_, rfl⟩
           replace H : (if 0 ≤ (Int.tmod (wrap64 (a4)) (t479.length : Int)) then (if (Int.tmod (wrap64 (a4)) (t479.length : Int)) < (t479.length : Int) then (if (ji30) < (t486.length : Int) then (if (ji30) < (t479.length : Int) then (if (Int.tmod (wrap64 (a4)) (t479.length : Int)) < (t486.length : Int) then ((glisterlaw04_Book.f kj12 a0_0 a0_1 l0_2 l0_3).bind fun bt495 => ((cipher_Decode.f kj12 bt495.1 bt495.2.1 bt495.2.2.1 bt495.2.2.2 (Int.tmod (wrap64 (a2)) (l0_3.length : Int)) y490).bind fun bt503 => ((glisterlaw04_Book.f kj12 a0_0 a0_1 l0_2 l0_3).bind fun bt510 => ((cipher_Decode.f kj12 bt510.1 bt510.2.1 bt510.2.2.1 bt510.2.2.2 (Int.tmod (wrap64 (a2)) (l0_3.length : Int)) ((t486.set ((ji30) : Int).toNat (rd t479 (Int.tmod (wrap64 (a4)) (t479.length : Int)))).set ((Int.tmod (wrap64 (a4)) (t479.length : Int)) : Int).toNat (rd t479 (ji30)))).bind fun bt518 => (if bt503.2.2 = 0 then (glisterlaw04_CipherWrong.j1 kj12 t479 ji30 (Int.tmod (wrap64 (a4)) (t479.length : Int)) bt518.1 bt518.2.1 bt518.2.2 true) else (glisterlaw04_CipherWrong.j1 kj12 t479 ji30 (Int.tmod (wrap64 (a4)) (t479.length : Int)) bt518.1 bt518.2.1 bt518.2.2 (decide ((wrap64 ((bt503.1.length : Int) + (bt503.2.1.length : Int))) > 0)))))))) else (none)) else (none)) else (none)) else (none)) else (none)) = some r := by first | (rw [hy490]; with_reducible exact H) 
           have Ny490 := Sd.mk hy490
           clear hy490
           obtain ⟨ji36, hji36⟩ : ∃ j_ : Int, (Int.tmod (wrap64 (a4)) (t479.length : Int)) = j_ := ⟨_, rfl⟩
           replace H : (if 0 ≤ (ji36) then (if (ji36) < (t479.length : Int) then (if (ji30) < (t486.length : Int) then (if (ji30) < (t479.length : Int) then (if (ji36) < (t486.length : Int) then ((glisterlaw04_Book.f kj12 a0_0 a0_1 l0_2 l0_3).bind fun bt495 => ((cipher_Decode.f kj12 bt495.1 bt495.2.1 bt495.2.2.1 bt495.2.2.2 (Int.tmod (wrap64 (a2)) (l0_3.length : Int)) y490).bind fun bt503 => ((glisterlaw04_Book.f kj12 a0_0 a0_1 l0_2 l0_3).bind fun bt510 => ((cipher_Decode.f kj12 bt510.1 bt510.2.1 bt510.2.2.1 bt510.2.2.2 (Int.tmod (wrap64 (a2)) (l0_3.length : Int)) ((t486.set ((ji30) : Int).toNat (rd t479 (ji36))).set ((ji36) : Int).toNat (rd t479 (ji30)))).bind fun bt518 => (if bt503.2.2 = 0 then (glisterlaw04_CipherWrong.j1 kj12 t479 ji30 ji36 bt518.1 bt518.2.1 bt518.2.2 true) else (glisterlaw04_CipherWrong.j1 kj12 t479 ji30 ji36 bt518.1 bt518.2.1 bt518.2.2 (decide ((wrap64 ((bt503.1.length : Int) + (bt503.2.1.length : Int))) > 0)))))))) else (none)) else (none)) else (none)) else (none)) else (none)) = some r := by first | (rw [hji36] at H; exact H) 
           by_cases c37 : 0 ≤ (ji36)
           ·rw [if_pos c37] at H
            have c37b0 : decide (0 ≤ (ji36)) = true := decide_eq_true c37
            clear c37
            by_cases c38 : (ji36) < (t479.length : Int)
            ·rw [if_pos c38] at H
             have c38b0 : decide ((ji36) < (t479.length : Int)) = true := decide_eq_true c38
             clear c38
             by_cases c39 : (ji30) < (t486.length : Int)
             ·rw [if_pos c39] at H
              have c39b0 : decide ((ji30) < (t486.length : Int)) = true := decide_eq_true c39
              clear c39
              obtain ⟨y492, hy492⟩ : ∃ y_ : List Int, y_ = (t486.set ((ji30) : Int).toNat (rd t479 (ji36))) := ⟨_, rfl⟩
              replace H : (if (ji30) < (t479.length : Int) then (if (ji36) < (t486.length : Int) then ((glisterlaw04_Book.f kj12 a0_0 a0_1 l0_2 l0_3).bind fun bt495 => ((cipher_Decode.f kj12 bt495.1 bt495.2.1 bt495.2.2.1 bt495.2.2.2 (Int.tmod (wrap64 (a2)) (l0_3.length : Int)) y490).bind fun bt503 => ((glisterlaw04_Book.f kj12 a0_0 a0_1 l0_2 l0_3).bind fun bt510 => ((cipher_Decode.f kj12 bt510.1 bt510.2.1 bt510.2.2.1 bt510.2.2.2 (Int.tmod (wrap64 (a2)) (l0_3.length : Int)) (y492.set ((ji36) : Int).toNat (rd t479 (ji30)))).bind fun bt518 => (if bt503.2.2 = 0 then (glisterlaw04_CipherWrong.j1 kj12 t479 ji30 ji36 bt518.1 bt518.2.1 bt518.2.2 true) else (glisterlaw04_CipherWrong.j1 kj12 t479 ji30 ji36 bt518.1 bt518.2.1 bt518.2.2 (decide ((wrap64 ((bt503.1.length : Int) + (bt503.2.1.length : Int))) > 0)))))))) else (none)) else (none)) = some r := by first | (rw [hy492]; with_reducible exact H) 
              have Ny492 := Sd.mk hy492
              clear hy492
              by_cases c41 : (ji30) < (t479.length : Int)
              ·rw [if_pos c41] at H
               have c41b0 : decide ((ji30) < (t479.length : Int)) = true := decide_eq_true c41
               clear c41
               by_cases c42 : (ji36) < (t486.length : Int)
               ·rw [if_pos c42] at H
                have c42b0 : decide ((ji36) < (t486.length : Int)) = true := decide_eq_true c42
                clear c42
                obtain ⟨y494, hy494⟩ : ∃ y_ : List Int, y_ = (y492.set ((ji36) : Int).toNat (rd t479 (ji30))) := ⟨_, rfl⟩
                replace H : ((glisterlaw04_Book.f kj12 a0_0 a0_1 l0_2 l0_3).bind fun bt495 => ((cipher_Decode.f kj12 bt495.1 bt495.2.1 bt495.2.2.1 bt495.2.2.2 (Int.tmod (wrap64 (a2)) (l0_3.length : Int)) y490).bind fun bt503 => ((glisterlaw04_Book.f kj12 a0_0 a0_1 l0_2 l0_3).bind fun bt510 => ((cipher_Decode.f kj12 bt510.1 bt510.2.1 bt510.2.2.1 bt510.2.2.2 (Int.tmod (wrap64 (a2)) (l0_3.length : Int)) y494).bind fun bt518 => (if bt503.2.2 = 0 then (glisterlaw04_CipherWrong.j1 kj12 t479 ji30 ji36 bt518.1 bt518.2.1 bt518.2.2 true) else (glisterlaw04_CipherWrong.j1 kj12 t479 ji30 ji36 bt518.1 bt518.2.1 bt518.2.2 (decide ((wrap64 ((bt503.1.length : Int) + (bt503.2.1.length : Int))) > 0)))))))) = some r := by first | (rw [hy494]; with_reducible exact H) 
                have Ny494 := Sd.mk hy494
                clear hy494
                replace H := Option.bind_eq_some_iff.mp H
                obtain ⟨⟨t495, t496, t497, t500⟩, A440, H⟩ := H
                replace H : ((cipher_Decode.f kj12 t495 t496 t497 t500 (Int.tmod (wrap64 (a2)) (l0_3.length : Int)) y490).bind fun bt503 => ((glisterlaw04_Book.f kj12 a0_0 a0_1 l0_2 l0_3).bind fun bt510 => ((cipher_Decode.f kj12 bt510.1 bt510.2.1 bt510.2.2.1 bt510.2.2.2 (Int.tmod (wrap64 (a2)) (l0_3.length : Int)) y494).bind fun bt518 => (if bt503.2.2 = 0 then (glisterlaw04_CipherWrong.j1 kj12 t479 ji30 ji36 bt518.1 bt518.2.1 bt518.2.2 true) else (glisterlaw04_CipherWrong.j1 kj12 t479 ji30 ji36 bt518.1 bt518.2.1 bt518.2.2 (decide ((wrap64 ((bt503.1.length : Int) + (bt503.2.1.length : Int))) > 0))))))) = some r := H
                have A44 := Sd.mk A440
                clear A440
                replace H := Option.bind_eq_some_iff.mp H
                obtain ⟨⟨t503, t506, t509⟩, A450, H⟩ := H
                replace H : ((glisterlaw04_Book.f kj12 a0_0 a0_1 l0_2 l0_3).bind fun bt510 => ((cipher_Decode.f kj12 bt510.1 bt510.2.1 bt510.2.2.1 bt510.2.2.2 (Int.tmod (wrap64 (a2)) (l0_3.length : Int)) y494).bind fun bt518 => (if t509 = 0 then (glisterlaw04_CipherWrong.j1 kj12 t479 ji30 ji36 bt518.1 bt518.2.1 bt518.2.2 true) else (glisterlaw04_CipherWrong.j1 kj12 t479 ji30 ji36 bt518.1 bt518.2.1 bt518.2.2 (decide ((wrap64 ((t503.length : Int) + (t506.length : Int))) > 0)))))) = some r := H
                have A45 := Sd.mk A450
                clear A450
                replace H := Option.bind_eq_some_iff.mp H
                obtain ⟨⟨t510, t511, t512, t515⟩, A460, H⟩ := H
                replace H : ((cipher_Decode.f kj12 t510 t511 t512 t515 (Int.tmod (wrap64 (a2)) (l0_3.length : Int)) y494).bind fun bt518 => (if t509 = 0 then (glisterlaw04_CipherWrong.j1 kj12 t479 ji30 ji36 bt518.1 bt518.2.1 bt518.2.2 true) else (glisterlaw04_CipherWrong.j1 kj12 t479 ji30 ji36 bt518.1 bt518.2.1 bt518.2.2 (decide ((wrap64 ((t503.length : Int) + (t506.length : Int))) > 0))))) = some r := H
                have A46 := Sd.mk A460
                clear A460
                replace H := Option.bind_eq_some_iff.mp H
                obtain ⟨⟨t518, t521, t524⟩, A470, H⟩ := H
                replace H : (if t509 = 0 then (glisterlaw04_CipherWrong.j1 kj12 t479 ji30 ji36 t518 t521 t524 true) else (glisterlaw04_CipherWrong.j1 kj12 t479 ji30 ji36 t518 t521 t524 (decide ((wrap64 ((t503.length : Int) + (t506.length : Int))) > 0)))) = some r := H
                have A47 := Sd.mk A470
                clear A470
                have HC48 := Sd.mk H
                clear H
                try go_wp2
                have n0_ := Sd.mk (Kd.R_drew HO_14.1)
                have n1_ := Sd.mk (kD BK465.1)
                have n2_ := Sd.mk (bD HB.1)
                clear HO_14
                clear BK465
                clear HB
                have HO_14 := n0_
                have BK465 := n1_
                have HB := n2_
                clear n0_ n1_ n2_
                obtain ⟨Ao50, co50, eo50⟩ := Kd.R_slice HO_14.1
                (subst eo50 )
                refine start_ (n := 12) (S := fun w' => True) (ds := []) #[false, false, false, false, false, false, false, false, false, false, false, false] (by kernel_rfl) rfl rfl trivial (fun hHeld => ?_); refine with_tabW glisterlaw04_CipherWrong.tab7 glisterlaw04_CipherWrong.bits7 (fun HT_ HW_ => ?_)
                generalize wc.drew = w49 at HO_14 BK465 HB hHeld ⊢
                refine pure_ (i := 0) (N := some 56) (v := ?_) (a' := ?_) #[true, false, false, false, false, false, false, false, false, false, false, false] rfl rfl (any_of HT_.1 (by kernel_rfl)) (fun _ _ _ h => h) (Or.inl ⟨by rfl, ?_⟩) ?_ ?_
                rotate_left
                ·intro w'
                 go_simp
                 with_reducible rfl
                rotate_left
                ·simp only [Act.put, List.setIfInBounds_toArray, List.set_cons_zero, List.set_cons_succ, i64_w, i32_w]
                 rfl
                refine pure_ (i := 1) (N := some 57) (v := ?_) (a' := ?_) #[true, true, false, false, false, false, false, false, false, false, false, false] rfl rfl (any_of HT_.1 (by kernel_rfl)) (fun _ _ _ h => h) (Or.inl ⟨by rfl, ?_⟩) ?_ ?_
                rotate_left
                ·intro w'
                 go_simp
                 with_reducible rfl
                rotate_left
                ·simp only [Act.put, List.setIfInBounds_toArray, List.set_cons_zero, List.set_cons_succ, i64_w, i32_w]
                 rfl
                refine pure_ (i := 2) (N := some 58) (v := ?_) (a' := ?_) #[true, true, true, false, false, false, false, false, false, false, false, false] rfl rfl (any_of HT_.1 (by kernel_rfl)) (fun _ _ _ h => h) (Or.inl ⟨by rfl, ?_⟩) ?_ ?_
                rotate_left
                ·intro w'
                 go_simp
                 with_reducible rfl
                rotate_left
                ·simp only [Act.put, List.setIfInBounds_toArray, List.set_cons_zero, List.set_cons_succ, i64_w, i32_w]
                 rfl
                refine pure_ (i := 3) (N := some 59) (v := ?_) (a' := ?_) #[true, true, true, true, false, false, false, false, false, false, false, false] rfl rfl (any_of HT_.1 (by kernel_rfl)) (fun _ _ _ h => h) (Or.inl ⟨by rfl, ?_⟩) ?_ ?_
                rotate_left
                ·intro w'
                 go_simp
                 with_reducible rfl
                rotate_left
                ·simp only [Act.put, List.setIfInBounds_toArray, List.set_cons_zero, List.set_cons_succ, i64_w, i32_w]
                 rfl
                refine pure_ (i := 4) (N := some 60) (v := ?_) (a' := ?_) #[true, true, true, true, true, false, false, false, false, false, false, false] rfl rfl (any_of HT_.1 (by kernel_rfl)) (fun _ _ _ h => h) (Or.inl ⟨by rfl, ?_⟩) ?_ ?_
                rotate_left
                ·intro w'
                 go_simp
                 with_reducible rfl
                rotate_left
                ·simp only [Act.put, List.setIfInBounds_toArray, List.set_cons_zero, List.set_cons_succ, i64_w, i32_w]
                 rfl
                refine pure_ (i := 5) (N := some 61) (v := ?_) (a' := ?_) #[true, true, true, true, true, true, false, false, false, false, false, false] rfl rfl (any_of HT_.1 (by kernel_rfl)) (fun _ _ _ h => h) (Or.inl ⟨by rfl, ?_⟩) ?_ ?_
                rotate_left
                ·intro w'
                 go_simp
                 with_reducible rfl
                rotate_left
                ·simp only [Act.put, List.setIfInBounds_toArray, List.set_cons_zero, List.set_cons_succ, i64_w, i32_w]
                 rfl
                refine pure_ (i := 6) (N := some 62) (v := ?_) (a' := ?_) #[true, true, true, true, true, true, true, false, false, false, false, false] rfl rfl (any_of HT_.1 (by kernel_rfl)) (fun _ _ _ h => h) (Or.inl ⟨by rfl, ?_⟩) ?_ ?_
                rotate_left
                ·intro w'
                 go_simp
                 with_reducible rfl
                rotate_left
                ·simp only [Act.put, List.setIfInBounds_toArray, List.set_cons_zero, List.set_cons_succ, i64_w, i32_w]
                 rfl
                refine pure_ (i := 7) (N := some 63) (v := ?_) (a' := ?_) #[true, true, true, true, true, true, true, true, false, false, false, false] rfl rfl (any_of HT_.1 (by kernel_rfl)) (fun _ _ _ h => h) (Or.inl ⟨by rfl, ?_⟩) ?_ ?_
                rotate_left
                ·intro w'
                 go_simp
                 with_reducible rfl
                rotate_left
                ·simp only [Act.put, List.setIfInBounds_toArray, List.set_cons_zero, List.set_cons_succ, i64_w, i32_w]
                 rfl
                refine pure_ (i := 8) (N := some 64) (v := ?_) (a' := ?_) #[true, true, true, true, true, true, true, true, true, false, false, false] rfl rfl (any_of HT_.1 (by kernel_rfl)) (fun _ _ _ h => h) (Or.inl ⟨by rfl, ?_⟩) ?_ ?_
                rotate_left
                ·intro w'
                 go_simp
                 with_reducible rfl
                rotate_left
                ·simp only [Act.put, List.setIfInBounds_toArray, List.set_cons_zero, List.set_cons_succ, i64_w, i32_w]
                 rfl
                refine pure_ (i := 9) (N := some 65) (v := ?_) (a' := ?_) #[true, true, true, true, true, true, true, true, true, true, false, false] rfl rfl (any_of HT_.1 (by kernel_rfl)) (fun _ _ _ h => h) (Or.inl ⟨by rfl, ?_⟩) ?_ ?_
                rotate_left
                ·intro w'
                 go_simp
                 with_reducible rfl
                rotate_left
                ·simp only [Act.put, List.setIfInBounds_toArray, List.set_cons_zero, List.set_cons_succ, i64_w, i32_w]
                 rfl
                refine pure_ (i := 10) (N := some 16) (v := ?_) (a' := ?_) #[true, true, true, true, true, true, true, true, true, true, true, false] rfl rfl (any_of HT_.1 (by kernel_rfl)) (fun _ _ _ h => h) (Or.inl ⟨by rfl, ?_⟩) ?_ ?_
                rotate_left
                ·intro w'
                 go_simp
                 with_reducible rfl
                rotate_left
                ·simp only [Act.put, List.setIfInBounds_toArray, List.set_cons_zero, List.set_cons_succ, i64_w, i32_w]
                 rfl
                refine pure_ (i := 11) (N := some 17) (v := ?_) (a' := ?_) #[true, true, true, true, true, true, true, true, true, true, true, true] rfl rfl (any_of HT_.1 (by kernel_rfl)) (fun _ _ _ h => h) (Or.inl ⟨by rfl, ?_⟩) ?_ ?_
                rotate_left
                ·intro w'
                 go_simp
                 with_reducible rfl
                rotate_left
                ·simp only [Act.put, List.setIfInBounds_toArray, List.set_cons_zero, List.set_cons_succ, i64_w, i32_w]
                 rfl
                refine done_ (done_of HT_.1 (by kernel_rfl)) ?_
                try go_wp2_with (first | ((with_reducible refine gate_callee (f := 21) rfl ?_); refine goesL_ (some 67) rfl rfl Try.func21 (by kernel_rfl) rfl #[.slice Ao50 t479.length co50] rfl (by (try simp only [List.map_toArray, List.map_cons, List.map_nil]); first | rfl ) ?_; (with_reducible refine (glisterlaw04_list.calls _ _ t479 t483 _ ?side1 ?side2 A28.1).mono ?_); (case side1 => repeat (first | exact (Kd.R_reads' HO_14.1).2.2 )); (case side2 => exact (Kd.R_reads' HO_14.1).2.1); rintro e w51 ⟨v484, rfl, ho0, hb⟩; refine ⟨_, rfl, ?_⟩; have HO485 := Sd.mk (Kd.R_lower (Kd.R_new' ho0 (Kd.R_lt (by (with_reducible repeat (fail)); exact HO_14.1))) (bZ (by repeat (first | (with_reducible first | exact HB.1 ) )))); replace HO_14 := Sd.mk (Kd.R_elder' (by (with_reducible repeat (fail)); exact HO_14.1) (Kd.R_base ho0) hb); replace BK465 := Sd.mk (kB (g := gb465) (o := .cells #[.int .i64 a0_0, .int .i64 a0_1, .slice A0_2 l0_2.length c0_2, .slice A0_3 l0_3.length c0_3] 25 (0, 0)) (by (with_reducible repeat (fail)); exact BK465.1) hb); replace HB := Sd.mk (bT (by repeat (first | (with_reducible first | exact HB.1 ) )) hb); (try clear hb); (try clear ho0); (try clear A28)) | ((with_reducible refine gate_callee (f := 21) rfl ?_); refine goesL_ (some 69) rfl rfl Try.func21 (by kernel_rfl) rfl #[.slice Ao50 t479.length co50] rfl (by (try simp only [List.map_toArray, List.map_cons, List.map_nil]); first | rfl ) ?_; (with_reducible refine (glisterlaw04_list.calls _ _ t479 t486 _ ?side1 ?side2 A29.1).mono ?_); (case side1 => repeat (first | exact (Kd.R_reads' HO_14.1).2.2 )); (case side2 => exact (Kd.R_reads' HO_14.1).2.1); rintro e w52 ⟨v487, rfl, ho0, hb⟩; refine ⟨_, rfl, ?_⟩; have HO488 := Sd.mk (Kd.R_lower (Kd.R_new' (Kd.R_new' ho0 (Kd.R_lt (by (with_reducible repeat (fail)); exact HO_14.1))) (Kd.R_lt (by (with_reducible repeat (fail)); exact HO485.1))) (bZ (by repeat (first | (with_reducible first | exact HB.1 ) )))); replace HO_14 := Sd.mk (Kd.R_elder' (by (with_reducible repeat (fail)); exact HO_14.1) (Kd.R_base ho0) hb); replace HO485 := Sd.mk (Kd.R_elder' (by (with_reducible repeat (fail)); exact HO485.1) (Kd.R_base ho0) hb); replace BK465 := Sd.mk (kB (g := gb465) (o := .cells #[.int .i64 a0_0, .int .i64 a0_1, .slice A0_2 l0_2.length c0_2, .slice A0_3 l0_3.length c0_3] 25 (0, 0)) (by (with_reducible repeat (fail)); exact BK465.1) hb); replace HB := Sd.mk (bT (by repeat (first | (with_reducible first | exact HB.1 ) )) hb); (try clear hb); (try clear ho0); (try clear A29)))
                have n0_ := Sd.mk (Kd.R_drew HO_14.1)
                have n1_ := Sd.mk (Kd.R_drew HO485.1)
                have n2_ := Sd.mk (Kd.R_drew HO488.1)
                have n3_ := Sd.mk (kD BK465.1)
                have n4_ := Sd.mk (bD HB.1)
                clear HO_14
                clear HO485
                clear HO488
                clear BK465
                clear HB
                have HO_14 := n0_
                have HO485 := n1_
                have HO488 := n2_
                have BK465 := n3_
                have HB := n4_
                clear n0_ n1_ n2_ n3_ n4_
                obtain ⟨Ao54, co54, eo54⟩ := Kd.R_slice HO485.1
                (subst eo54 )
                have p489 : 0 ≤ ((ji30) : Int) := of_decide_eq_true (by first | (with_reducible assumption) )
                have q489 : (ji30) < (t483.length : Int) := of_decide_eq_true (by first | (with_reducible assumption) )
                obtain ⟨ad489, e489, hx489_0⟩ := Kd.at_int (Kd.R_reads' HO485.1).2.2 (ji30) p489 q489
                cases e489
                replace p489 := eq_true p489
                replace q489 := eq_true q489
                have p35 : 0 ≤ ((ji30) : Int) := of_decide_eq_true (by first | (with_reducible assumption) )
                have q35 : ((ji30) : Int) < ((t483.length : Int) : Int) := of_decide_eq_true (by first | (with_reducible assumption) )
                obtain ⟨go35, co35, eo35, gb35, gl35, cl35, HG35⟩ := Kd.R_form HO485.1 (by omega)
                (cases eo35 )
                have GB35 := Sd.mk gb35
                have GG35 := Sd.mk HG35
                clear gb35 gl35 HG35
                (simp only [add_plain] at hx489_0 )
                obtain ⟨hx35_0, hf35_0⟩ := Kd.R_celln 0 HO485.1 ((ji30) : Int) p35 q35
                replace p35 := eq_true p35
                replace q35 := eq_true q35
                have HP55 := Kd.R_putn HO485.1 ((ji30) : Int) (Int.tmod (wrap64 ((wrap64 ((rd t483 (ji30)) + 1)) + (Int.tmod (wrap64 (a5)) (wrap64 (a0_0 - 1))))) a0_0)
                rw [← Ny490.1] at HP55
                have HQ55 := Sd.mk HP55
                clear HP55
                refine start_ (n := 19) (S := fun w' => w'.cell? ⟨gb465, 0, none⟩ = some (.int .i64 a0_0) ∧ w'.cell? ⟨gb465, 1, none⟩ = some (.int .i64 a0_1) ∧ w'.cell? ⟨gb465, 2, none⟩ = some (.slice A0_2 l0_2.length c0_2) ∧ w'.cell? ⟨gb465, 3, none⟩ = some (.slice A0_3 l0_3.length c0_3) ∧ w'.cell? ⟨go35, ((ji30)).toNat, none⟩ = some (.int .i64 (rd t483 (ji30)))) (ds := [18]) #[false, false, false, false, false, false, false, false, false, false, false, false, false, false, false, false, false, false, false] (by kernel_rfl) rfl rfl ⟨(kC BK465.1 0).trans rfl, (kC BK465.1 1).trans rfl, (kC BK465.1 2).trans rfl, (kC BK465.1 3).trans rfl, hx489_0⟩ (fun hHeld => ?_); refine with_tabW glisterlaw04_CipherWrong.tab9 glisterlaw04_CipherWrong.bits9 (fun HT_ HW_ => ?_)
                generalize w52.drew = w53 at HO_14 HO485 HO488 BK465 HB GG35 HQ55 hf35_0 hx35_0 hx489_0 hHeld ⊢
                refine pure_ (i := 0) (N := some 70) (v := ?_) (a' := ?_) #[true, false, false, false, false, false, false, false, false, false, false, false, false, false, false, false, false, false, false] rfl rfl (any_of HT_.1 (by kernel_rfl)) (fun _ _ _ h => h) (Or.inl ⟨by rfl, ?_⟩) ?_ ?_
                rotate_left
                ·intro w'
                 go_simp
                 with_reducible rfl
                rotate_left
                ·simp only [Act.put, List.setIfInBounds_toArray, List.set_cons_zero, List.set_cons_succ, i64_w, i32_w]
                 rfl
                refine pure_ (i := 1) (N := some 71) (v := ?_) (a' := ?_) #[true, true, false, false, false, false, false, false, false, false, false, false, false, false, false, false, false, false, false] rfl rfl (any_of HT_.1 (by kernel_rfl)) (fun _ _ _ h => h) (Or.inl ⟨by rfl, ?_⟩) ?_ ?_
                rotate_left
                ·intro w'
                 go_simp
                 with_reducible rfl
                rotate_left
                ·simp only [Act.put, List.setIfInBounds_toArray, List.set_cons_zero, List.set_cons_succ, i64_w, i32_w]
                 rfl
                refine pure_ (i := 2) (N := some 72) (v := ?_) (a' := ?_) #[true, true, true, false, false, false, false, false, false, false, false, false, false, false, false, false, false, false, false] rfl rfl (any_of HT_.1 (by kernel_rfl)) (fun _ _ _ h => h) (Or.inl ⟨by rfl, ?_⟩) ?_ ?_
                rotate_left
                ·intro w'
                 go_simp
                 with_reducible rfl
                rotate_left
                ·simp only [Act.put, List.setIfInBounds_toArray, List.set_cons_zero, List.set_cons_succ, i64_w, i32_w]
                 rfl
                refine pure_ (i := 3) (N := some 73) (v := ?_) (a' := ?_) #[true, true, true, true, false, false, false, false, false, false, false, false, false, false, false, false, false, false, false] rfl rfl (any_of HT_.1 (by kernel_rfl)) (fun _ _ _ h => h) (Or.inl ⟨by rfl, ?_⟩) ?_ ?_
                rotate_left
                ·intro w'
                 go_simp
                 with_reducible rfl
                rotate_left
                ·simp only [Act.put, List.setIfInBounds_toArray, List.set_cons_zero, List.set_cons_succ, i64_w, i32_w]
                 rfl
                refine pure_ (i := 4) (N := some 74) (v := ?_) (a' := ?_) #[true, true, true, true, true, false, false, false, false, false, false, false, false, false, false, false, false, false, false] rfl rfl (any_of HT_.1 (by kernel_rfl)) (fun _ _ _ h => h) (Or.inl ⟨by rfl, ?_⟩) ?_ ?_
                rotate_left
                ·intro w'
                 go_simp
                 with_reducible rfl
                rotate_left
                ·simp only [Act.put, List.setIfInBounds_toArray, List.set_cons_zero, List.set_cons_succ, i64_w, i32_w]
                 rfl
                refine pure_ (i := 7) (N := some 77) (v := ?_) (a' := ?_) #[true, true, true, true, true, false, false, true, false, false, false, false, false, false, false, false, false, false, false] rfl rfl (any_of HT_.1 (by kernel_rfl)) (fun _ _ _ h => h) (Or.inl ⟨by rfl, ?_⟩) ?_ ?_
                rotate_left
                ·intro w'
                 go_simp
                 with_reducible rfl
                rotate_left
                ·simp only [Act.put, List.setIfInBounds_toArray, List.set_cons_zero, List.set_cons_succ, i64_w, i32_w]
                 rfl
                refine pure_ (i := 8) (N := some 78) (v := ?_) (a' := ?_) #[true, true, true, true, true, false, false, true, true, false, false, false, false, false, false, false, false, false, false] rfl rfl (any_of HT_.1 (by kernel_rfl)) (fun _ _ _ h => h) (Or.inl ⟨by rfl, ?_⟩) ?_ ?_
                rotate_left
                ·intro w'
                 go_simp
                 with_reducible rfl
                rotate_left
                ·simp only [Act.put, List.setIfInBounds_toArray, List.set_cons_zero, List.set_cons_succ, i64_w, i32_w]
                 rfl
                refine pure_ (i := 9) (N := some 79) (v := ?_) (a' := ?_) #[true, true, true, true, true, false, false, true, true, true, false, false, false, false, false, false, false, false, false] rfl rfl (any_of HT_.1 (by kernel_rfl)) (fun _ _ _ h => h) (Or.inl ⟨by rfl, ?_⟩) ?_ ?_
                rotate_left
                ·intro w'
                 go_simp
                 with_reducible rfl
                rotate_left
                ·simp only [Act.put, List.setIfInBounds_toArray, List.set_cons_zero, List.set_cons_succ, i64_w, i32_w]
                 rfl
                refine pure_ (i := 14) (N := some 84) (v := ?_) (a' := ?_) #[true, true, true, true, true, false, false, true, true, true, false, false, false, false, true, false, false, false, false] rfl rfl (any_of HT_.1 (by kernel_rfl)) (fun _ _ _ h => h) (Or.inl ⟨by rfl, ?_⟩) ?_ ?_
                rotate_left
                ·intro w'
                 go_simp
                 with_reducible rfl
                rotate_left
                ·simp only [Act.put, List.setIfInBounds_toArray, List.set_cons_zero, List.set_cons_succ, i64_w, i32_w]
                 rfl
                refine take_ (i := 5) (N := some 75) (v := ?_) (a' := ?_) #[true, true, true, true, true, true, false, true, true, true, false, false, false, false, true, false, false, false, false] rfl rfl (take_ofW HT_.1 HW_.1 (by kernel_rfl)) (fun _ _ _ h => h) (Or.inl ⟨by rfl, ?_⟩) hHeld ?_ ?_
                rotate_left
                ·rintro w' ⟨s0, s1, s2, s3, s4⟩
                 go_simp
                 with_reducible rfl
                rotate_left
                ·simp only [Act.put, List.setIfInBounds_toArray, List.set_cons_zero, List.set_cons_succ, i64_w, i32_w]
                 rfl
                refine pure_ (i := 6) (N := some 76) (v := ?_) (a' := ?_) #[true, true, true, true, true, true, true, true, true, true, false, false, false, false, true, false, false, false, false] rfl rfl (any_of HT_.1 (by kernel_rfl)) (fun _ _ _ h => h) (Or.inl ⟨by rfl, ?_⟩) ?_ ?_
                rotate_left
                ·intro w'
                 go_simp
                 with_reducible rfl
                rotate_left
                ·simp only [Act.put, List.setIfInBounds_toArray, List.set_cons_zero, List.set_cons_succ, i64_w, i32_w]
                 rfl
                refine take_ (i := 10) (N := some 80) (v := ?_) (a' := ?_) #[true, true, true, true, true, true, true, true, true, true, true, false, false, false, true, false, false, false, false] rfl rfl (take_ofW HT_.1 HW_.1 (by kernel_rfl)) (fun _ _ _ h => h) (Or.inl ⟨by rfl, ?_⟩) hHeld ?_ ?_
                rotate_left
                ·rintro w' ⟨s0, s1, s2, s3, s4⟩
                 go_simp
                 with_reducible rfl
                rotate_left
                ·simp only [Act.put, List.setIfInBounds_toArray, List.set_cons_zero, List.set_cons_succ, i64_w, i32_w]
                 rfl
                refine pure_ (i := 11) (N := some 81) (v := ?_) (a' := ?_) #[true, true, true, true, true, true, true, true, true, true, true, true, false, false, true, false, false, false, false] rfl rfl (any_of HT_.1 (by kernel_rfl)) (fun _ _ _ h => h) (Or.inl ⟨by rfl, ?_⟩) ?_ ?_
                rotate_left
                ·intro w'
                 go_simp
                 with_reducible rfl
                rotate_left
                ·simp only [Act.put, List.setIfInBounds_toArray, List.set_cons_zero, List.set_cons_succ, i64_w, i32_w]
                 rfl
                refine pure_ (i := 12) (N := some 82) (v := ?_) (a' := ?_) #[true, true, true, true, true, true, true, true, true, true, true, true, true, false, true, false, false, false, false] rfl rfl (any_of HT_.1 (by kernel_rfl)) (fun _ _ _ h => h) (Or.inl ⟨by rfl, ?_⟩) ?_ ?_
                rotate_left
                ·intro w'
                 go_simp
                 with_reducible rfl
                rotate_left
                ·simp only [Act.put, List.setIfInBounds_toArray, List.set_cons_zero, List.set_cons_succ, i64_w, i32_w]
                 rfl
                refine pure_ (i := 13) (N := some 83) (v := ?_) (a' := ?_) #[true, true, true, true, true, true, true, true, true, true, true, true, true, true, true, false, false, false, false] rfl rfl (any_of HT_.1 (by kernel_rfl)) (fun _ _ _ h => h) (Or.inl ⟨by rfl, ?_⟩) ?_ ?_
                rotate_left
                ·intro w'
                 go_simp
                 with_reducible rfl
                rotate_left
                ·simp only [Act.put, List.setIfInBounds_toArray, List.set_cons_zero, List.set_cons_succ, i64_w, i32_w]
                 rfl
                refine take_ (i := 15) (N := some 85) (v := ?_) (a' := ?_) #[true, true, true, true, true, true, true, true, true, true, true, true, true, true, true, true, false, false, false] rfl rfl (take_ofW HT_.1 HW_.1 (by kernel_rfl)) (fun _ _ _ h => h) (Or.inl ⟨by rfl, ?_⟩) hHeld ?_ ?_
                rotate_left
                ·rintro w' ⟨s0, s1, s2, s3, s4⟩
                 go_simp
                 with_reducible rfl
                rotate_left
                ·simp only [Act.put, List.setIfInBounds_toArray, List.set_cons_zero, List.set_cons_succ, i64_w, i32_w]
                 rfl
                refine pure_ (i := 16) (N := some 86) (v := ?_) (a' := ?_) #[true, true, true, true, true, true, true, true, true, true, true, true, true, true, true, true, true, false, false] rfl rfl (any_of HT_.1 (by kernel_rfl)) (fun _ _ _ h => h) (Or.inl ⟨by rfl, ?_⟩) ?_ ?_
                rotate_left
                ·intro w'
                 go_simp
                 with_reducible rfl
                rotate_left
                ·simp only [Act.put, List.setIfInBounds_toArray, List.set_cons_zero, List.set_cons_succ, i64_w, i32_w]
                 rfl
                refine pure_ (i := 17) (N := some 87) (v := ?_) (a' := ?_) #[true, true, true, true, true, true, true, true, true, true, true, true, true, true, true, true, true, true, false] rfl rfl (any_of HT_.1 (by kernel_rfl)) (fun _ _ _ h => h) (Or.inl ⟨by rfl, ?_⟩) ?_ ?_
                rotate_left
                ·intro w'
                 go_simp
                 with_reducible rfl
                rotate_left
                ·simp only [Act.put, List.setIfInBounds_toArray, List.set_cons_zero, List.set_cons_succ, i64_w, i32_w]
                 rfl
                refine last_ (i := 18) (N := none) #[true, true, true, true, true, true, true, true, true, true, true, true, true, true, true, true, true, true, true] rfl rfl (one_of HT_.1 (by kernel_rfl)) (by decide) (fun K hK => ?_)
                refine skip_ (w1 := ?_) (by rfl) rfl ?_ ?_
                rotate_left
                ·go_simp
                 rfl
                refine hK.out _ _ ?_
                clear hK K
                refine done_ (done_of HT_.1 (by kernel_rfl)) ?_
                have n0_ : Sd (Kd.R (Kd.int .i64) 3 (w53.setCell ⟨go35, ((ji30) : Int).toNat, none⟩ (.int .i64 (Int.tmod (wrap64 ((wrap64 ((rd t483 (ji30)) + 1)) + (Int.tmod (wrap64 (a5)) (wrap64 (a0_0 - 1))))) a0_0))) w.heap.size (fun k_ => some k_ ≠ (.slice (some ⟨go35, 0, none⟩) t483.length co54 : Value).ownBlock ∧ some k_ ≠ (v487 : Value).ownBlock) (.slice Ao50 t479.length co50) t479) := ⟨by (with_reducible repeat (fail)); exact Kd.R_mono (Kd.R_far (p := ⟨go35, ((ji30) : Int).toNat, none⟩) (Kd.R_mono HO_14.1 (fun k_ hk => (⟨hk, fun e_ => hk.1.2 (by rw [e_]; rfl)⟩ : _ ∧ k_ ≠ go35))) (fun _ hk => hk.2) (.int .i64 (Int.tmod (wrap64 ((wrap64 ((rd t483 (ji30)) + 1)) + (Int.tmod (wrap64 (a5)) (wrap64 (a0_0 - 1))))) a0_0))) (fun _ hk => ⟨hk.1.1.2, hk.1.2⟩)⟩
                have n1_ : Sd (Kd.R (Kd.int .i64) 3 (w53.setCell ⟨go35, ((ji30) : Int).toNat, none⟩ (.int .i64 (Int.tmod (wrap64 ((wrap64 ((rd t483 (ji30)) + 1)) + (Int.tmod (wrap64 (a5)) (wrap64 (a0_0 - 1))))) a0_0))) w.heap.size (fun k_ => some k_ ≠ (.slice Ao50 t479.length co50 : Value).ownBlock ∧ some k_ ≠ (v487 : Value).ownBlock) (.slice (some ⟨go35, 0, none⟩) t483.length co54) y490) := ⟨by (with_reducible repeat (fail)); exact Kd.R_mono HQ55.1 (fun _ hk => ⟨hk.1.2, hk.2⟩)⟩
                have n2_ : Sd (Kd.R (Kd.int .i64) 3 (w53.setCell ⟨go35, ((ji30) : Int).toNat, none⟩ (.int .i64 (Int.tmod (wrap64 ((wrap64 ((rd t483 (ji30)) + 1)) + (Int.tmod (wrap64 (a5)) (wrap64 (a0_0 - 1))))) a0_0))) w.heap.size (fun k_ => some k_ ≠ (.slice Ao50 t479.length co50 : Value).ownBlock ∧ some k_ ≠ (.slice (some ⟨go35, 0, none⟩) t483.length co54 : Value).ownBlock) v487 t486) := ⟨by (with_reducible repeat (fail)); exact Kd.R_mono (Kd.R_far (p := ⟨go35, ((ji30) : Int).toNat, none⟩) (Kd.R_mono HO488.1 (fun k_ hk => (⟨hk, fun e_ => hk.2 (by rw [e_]; rfl)⟩ : _ ∧ k_ ≠ go35))) (fun _ hk => hk.2) (.int .i64 (Int.tmod (wrap64 ((wrap64 ((rd t483 (ji30)) + 1)) + (Int.tmod (wrap64 (a5)) (wrap64 (a0_0 - 1))))) a0_0))) (fun _ hk => ⟨hk.1.1.2, hk.1.2⟩)⟩
                have n3_ : Sd ((w53.setCell ⟨go35, ((ji30) : Int).toNat, none⟩ (.int .i64 (Int.tmod (wrap64 ((wrap64 ((rd t483 (ji30)) + 1)) + (Int.tmod (wrap64 (a5)) (wrap64 (a0_0 - 1))))) a0_0))).heap[gb465]? = some (.cells #[.int .i64 a0_0, .int .i64 a0_1, .slice A0_2 l0_2.length c0_2, .slice A0_3 l0_3.length c0_3] 25 (0, 0))) := ⟨by (with_reducible repeat (fail)); refine blk_far ?_ (by have h_ := Kd.R_ne HO485.1 BK465.1 (by decide); intro e_; exact h_ (by rw [e_]; rfl)) _; (with_reducible repeat (fail)); exact BK465.1⟩
                have n4_ : Sd (Below w.heap.size w (w53.setCell ⟨go35, ((ji30) : Int).toNat, none⟩ (.int .i64 (Int.tmod (wrap64 ((wrap64 ((rd t483 (ji30)) + 1)) + (Int.tmod (wrap64 (a5)) (wrap64 (a0_0 - 1))))) a0_0)))) := ⟨by repeat (first | (with_reducible first | exact HB.1 | refine bS ?_ GB35.1 ) )⟩
                (try clear HO_14)
                (try clear HO485)
                (try clear HO488)
                (try clear BK465)
                (try clear HB)
                generalize (w53.setCell ⟨go35, ((ji30) : Int).toNat, none⟩ (.int .i64 (Int.tmod (wrap64 ((wrap64 ((rd t483 (ji30)) + 1)) + (Int.tmod (wrap64 (a5)) (wrap64 (a0_0 - 1))))) a0_0))) = w56 at n0_ n1_ n2_ n3_ n4_ ⊢
                have HO_14 := n0_
                have HO485 := n1_
                have HO488 := n2_
                have BK465 := n3_
                have HB := n4_
                clear n0_ n1_ n2_ n3_ n4_
                have p491 : 0 ≤ ((ji36) : Int) := of_decide_eq_true (by first | (with_reducible assumption) )
                have q491 : (ji36) < (t479.length : Int) := of_decide_eq_true (by first | (with_reducible assumption) )
                obtain ⟨ad491, e491, hx491_0⟩ := Kd.at_int (Kd.R_reads' HO_14.1).2.2 (ji36) p491 q491
                cases e491
                replace p491 := eq_true p491
                replace q491 := eq_true q491
                have p40 : 0 ≤ ((ji30) : Int) := of_decide_eq_true (by first | (with_reducible assumption) )
                have q40 : ((ji30) : Int) < ((t486.length : Int) : Int) := of_decide_eq_true (by first | (with_reducible assumption) )
                obtain ⟨go40, co40, eo40, gb40, gl40, cl40, HG40⟩ := Kd.R_form HO488.1 (by omega)
                (cases eo40 )
                have GB40 := Sd.mk gb40
                have GG40 := Sd.mk HG40
                clear gb40 gl40 HG40
                obtain ⟨hx40_0, hf40_0⟩ := Kd.R_celln 0 HO488.1 ((ji30) : Int) p40 q40
                replace p40 := eq_true p40
                replace q40 := eq_true q40
                obtain ⟨hy57_, hz57_⟩ := Kd.R_celln 0 HO488.1 ((ji30) : Int) (of_decide_eq_true (by first | (with_reducible assumption) )) (of_decide_eq_true (by first | (with_reducible assumption) ))
                have HP57 := Kd.R_putg HO488.1 ((ji30) : Int) (rd t479 (ji36))
                go_upto_region 14 with (first | ((with_reducible refine gate_store (t := 3) (p := 94) rfl ?_); refine store_event (t := 3) (p := 94) (v := ?vo_w58) (w1 := (w56.setCell ⟨go40, ((ji30) : Int).toNat, none⟩ (.int .i64 (rd t479 (ji36))))) ?hg ?ho ?hn ?hr ?_; (case ho => rfl); (case hg => rfl); (case hn => rfl); (case hr => first | (go_simp; done) ); intro w58 hw; have hg : w56.grownBy w58 (some go40) := (by rw [hw]; exact HP57.2); have hp_ : Kd.R (Kd.int .i64) 3 w58 w.heap.size (fun k_ => some k_ ≠ (.slice (some ad491) t479.length co50 : Value).ownBlock ∧ some k_ ≠ (.slice (some ⟨go35, 0, none⟩) t483.length co54 : Value).ownBlock) (.slice (some ⟨go40, 0, none⟩) t486.length co40) y492 := (by rw [hw, Ny492.1]; exact HP57.1); clear HP57; replace HO_14 := Sd.mk (Kd.R_after (v := (.slice (some ⟨go40, 0, none⟩) t486.length co40)) (v1 := (.slice (some ⟨go40, 0, none⟩) t486.length co40)) (ok := (fun k_ => some k_ ≠ (.slice (some ⟨go35, 0, none⟩) t483.length co54 : Value).ownBlock)) (by (with_reducible repeat (fail)); exact HO_14.1) hg (.inl rfl)); replace BK465 := Sd.mk (blk_grown (g := gb465) (o := .cells #[.int .i64 a0_0, .int .i64 a0_1, .slice A0_2 l0_2.length c0_2, .slice A0_3 l0_3.length c0_3] 25 (0, 0)) (by (with_reducible repeat (fail)); exact BK465.1) hg (Kd.R_ne HO488.1 BK465.1 (by decide))); replace HO485 := Sd.mk (Kd.R_after (v := (.slice (some ⟨go40, 0, none⟩) t486.length co40)) (v1 := (.slice (some ⟨go40, 0, none⟩) t486.length co40)) (ok := (fun k_ => some k_ ≠ (.slice (some ad491) t479.length co50 : Value).ownBlock)) (by (with_reducible repeat (fail)); exact HO485.1) hg (.inl rfl)); replace HO488 := Sd.mk (hp_); replace HB := Sd.mk ((by rw [hw]; exact bS (HB.1) GB40.1 : Below w.heap.size w w58)); clear hg hw hp_; have p493 : 0 ≤ ((ji30) : Int) := of_decide_eq_true (by first | (with_reducible assumption) ); have q493 : (ji30) < (t479.length : Int) := of_decide_eq_true (by first | (with_reducible assumption) ); obtain ⟨ad493, e493, hx493_0⟩ := Kd.at_int (Kd.R_reads' HO_14.1).2.2 (ji30) p493 q493; obtain rfl : ad491 = ad493 := (by injection e493); replace p493 := eq_true p493; replace q493 := eq_true q493; have p43 : 0 ≤ ((ji36) : Int) := of_decide_eq_true (by first | (with_reducible assumption) ); have q43 : ((ji36) : Int) < ((t486.length : Int) : Int) := of_decide_eq_true (by first | (with_reducible assumption) ); obtain ⟨hx43_0, hf43_0⟩ := Kd.R_celln 0 HO488.1 ((ji36) : Int) p43 q43; replace p43 := eq_true p43; replace q43 := eq_true q43; obtain ⟨hy59_, hz59_⟩ := Kd.R_celln 0 HO488.1 ((ji36) : Int) (of_decide_eq_true (by first | (with_reducible assumption) )) (of_decide_eq_true (by first | (with_reducible assumption) )); have HP59 := Kd.R_putg HO488.1 ((ji36) : Int) (rd t479 (ji30))) | ((with_reducible refine gate_store (t := 3) (p := 101) rfl ?_); refine store_event (t := 3) (p := 101) (v := ?vo_w60) (w1 := (w58.setCell ⟨go40, ((ji36) : Int).toNat, none⟩ (.int .i64 (rd t479 (ji30))))) ?hg ?ho ?hn ?hr ?_; (case ho => rfl); (case hg => rfl); (case hn => rfl); (case hr => first | (go_simp; done) ); intro w60 hw; have hg : w58.grownBy w60 (some go40) := (by rw [hw]; exact HP59.2); have hp_ : Kd.R (Kd.int .i64) 3 w60 w.heap.size (fun k_ => some k_ ≠ (.slice (some ad491) t479.length co50 : Value).ownBlock ∧ some k_ ≠ (.slice (some ⟨go35, 0, none⟩) t483.length co54 : Value).ownBlock) (.slice (some ⟨go40, 0, none⟩) t486.length co40) y494 := (by rw [hw, Ny494.1]; exact HP59.1); clear HP59; replace HO_14 := Sd.mk (Kd.R_after (v := (.slice (some ⟨go40, 0, none⟩) t486.length co40)) (v1 := (.slice (some ⟨go40, 0, none⟩) t486.length co40)) (ok := (fun k_ => some k_ ≠ (.slice (some ⟨go35, 0, none⟩) t483.length co54 : Value).ownBlock)) (by (with_reducible repeat (fail)); exact HO_14.1) hg (.inl rfl)); replace BK465 := Sd.mk (blk_grown (g := gb465) (o := .cells #[.int .i64 a0_0, .int .i64 a0_1, .slice A0_2 l0_2.length c0_2, .slice A0_3 l0_3.length c0_3] 25 (0, 0)) (by (with_reducible repeat (fail)); exact BK465.1) hg (Kd.R_ne HO488.1 BK465.1 (by decide))); replace HO485 := Sd.mk (Kd.R_after (v := (.slice (some ⟨go40, 0, none⟩) t486.length co40)) (v1 := (.slice (some ⟨go40, 0, none⟩) t486.length co40)) (ok := (fun k_ => some k_ ≠ (.slice (some ad491) t479.length co50 : Value).ownBlock)) (by (with_reducible repeat (fail)); exact HO485.1) hg (.inl rfl)); replace HO488 := Sd.mk (hp_); replace HB := Sd.mk ((by rw [hw]; exact bS (HB.1) GB40.1 : Below w.heap.size w w60)); clear hg hw hp_; have z_61_0 : w60.cell? ⟨gb465, 0, none⟩ = some (.int .i64 a0_0) := (kC BK465.1 0).trans rfl; have z_61_1 : w60.cell? ⟨gb465, 1, none⟩ = some (.int .i64 a0_1) := (kC BK465.1 1).trans rfl; have z_61_2 : w60.cell? ⟨gb465, 2, none⟩ = some (.slice A0_2 l0_2.length c0_2) := (kC BK465.1 2).trans rfl; have z_61_3 : w60.cell? ⟨gb465, 3, none⟩ = some (.slice A0_3 l0_3.length c0_3) := (kC BK465.1 3).trans rfl) | ((with_reducible refine gate_callee (f := 19) rfl ?_); refine goesL_ (some 104) rfl rfl Try.func19 (by kernel_rfl) rfl #[.agg #[.int .i64 a0_0, .int .i64 a0_1, .slice A0_2 l0_2.length c0_2, .slice A0_3 l0_3.length c0_3]] rfl (by (try simp only [List.map_toArray, List.map_cons, List.map_nil]); first | rfl ) ?_; (with_reducible refine (glisterlaw04_Book.calls kj12 a0_0 a0_1 _ _ l0_2 _ _ l0_3 t495 t496 t497 t500 _ ?side1 ?side2 ?side3 ?side4 A44.1).mono ?_); (case side1 => repeat (first | exact (Kd.C_below HR0_2.1 HB.1) )); (case side2 => exact HC0_2.1); (case side3 => repeat (first | exact (Kd.C_below HR0_3.1 HB.1) )); (case side4 => exact HC0_3.1); rintro e w62 ⟨v498, v501, rfl, ho0, ho1, hb⟩; refine ⟨_, rfl, ?_⟩; have HO499 := Sd.mk (Kd.R_lower ho0 (bZ (by repeat (first | (with_reducible first | exact HB.1 ) )))); have HO502 := Sd.mk (Kd.R_lower (Kd.R_new' (Kd.R_new' (Kd.R_new' ho1 (Kd.R_lt (by (with_reducible repeat (fail)); exact HO_14.1))) (Kd.R_lt (by (with_reducible repeat (fail)); exact HO485.1))) (Kd.R_lt (by (with_reducible repeat (fail)); exact HO488.1))) (bZ (by repeat (first | (with_reducible first | exact HB.1 ) )))); replace HO_14 := Sd.mk (Kd.R_elder' (by (with_reducible repeat (fail)); exact HO_14.1) (Kd.R_base ho1) hb); replace HO485 := Sd.mk (Kd.R_elder' (by (with_reducible repeat (fail)); exact HO485.1) (Kd.R_base ho1) hb); replace HO488 := Sd.mk (Kd.R_elder' (by (with_reducible repeat (fail)); exact HO488.1) (Kd.R_base ho1) hb); replace BK465 := Sd.mk (kB (g := gb465) (o := .cells #[.int .i64 a0_0, .int .i64 a0_1, .slice A0_2 l0_2.length c0_2, .slice A0_3 l0_3.length c0_3] 25 (0, 0)) (by (with_reducible repeat (fail)); exact BK465.1) hb); replace HB := Sd.mk (bT (by repeat (first | (with_reducible first | exact HB.1 ) )) hb); (try clear hb); (try clear ho0); (try clear ho1); obtain ⟨Ao63, co63, eo63⟩ := Kd.R_slice HO499.1; subst eo63; obtain ⟨Ao64, co64, eo64⟩ := Kd.R_slice HO502.1; subst eo64; (try clear A44)) | ((with_reducible refine gate_callee (f := 27) rfl ?_); refine goesL_ (some 107) rfl rfl Try.func27 (by kernel_rfl) rfl #[.agg #[.int .i64 t495, .int .i64 t496, .slice Ao63 t497.length co63, .slice Ao64 t500.length co64], .int .i64 (Int.tmod (wrap64 (a2)) (l0_3.length : Int)), .slice (some ⟨go35, 0, none⟩) y490.length co54] rfl (by (try simp only [List.map_toArray, List.map_cons, List.map_nil]); first | (rw [show y490.length = t483.length from (Kd.R_reads' HO485.1).1.symm] <;> rfl) ) ?_; (with_reducible refine (cipher_Decode.calls kj12 t495 t496 _ _ t497 _ _ t500 (Int.tmod (wrap64 (a2)) (l0_3.length : Int)) _ _ y490 t503 t506 t509 _ ?side1 ?side2 ?side3 ?side4 ?side5 ?side6 A45.1).mono ?_); (case side1 => repeat (first | exact (Kd.R_reads' HO499.1).2.2 )); (case side2 => exact (Kd.R_reads' HO499.1).2.1); (case side3 => repeat (first | exact (Kd.R_reads' HO502.1).2.2 )); (case side4 => exact (Kd.R_reads' HO502.1).2.1); (case side5 => repeat (first | exact (Kd.R_reads' HO485.1).2.2 )); (case side6 => rw [show y490.length = t483.length from (Kd.R_reads' HO485.1).1.symm]; exact (Kd.R_reads' HO485.1).2.1); rintro e w65 ⟨v504, v507, rfl, ho0, ho1, hb⟩; refine ⟨_, rfl, ?_⟩; replace HO499 := Sd.mk (Kd.R_below (by (with_reducible repeat (fail)); exact HO499.1) hb); have HO505 := Sd.mk (Kd.R_lower (Kd.R_new' (Kd.R_new' (Kd.R_new' (Kd.R_new' ho0 (Kd.R_lt (by (with_reducible repeat (fail)); exact HO_14.1))) (Kd.R_lt (by (with_reducible repeat (fail)); exact HO485.1))) (Kd.R_lt (by (with_reducible repeat (fail)); exact HO488.1))) (Kd.R_lt (by (with_reducible repeat (fail)); exact HO502.1))) (bZ (by repeat (first | (with_reducible first | exact HB.1 ) )))); have HO508 := Sd.mk (Kd.R_lower (Kd.R_new' (Kd.R_new' (Kd.R_new' (Kd.R_new' ho1 (Kd.R_lt (by (with_reducible repeat (fail)); exact HO_14.1))) (Kd.R_lt (by (with_reducible repeat (fail)); exact HO485.1))) (Kd.R_lt (by (with_reducible repeat (fail)); exact HO488.1))) (Kd.R_lt (by (with_reducible repeat (fail)); exact HO502.1))) (bZ (by repeat (first | (with_reducible first | exact HB.1 ) )))); replace HO_14 := Sd.mk (Kd.R_mono (Kd.R_told (Kd.R_told (Kd.R_old (by (with_reducible repeat (fail)); exact HO_14.1) hb) (Kd.R_base ho0)) (Kd.R_base ho1)) (fun _ h_ => h_.1)); replace HO485 := Sd.mk (Kd.R_mono (Kd.R_told (Kd.R_told (Kd.R_old (by (with_reducible repeat (fail)); exact HO485.1) hb) (Kd.R_base ho0)) (Kd.R_base ho1)) (fun _ h_ => h_.1)); replace HO488 := Sd.mk (Kd.R_mono (Kd.R_told (Kd.R_told (Kd.R_old (by (with_reducible repeat (fail)); exact HO488.1) hb) (Kd.R_base ho0)) (Kd.R_base ho1)) (fun _ h_ => h_.1)); replace HO502 := Sd.mk (Kd.R_mono (Kd.R_told (Kd.R_told (Kd.R_old (by (with_reducible repeat (fail)); exact HO502.1) hb) (Kd.R_base ho0)) (Kd.R_base ho1)) (fun _ h_ => h_.1)); replace BK465 := Sd.mk (kB (g := gb465) (o := .cells #[.int .i64 a0_0, .int .i64 a0_1, .slice A0_2 l0_2.length c0_2, .slice A0_3 l0_3.length c0_3] 25 (0, 0)) (by (with_reducible repeat (fail)); exact BK465.1) hb); replace HB := Sd.mk (bT (by repeat (first | (with_reducible first | exact HB.1 ) )) hb); (try clear hb); (try clear ho0); (try clear ho1); have z_66_0 : w65.cell? ⟨gb465, 0, none⟩ = some (.int .i64 a0_0) := (kC BK465.1 0).trans rfl; have z_66_1 : w65.cell? ⟨gb465, 1, none⟩ = some (.int .i64 a0_1) := (kC BK465.1 1).trans rfl; have z_66_2 : w65.cell? ⟨gb465, 2, none⟩ = some (.slice A0_2 l0_2.length c0_2) := (kC BK465.1 2).trans rfl; have z_66_3 : w65.cell? ⟨gb465, 3, none⟩ = some (.slice A0_3 l0_3.length c0_3) := (kC BK465.1 3).trans rfl; (try clear A45)) | ((with_reducible refine gate_callee (f := 19) rfl ?_); refine goesL_ (some 113) rfl rfl Try.func19 (by kernel_rfl) rfl #[.agg #[.int .i64 a0_0, .int .i64 a0_1, .slice A0_2 l0_2.length c0_2, .slice A0_3 l0_3.length c0_3]] rfl (by (try simp only [List.map_toArray, List.map_cons, List.map_nil]); first | rfl ) ?_; (with_reducible refine (glisterlaw04_Book.calls kj12 a0_0 a0_1 _ _ l0_2 _ _ l0_3 t510 t511 t512 t515 _ ?side1 ?side2 ?side3 ?side4 A46.1).mono ?_); (case side1 => repeat (first | exact (Kd.C_below HR0_2.1 HB.1) )); (case side2 => exact HC0_2.1); (case side3 => repeat (first | exact (Kd.C_below HR0_3.1 HB.1) )); (case side4 => exact HC0_3.1); rintro e w67 ⟨v513, v516, rfl, ho0, ho1, hb⟩; refine ⟨_, rfl, ?_⟩; have HO514 := Sd.mk (Kd.R_lower (Kd.R_new' ho0 (Kd.R_lt (by (with_reducible repeat (fail)); exact HO499.1))) (bZ (by repeat (first | (with_reducible first | exact HB.1 ) )))); replace HO499 := Sd.mk (Kd.R_elder' (by (with_reducible repeat (fail)); exact HO499.1) (Kd.R_base ho0) hb); have HO517 := Sd.mk (Kd.R_lower (Kd.R_new' (Kd.R_new' (Kd.R_new' (Kd.R_new' (Kd.R_new' (Kd.R_new' ho1 (Kd.R_lt (by (with_reducible repeat (fail)); exact HO_14.1))) (Kd.R_lt (by (with_reducible repeat (fail)); exact HO485.1))) (Kd.R_lt (by (with_reducible repeat (fail)); exact HO488.1))) (Kd.R_lt (by (with_reducible repeat (fail)); exact HO502.1))) (Kd.R_lt (by (with_reducible repeat (fail)); exact HO505.1))) (Kd.R_lt (by (with_reducible repeat (fail)); exact HO508.1))) (bZ (by repeat (first | (with_reducible first | exact HB.1 ) )))); replace HO_14 := Sd.mk (Kd.R_elder' (by (with_reducible repeat (fail)); exact HO_14.1) (Kd.R_base ho1) hb); replace HO485 := Sd.mk (Kd.R_elder' (by (with_reducible repeat (fail)); exact HO485.1) (Kd.R_base ho1) hb); replace HO488 := Sd.mk (Kd.R_elder' (by (with_reducible repeat (fail)); exact HO488.1) (Kd.R_base ho1) hb); replace HO502 := Sd.mk (Kd.R_elder' (by (with_reducible repeat (fail)); exact HO502.1) (Kd.R_base ho1) hb); replace HO505 := Sd.mk (Kd.R_elder' (by (with_reducible repeat (fail)); exact HO505.1) (Kd.R_base ho1) hb); replace HO508 := Sd.mk (Kd.R_elder' (by (with_reducible repeat (fail)); exact HO508.1) (Kd.R_base ho1) hb); replace BK465 := Sd.mk (kB (g := gb465) (o := .cells #[.int .i64 a0_0, .int .i64 a0_1, .slice A0_2 l0_2.length c0_2, .slice A0_3 l0_3.length c0_3] 25 (0, 0)) (by (with_reducible repeat (fail)); exact BK465.1) hb); replace HB := Sd.mk (bT (by repeat (first | (with_reducible first | exact HB.1 ) )) hb); (try clear hb); (try clear ho0); (try clear ho1); obtain ⟨Ao68, co68, eo68⟩ := Kd.R_slice HO514.1; subst eo68; obtain ⟨Ao69, co69, eo69⟩ := Kd.R_slice HO517.1; subst eo69; (try clear A46)) | ((with_reducible refine gate_callee (f := 27) rfl ?_); refine goesL_ (some 116) rfl rfl Try.func27 (by kernel_rfl) rfl #[.agg #[.int .i64 t510, .int .i64 t511, .slice Ao68 t512.length co68, .slice Ao69 t515.length co69], .int .i64 (Int.tmod (wrap64 (a2)) (l0_3.length : Int)), .slice (some ⟨go40, 0, none⟩) y494.length co40] rfl (by (try simp only [List.map_toArray, List.map_cons, List.map_nil]); first | (rw [show y494.length = t486.length from (Kd.R_reads' HO488.1).1.symm] <;> rfl) ) ?_; (with_reducible refine (cipher_Decode.calls kj12 t510 t511 _ _ t512 _ _ t515 (Int.tmod (wrap64 (a2)) (l0_3.length : Int)) _ _ y494 t518 t521 t524 _ ?side1 ?side2 ?side3 ?side4 ?side5 ?side6 A47.1).mono ?_); (case side1 => repeat (first | exact (Kd.R_reads' HO514.1).2.2 )); (case side2 => exact (Kd.R_reads' HO514.1).2.1); (case side3 => repeat (first | exact (Kd.R_reads' HO517.1).2.2 )); (case side4 => exact (Kd.R_reads' HO517.1).2.1); (case side5 => repeat (first | exact (Kd.R_reads' HO488.1).2.2 )); (case side6 => rw [show y494.length = t486.length from (Kd.R_reads' HO488.1).1.symm]; exact (Kd.R_reads' HO488.1).2.1); rintro e w70 ⟨v519, v522, rfl, ho0, ho1, hb⟩; refine ⟨_, rfl, ?_⟩; replace HO499 := Sd.mk (Kd.R_below (by (with_reducible repeat (fail)); exact HO499.1) hb); replace HO514 := Sd.mk (Kd.R_below (by (with_reducible repeat (fail)); exact HO514.1) hb); have HO520 := Sd.mk (Kd.R_lower (Kd.R_new' (Kd.R_new' (Kd.R_new' (Kd.R_new' (Kd.R_new' (Kd.R_new' (Kd.R_new' ho0 (Kd.R_lt (by (with_reducible repeat (fail)); exact HO_14.1))) (Kd.R_lt (by (with_reducible repeat (fail)); exact HO485.1))) (Kd.R_lt (by (with_reducible repeat (fail)); exact HO488.1))) (Kd.R_lt (by (with_reducible repeat (fail)); exact HO502.1))) (Kd.R_lt (by (with_reducible repeat (fail)); exact HO505.1))) (Kd.R_lt (by (with_reducible repeat (fail)); exact HO508.1))) (Kd.R_lt (by (with_reducible repeat (fail)); exact HO517.1))) (bZ (by repeat (first | (with_reducible first | exact HB.1 ) )))); have HO523 := Sd.mk (Kd.R_lower (Kd.R_new' (Kd.R_new' (Kd.R_new' (Kd.R_new' (Kd.R_new' (Kd.R_new' (Kd.R_new' ho1 (Kd.R_lt (by (with_reducible repeat (fail)); exact HO_14.1))) (Kd.R_lt (by (with_reducible repeat (fail)); exact HO485.1))) (Kd.R_lt (by (with_reducible repeat (fail)); exact HO488.1))) (Kd.R_lt (by (with_reducible repeat (fail)); exact HO502.1))) (Kd.R_lt (by (with_reducible repeat (fail)); exact HO505.1))) (Kd.R_lt (by (with_reducible repeat (fail)); exact HO508.1))) (Kd.R_lt (by (with_reducible repeat (fail)); exact HO517.1))) (bZ (by repeat (first | (with_reducible first | exact HB.1 ) )))); replace HO_14 := Sd.mk (Kd.R_mono (Kd.R_told (Kd.R_told (Kd.R_old (by (with_reducible repeat (fail)); exact HO_14.1) hb) (Kd.R_base ho0)) (Kd.R_base ho1)) (fun _ h_ => h_.1)); replace HO485 := Sd.mk (Kd.R_mono (Kd.R_told (Kd.R_told (Kd.R_old (by (with_reducible repeat (fail)); exact HO485.1) hb) (Kd.R_base ho0)) (Kd.R_base ho1)) (fun _ h_ => h_.1)); replace HO488 := Sd.mk (Kd.R_mono (Kd.R_told (Kd.R_told (Kd.R_old (by (with_reducible repeat (fail)); exact HO488.1) hb) (Kd.R_base ho0)) (Kd.R_base ho1)) (fun _ h_ => h_.1)); replace HO502 := Sd.mk (Kd.R_mono (Kd.R_told (Kd.R_told (Kd.R_old (by (with_reducible repeat (fail)); exact HO502.1) hb) (Kd.R_base ho0)) (Kd.R_base ho1)) (fun _ h_ => h_.1)); replace HO505 := Sd.mk (Kd.R_mono (Kd.R_told (Kd.R_told (Kd.R_old (by (with_reducible repeat (fail)); exact HO505.1) hb) (Kd.R_base ho0)) (Kd.R_base ho1)) (fun _ h_ => h_.1)); replace HO508 := Sd.mk (Kd.R_mono (Kd.R_told (Kd.R_told (Kd.R_old (by (with_reducible repeat (fail)); exact HO508.1) hb) (Kd.R_base ho0)) (Kd.R_base ho1)) (fun _ h_ => h_.1)); replace HO517 := Sd.mk (Kd.R_mono (Kd.R_told (Kd.R_told (Kd.R_old (by (with_reducible repeat (fail)); exact HO517.1) hb) (Kd.R_base ho0)) (Kd.R_base ho1)) (fun _ h_ => h_.1)); replace BK465 := Sd.mk (kB (g := gb465) (o := .cells #[.int .i64 a0_0, .int .i64 a0_1, .slice A0_2 l0_2.length c0_2, .slice A0_3 l0_3.length c0_3] 25 (0, 0)) (by (with_reducible repeat (fail)); exact BK465.1) hb); replace HB := Sd.mk (bT (by repeat (first | (with_reducible first | exact HB.1 ) )) hb); (try clear hb); (try clear ho0); (try clear ho1); (try clear A47)))
                go_cut [129] (fun v129 wc => ∃ (kq : Nat) (x129_47 : Bool), v129 = .bool x129_47 ∧ Sd (glisterlaw04_CipherWrong.j1 kq t479 ji30 ji36 t518 t521 t524 x129_47 = some r) ∧ Sd (kq ≤ kj12) ∧ Sd (Kd.R (Kd.int .i64) 3 wc w.heap.size (fun k_ => some k_ ≠ (v519 : Value).ownBlock ∧ some k_ ≠ (v522 : Value).ownBlock) (.slice (some ad491) t479.length co50) t479) ∧ Sd (Kd.R (Kd.int .i64) 3 wc w.heap.size (fun k_ => some k_ ≠ ((.slice (some ad491) t479.length co50) : Value).ownBlock ∧ some k_ ≠ (v522 : Value).ownBlock) v519 t518) ∧ Sd (Kd.R (Kd.int .i64) 3 wc w.heap.size (fun k_ => some k_ ≠ ((.slice (some ad491) t479.length co50) : Value).ownBlock ∧ some k_ ≠ (v519 : Value).ownBlock) v522 t521) ∧ Sd (wc.heap[gb465]? = some (.cells #[.int .i64 a0_0, .int .i64 a0_1, (.slice A0_2 l0_2.length c0_2), (.slice A0_3 l0_3.length c0_3)] 25 (0, 0))) ∧ Sd (Below w.heap.size w wc))
                case first =>
                 have H := HC48.1
                 clear HC48
                 by_cases c71 : t509 = 0
                 ·rw [if_pos c71] at H
                  have c71b0 : (t509 == 0) = true := beq_iff_eq.mpr c71
                  have c71b1 : (t509 != 0) = false := bne_eq_false_iff_eq.mpr c71
                  clear c71
                  have H' := Sd.mk H
                  clear H
                  go_wp2
                  go_meet
                  case rel => exact ⟨_, (true), (by first | rfl ), H', ⟨by have := HJ12.1; first | omega ⟩, ⟨by (with_reducible repeat (fail)); exact Kd.R_mono HO_14.1 (fun _ hk => ⟨hk.1.2, hk.2⟩)⟩, ⟨by (with_reducible repeat (fail)); exact Kd.R_mono HO520.1 (fun _ hk => ⟨hk.1.1.1.1.1.1.2, hk.1.1.1.1.1.1.1⟩)⟩, ⟨by (with_reducible repeat (fail)); exact Kd.R_mono HO523.1 (fun _ hk => ⟨hk.1.1.1.1.1.1.2, hk.1.1.1.1.1.1.1⟩)⟩, ⟨by (with_reducible repeat (fail)); exact BK465.1⟩, ⟨by repeat (first | (with_reducible first | exact HB.1 ) )⟩⟩
                 ·rw [if_neg c71] at H
                  have c71b0 : (t509 == 0) = false := beq_eq_false_iff_ne.mpr c71
                  have c71b1 : (t509 != 0) = true := bne_iff_ne.mpr c71
                  have H' := Sd.mk H
                  clear H
                  obtain ⟨Ao72, co72, eo72⟩ := Kd.R_slice HO505.1
                  subst eo72
                  obtain ⟨Ao73, co73, eo73⟩ := Kd.R_slice HO508.1
                  subst eo73
                  go_wp2
                  go_meet
                  case rel => exact ⟨_, (decide ((wrap64 ((t503.length : Int) + (t506.length : Int))) > 0)), (by first | rfl ), H', ⟨by have := HJ12.1; first | omega ⟩, ⟨by (with_reducible repeat (fail)); exact Kd.R_mono HO_14.1 (fun _ hk => ⟨hk.1.2, hk.2⟩)⟩, ⟨by (with_reducible repeat (fail)); exact Kd.R_mono HO520.1 (fun _ hk => ⟨hk.1.1.1.1.1.1.2, hk.1.1.1.1.1.1.1⟩)⟩, ⟨by (with_reducible repeat (fail)); exact Kd.R_mono HO523.1 (fun _ hk => ⟨hk.1.1.1.1.1.1.2, hk.1.1.1.1.1.1.1⟩)⟩, ⟨by (with_reducible repeat (fail)); exact BK465.1⟩, ⟨by repeat (first | (with_reducible first | exact HB.1 ) )⟩⟩
                case rest =>
                 clear HC48
                 clear c27 c27b0 c27b1 c27b2
                 clear c31b0
                 clear c32b0 c33 c33b0 c33b1 c34 c34b0 c34b1 p35 q35
                 clear c37b0
                 clear c38b0
                 clear c39b0 p40 q40
                 clear c41b0
                 clear c42b0 p43 q43
                 clear z_61_0 z_61_1 z_61_2 z_61_3 z_66_0 z_66_1 z_66_2 z_66_3
                 clear hx35_0 hx40_0 hx43_0 hx489_0 hx491_0 hx493_0
                 clear p489 p491 p493
                 clear q489 q491 q493
                 obtain ⟨kq, x129_47, rfl, HA, HJ47, HO_14, HO_23, HO_24, BK465, HB⟩ := hcut
                 cases kq with
                 | zero => exact absurd HA.1 (by simp [glisterlaw04_CipherWrong.j1])
                 | succ kj47 =>
                  have H := HA.1
                  clear HA
                  simp only [glisterlaw04_CipherWrong.j1] at H
                  by_cases c74 : x129_47 = true
                  ·subst c74
                   rw [if_pos rfl] at H
                   exact absurd H (by simp)
                  ·replace c74 := Bool.eq_false_iff.mpr c74
                   subst c74
                   rw [if_neg (show ¬ (false = true) by decide)] at H
                   by_cases c75 : 0 ≤ ji30
                   ·rw [if_pos c75] at H
                    have c75b0 : decide (0 ≤ ji30) = true := decide_eq_true c75
                    clear c75
                    by_cases c76 : ji30 < (t479.length : Int)
                    ·rw [if_pos c76] at H
                     have c76b0 : decide (ji30 < (t479.length : Int)) = true := decide_eq_true c76
                     clear c76
                     by_cases c77 : 0 ≤ ji36
                     ·rw [if_pos c77] at H
                      have c77b0 : decide (0 ≤ ji36) = true := decide_eq_true c77
                      clear c77
                      by_cases c78 : ji36 < (t479.length : Int)
                      ·rw [if_pos c78] at H
                       have c78b0 : decide (ji36 < (t479.length : Int)) = true := decide_eq_true c78
                       clear c78
                       by_cases c79 : (rd t479 ji30) = (rd t479 ji36)
                       ·rw [if_pos c79] at H
                        have c79b0 : ((rd t479 ji30) == (rd t479 ji36)) = true := beq_iff_eq.mpr c79
                        have c79b1 : ((rd t479 ji30) != (rd t479 ji36)) = false := bne_eq_false_iff_eq.mpr c79
                        clear c79
                        by_cases c80 : t524 = 0
                        ·rw [if_pos c80] at H
                         have c80b0 : (t524 == 0) = true := beq_iff_eq.mpr c80
                         have c80b1 : (t524 != 0) = false := bne_eq_false_iff_eq.mpr c80
                         clear c80
                         obtain ⟨t527, A810, H⟩ := Option.bind_eq_some_iff.mp H
                         have A81 := Sd.mk A810
                         clear A810
                         obtain rfl := Option.some.inj H
                         try go_wp2
                         have n0_ := Sd.mk (Kd.R_drew HO_14.1)
                         have n1_ := Sd.mk (Kd.R_drew HO_23.1)
                         have n2_ := Sd.mk (Kd.R_drew HO_24.1)
                         have n3_ := Sd.mk (kD BK465.1)
                         have n4_ := Sd.mk (bD HB.1)
                         clear HO_14
                         clear HO_23
                         clear HO_24
                         clear BK465
                         clear HB
                         have HO_14 := n0_
                         have HO_23 := n1_
                         have HO_24 := n2_
                         have BK465 := n3_
                         have HB := n4_
                         clear n0_ n1_ n2_ n3_ n4_
                         have p525 : 0 ≤ (ji30 : Int) := of_decide_eq_true (by first | (with_reducible assumption) )
                         have q525 : ji30 < (t479.length : Int) := of_decide_eq_true (by first | (with_reducible assumption) )
                         obtain ⟨ad525, e525, hx525_0⟩ := Kd.at_int (Kd.R_reads' HO_14.1).2.2 ji30 p525 q525
                         obtain rfl : ad491 = ad525 := (by injection e525)
                         replace p525 := eq_true p525
                         replace q525 := eq_true q525
                         have p526 : 0 ≤ (ji36 : Int) := of_decide_eq_true (by first | (with_reducible assumption) )
                         have q526 : ji36 < (t479.length : Int) := of_decide_eq_true (by first | (with_reducible assumption) )
                         obtain ⟨ad526, e526, hx526_0⟩ := Kd.at_int (Kd.R_reads' HO_14.1).2.2 ji36 p526 q526
                         obtain rfl : ad491 = ad526 := (by injection e526)
                         replace p526 := eq_true p526
                         replace q526 := eq_true q526
                         refine start_ (n := 9) (S := fun w' => w'.cell? (ad491.add (ji30).toNat) = some (.int .i64 (rd t479 ji30)) ∧ w'.cell? (ad491.add (ji36).toNat) = some (.int .i64 (rd t479 ji36))) (ds := []) #[false, false, false, false, false, false, false, false, false] (by kernel_rfl) rfl rfl ⟨hx525_0, hx526_0⟩ (fun hHeld => ?_); refine with_tabW glisterlaw04_CipherWrong.tab16 glisterlaw04_CipherWrong.bits16 (fun HT_ HW_ => ?_)
                         generalize wc.drew = w82 at HO_14 HO_23 HO_24 BK465 HB hx525_0 hx526_0 hHeld ⊢
                         refine pure_ (i := 0) (N := some 130) (v := ?_) (a' := ?_) #[true, false, false, false, false, false, false, false, false] rfl rfl (any_of HT_.1 (by kernel_rfl)) (fun _ _ _ h => h) (Or.inl ⟨by rfl, ?_⟩) ?_ ?_
                         rotate_left
                         ·intro w'
                          go_simp
                          with_reducible rfl
                         rotate_left
                         ·simp only [Act.put, List.setIfInBounds_toArray, List.set_cons_zero, List.set_cons_succ, i64_w, i32_w]
                          rfl
                         refine pure_ (i := 1) (N := some 131) (v := ?_) (a' := ?_) #[true, true, false, false, false, false, false, false, false] rfl rfl (any_of HT_.1 (by kernel_rfl)) (fun _ _ _ h => h) (Or.inl ⟨by rfl, ?_⟩) ?_ ?_
                         rotate_left
                         ·intro w'
                          go_simp
                          with_reducible rfl
                         rotate_left
                         ·simp only [Act.put, List.setIfInBounds_toArray, List.set_cons_zero, List.set_cons_succ, i64_w, i32_w]
                          rfl
                         refine pure_ (i := 2) (N := some 132) (v := ?_) (a' := ?_) #[true, true, true, false, false, false, false, false, false] rfl rfl (any_of HT_.1 (by kernel_rfl)) (fun _ _ _ h => h) (Or.inl ⟨by rfl, ?_⟩) ?_ ?_
                         rotate_left
                         ·intro w'
                          go_simp
                          with_reducible rfl
                         rotate_left
                         ·simp only [Act.put, List.setIfInBounds_toArray, List.set_cons_zero, List.set_cons_succ, i64_w, i32_w]
                          rfl
                         refine pure_ (i := 4) (N := some 134) (v := ?_) (a' := ?_) #[true, true, true, false, true, false, false, false, false] rfl rfl (any_of HT_.1 (by kernel_rfl)) (fun _ _ _ h => h) (Or.inl ⟨by rfl, ?_⟩) ?_ ?_
                         rotate_left
                         ·intro w'
                          go_simp
                          with_reducible rfl
                         rotate_left
                         ·simp only [Act.put, List.setIfInBounds_toArray, List.set_cons_zero, List.set_cons_succ, i64_w, i32_w]
                          rfl
                         refine pure_ (i := 5) (N := some 135) (v := ?_) (a' := ?_) #[true, true, true, false, true, true, false, false, false] rfl rfl (any_of HT_.1 (by kernel_rfl)) (fun _ _ _ h => h) (Or.inl ⟨by rfl, ?_⟩) ?_ ?_
                         rotate_left
                         ·intro w'
                          go_simp
                          with_reducible rfl
                         rotate_left
                         ·simp only [Act.put, List.setIfInBounds_toArray, List.set_cons_zero, List.set_cons_succ, i64_w, i32_w]
                          rfl
                         refine pure_ (i := 6) (N := some 136) (v := ?_) (a' := ?_) #[true, true, true, false, true, true, true, false, false] rfl rfl (any_of HT_.1 (by kernel_rfl)) (fun _ _ _ h => h) (Or.inl ⟨by rfl, ?_⟩) ?_ ?_
                         rotate_left
                         ·intro w'
                          go_simp
                          with_reducible rfl
                         rotate_left
                         ·simp only [Act.put, List.setIfInBounds_toArray, List.set_cons_zero, List.set_cons_succ, i64_w, i32_w]
                          rfl
                         refine take_ (i := 3) (N := some 133) (v := ?_) (a' := ?_) #[true, true, true, true, true, true, true, false, false] rfl rfl (take_ofW HT_.1 HW_.1 (by kernel_rfl)) (fun _ _ _ h => h) (Or.inl ⟨by rfl, ?_⟩) hHeld ?_ ?_
                         rotate_left
                         ·rintro w' ⟨s0, s1⟩
                          go_simp
                          with_reducible rfl
                         rotate_left
                         ·simp only [Act.put, List.setIfInBounds_toArray, List.set_cons_zero, List.set_cons_succ, i64_w, i32_w]
                          rfl
                         refine take_ (i := 7) (N := some 137) (v := ?_) (a' := ?_) #[true, true, true, true, true, true, true, true, false] rfl rfl (take_ofW HT_.1 HW_.1 (by kernel_rfl)) (fun _ _ _ h => h) (Or.inl ⟨by rfl, ?_⟩) hHeld ?_ ?_
                         rotate_left
                         ·rintro w' ⟨s0, s1⟩
                          go_simp
                          with_reducible rfl
                         rotate_left
                         ·simp only [Act.put, List.setIfInBounds_toArray, List.set_cons_zero, List.set_cons_succ, i64_w, i32_w]
                          rfl
                         refine pure_ (i := 8) (N := some 138) (v := ?_) (a' := ?_) #[true, true, true, true, true, true, true, true, true] rfl rfl (any_of HT_.1 (by kernel_rfl)) (fun _ _ _ h => h) (Or.inl ⟨by rfl, ?_⟩) ?_ ?_
                         rotate_left
                         ·intro w'
                          go_simp
                          with_reducible rfl
                         rotate_left
                         ·simp only [Act.put, List.setIfInBounds_toArray, List.set_cons_zero, List.set_cons_succ, i64_w, i32_w]
                          rfl
                         refine done_ (done_of HT_.1 (by kernel_rfl)) ?_
                         try go_wp2_with (first | (go_at_call 17; (with_reducible refine (glisterlaw04_awake.calls  t527 _ A81.1).mono ?_); rintro e w83 ⟨rfl, hb⟩; replace HO_14 := Sd.mk (Kd.R_below (by (with_reducible repeat (fail)); exact HO_14.1) hb); replace HO_23 := Sd.mk (Kd.R_below (by (with_reducible repeat (fail)); exact HO_23.1) hb); replace HO_24 := Sd.mk (Kd.R_below (by (with_reducible repeat (fail)); exact HO_24.1) hb); replace BK465 := Sd.mk (kB (g := gb465) (o := .cells #[.int .i64 a0_0, .int .i64 a0_1, .slice A0_2 l0_2.length c0_2, .slice A0_3 l0_3.length c0_3] 25 (0, 0)) (by (with_reducible repeat (fail)); exact BK465.1) hb); replace HB := Sd.mk (bT (by repeat (first | (with_reducible first | exact HB.1 ) )) hb); (try clear hb)))
                         go_ret
                         exact ⟨by first | rfl , by repeat (first | (with_reducible first | exact HB.1 ) )⟩
                        ·rw [if_neg c80] at H
                         exact absurd H (by simp)
                       ·rw [if_neg c79] at H
                        have c79b0 : ((rd t479 ji30) == (rd t479 ji36)) = false := beq_eq_false_iff_ne.mpr c79
                        have c79b1 : ((rd t479 ji30) != (rd t479 ji36)) = true := bne_iff_ne.mpr c79
                        by_cases c84 : t524 = 0
                        ·rw [if_pos c84] at H
                         exact absurd H (by simp)
                        ·rw [if_neg c84] at H
                         have c84b0 : (t524 == 0) = false := beq_eq_false_iff_ne.mpr c84
                         have c84b1 : (t524 != 0) = true := bne_iff_ne.mpr c84
                         by_cases c85 : (wrap64 ((t518.length : Int) + (t521.length : Int))) = 0
                         ·rw [if_pos c85] at H
                          have c85b0 : ((wrap64 ((t518.length : Int) + (t521.length : Int))) == 0) = true := beq_iff_eq.mpr c85
                          have c85b1 : ((wrap64 ((t518.length : Int) + (t521.length : Int))) != 0) = false := bne_eq_false_iff_eq.mpr c85
                          clear c85
                          obtain ⟨t528, A860, H⟩ := Option.bind_eq_some_iff.mp H
                          have A86 := Sd.mk A860
                          clear A860
                          obtain rfl := Option.some.inj H
                          try go_wp2
                          have n0_ := Sd.mk (Kd.R_drew HO_14.1)
                          have n1_ := Sd.mk (Kd.R_drew HO_23.1)
                          have n2_ := Sd.mk (Kd.R_drew HO_24.1)
                          have n3_ := Sd.mk (kD BK465.1)
                          have n4_ := Sd.mk (bD HB.1)
                          clear HO_14
                          clear HO_23
                          clear HO_24
                          clear BK465
                          clear HB
                          have HO_14 := n0_
                          have HO_23 := n1_
                          have HO_24 := n2_
                          have BK465 := n3_
                          have HB := n4_
                          clear n0_ n1_ n2_ n3_ n4_
                          have p525 : 0 ≤ (ji30 : Int) := of_decide_eq_true (by first | (with_reducible assumption) )
                          have q525 : ji30 < (t479.length : Int) := of_decide_eq_true (by first | (with_reducible assumption) )
                          obtain ⟨ad525, e525, hx525_0⟩ := Kd.at_int (Kd.R_reads' HO_14.1).2.2 ji30 p525 q525
                          obtain rfl : ad491 = ad525 := (by injection e525)
                          replace p525 := eq_true p525
                          replace q525 := eq_true q525
                          have p526 : 0 ≤ (ji36 : Int) := of_decide_eq_true (by first | (with_reducible assumption) )
                          have q526 : ji36 < (t479.length : Int) := of_decide_eq_true (by first | (with_reducible assumption) )
                          obtain ⟨ad526, e526, hx526_0⟩ := Kd.at_int (Kd.R_reads' HO_14.1).2.2 ji36 p526 q526
                          obtain rfl : ad491 = ad526 := (by injection e526)
                          replace p526 := eq_true p526
                          replace q526 := eq_true q526
                          refine start_ (n := 9) (S := fun w' => w'.cell? (ad491.add (ji30).toNat) = some (.int .i64 (rd t479 ji30)) ∧ w'.cell? (ad491.add (ji36).toNat) = some (.int .i64 (rd t479 ji36))) (ds := []) #[false, false, false, false, false, false, false, false, false] (by kernel_rfl) rfl rfl ⟨hx525_0, hx526_0⟩ (fun hHeld => ?_); refine with_tabW glisterlaw04_CipherWrong.tab16 glisterlaw04_CipherWrong.bits16 (fun HT_ HW_ => ?_)
                          generalize wc.drew = w87 at HO_14 HO_23 HO_24 BK465 HB hx525_0 hx526_0 hHeld ⊢
                          refine pure_ (i := 0) (N := some 130) (v := ?_) (a' := ?_) #[true, false, false, false, false, false, false, false, false] rfl rfl (any_of HT_.1 (by kernel_rfl)) (fun _ _ _ h => h) (Or.inl ⟨by rfl, ?_⟩) ?_ ?_
                          rotate_left
                          ·intro w'
                           go_simp
                           with_reducible rfl
                          rotate_left
                          ·simp only [Act.put, List.setIfInBounds_toArray, List.set_cons_zero, List.set_cons_succ, i64_w, i32_w]
                           rfl
                          refine pure_ (i := 1) (N := some 131) (v := ?_) (a' := ?_) #[true, true, false, false, false, false, false, false, false] rfl rfl (any_of HT_.1 (by kernel_rfl)) (fun _ _ _ h => h) (Or.inl ⟨by rfl, ?_⟩) ?_ ?_
                          rotate_left
                          ·intro w'
                           go_simp
                           with_reducible rfl
                          rotate_left
                          ·simp only [Act.put, List.setIfInBounds_toArray, List.set_cons_zero, List.set_cons_succ, i64_w, i32_w]
                           rfl
                          refine pure_ (i := 2) (N := some 132) (v := ?_) (a' := ?_) #[true, true, true, false, false, false, false, false, false] rfl rfl (any_of HT_.1 (by kernel_rfl)) (fun _ _ _ h => h) (Or.inl ⟨by rfl, ?_⟩) ?_ ?_
                          rotate_left
                          ·intro w'
                           go_simp
                           with_reducible rfl
                          rotate_left
                          ·simp only [Act.put, List.setIfInBounds_toArray, List.set_cons_zero, List.set_cons_succ, i64_w, i32_w]
                           rfl
                          refine pure_ (i := 4) (N := some 134) (v := ?_) (a' := ?_) #[true, true, true, false, true, false, false, false, false] rfl rfl (any_of HT_.1 (by kernel_rfl)) (fun _ _ _ h => h) (Or.inl ⟨by rfl, ?_⟩) ?_ ?_
                          rotate_left
                          ·intro w'
                           go_simp
                           with_reducible rfl
                          rotate_left
                          ·simp only [Act.put, List.setIfInBounds_toArray, List.set_cons_zero, List.set_cons_succ, i64_w, i32_w]
                           rfl
                          refine pure_ (i := 5) (N := some 135) (v := ?_) (a' := ?_) #[true, true, true, false, true, true, false, false, false] rfl rfl (any_of HT_.1 (by kernel_rfl)) (fun _ _ _ h => h) (Or.inl ⟨by rfl, ?_⟩) ?_ ?_
                          rotate_left
                          ·intro w'
                           go_simp
                           with_reducible rfl
                          rotate_left
                          ·simp only [Act.put, List.setIfInBounds_toArray, List.set_cons_zero, List.set_cons_succ, i64_w, i32_w]
                           rfl
                          refine pure_ (i := 6) (N := some 136) (v := ?_) (a' := ?_) #[true, true, true, false, true, true, true, false, false] rfl rfl (any_of HT_.1 (by kernel_rfl)) (fun _ _ _ h => h) (Or.inl ⟨by rfl, ?_⟩) ?_ ?_
                          rotate_left
                          ·intro w'
                           go_simp
                           with_reducible rfl
                          rotate_left
                          ·simp only [Act.put, List.setIfInBounds_toArray, List.set_cons_zero, List.set_cons_succ, i64_w, i32_w]
                           rfl
                          refine take_ (i := 3) (N := some 133) (v := ?_) (a' := ?_) #[true, true, true, true, true, true, true, false, false] rfl rfl (take_ofW HT_.1 HW_.1 (by kernel_rfl)) (fun _ _ _ h => h) (Or.inl ⟨by rfl, ?_⟩) hHeld ?_ ?_
                          rotate_left
                          ·rintro w' ⟨s0, s1⟩
                           go_simp
                           with_reducible rfl
                          rotate_left
                          ·simp only [Act.put, List.setIfInBounds_toArray, List.set_cons_zero, List.set_cons_succ, i64_w, i32_w]
                           rfl
                          refine take_ (i := 7) (N := some 137) (v := ?_) (a' := ?_) #[true, true, true, true, true, true, true, true, false] rfl rfl (take_ofW HT_.1 HW_.1 (by kernel_rfl)) (fun _ _ _ h => h) (Or.inl ⟨by rfl, ?_⟩) hHeld ?_ ?_
                          rotate_left
                          ·rintro w' ⟨s0, s1⟩
                           go_simp
                           with_reducible rfl
                          rotate_left
                          ·simp only [Act.put, List.setIfInBounds_toArray, List.set_cons_zero, List.set_cons_succ, i64_w, i32_w]
                           rfl
                          refine pure_ (i := 8) (N := some 138) (v := ?_) (a' := ?_) #[true, true, true, true, true, true, true, true, true] rfl rfl (any_of HT_.1 (by kernel_rfl)) (fun _ _ _ h => h) (Or.inl ⟨by rfl, ?_⟩) ?_ ?_
                          rotate_left
                          ·intro w'
                           go_simp
                           with_reducible rfl
                          rotate_left
                          ·simp only [Act.put, List.setIfInBounds_toArray, List.set_cons_zero, List.set_cons_succ, i64_w, i32_w]
                           rfl
                          refine done_ (done_of HT_.1 (by kernel_rfl)) ?_
                          obtain ⟨Ao88, co88, eo88⟩ := Kd.R_slice HO_23.1
                          subst eo88
                          obtain ⟨Ao89, co89, eo89⟩ := Kd.R_slice HO_24.1
                          subst eo89
                          try go_wp2_with (first | (go_at_call 17; (with_reducible refine (glisterlaw04_awake.calls  t528 _ A86.1).mono ?_); rintro e w90 ⟨rfl, hb⟩; replace HO_14 := Sd.mk (Kd.R_below (by (with_reducible repeat (fail)); exact HO_14.1) hb); replace HO_23 := Sd.mk (Kd.R_below (by (with_reducible repeat (fail)); exact HO_23.1) hb); replace HO_24 := Sd.mk (Kd.R_below (by (with_reducible repeat (fail)); exact HO_24.1) hb); replace BK465 := Sd.mk (kB (g := gb465) (o := .cells #[.int .i64 a0_0, .int .i64 a0_1, .slice A0_2 l0_2.length c0_2, .slice A0_3 l0_3.length c0_3] 25 (0, 0)) (by (with_reducible repeat (fail)); exact BK465.1) hb); replace HB := Sd.mk (bT (by repeat (first | (with_reducible first | exact HB.1 ) )) hb); (try clear hb)))
                          go_ret
                          exact ⟨by first | rfl , by repeat (first | (with_reducible first | exact HB.1 ) )⟩
                         ·rw [if_neg c85] at H
                          exact absurd H (by simp)
                      ·rw [if_neg c78] at H
                       exact absurd H (by simp)
                     ·rw [if_neg c77] at H
                      exact absurd H (by simp)
                    ·rw [if_neg c76] at H
                     exact absurd H (by simp)
                   ·rw [if_neg c75] at H
                    exact absurd H (by simp)
               ·rw [if_neg c42] at H
                exact absurd H (by simp)
              ·rw [if_neg c41] at H
               exact absurd H (by simp)
             ·rw [if_neg c39] at H
              exact absurd H (by simp)
            ·rw [if_neg c38] at H
             exact absurd H (by simp)
           ·rw [if_neg c37] at H
            exact absurd H (by simp)
        ·rw [if_neg c32] at H
         exact absurd H (by simp)
       ·rw [if_neg c31] at H
        exact absurd H (by simp)
 ·replace c8 := Bool.eq_false_iff.mpr c8
  subst c8
  rw [if_neg (show ¬ (false = true) by decide)] at H
  obtain ⟨t467, A910, H⟩ := Option.bind_eq_some_iff.mp H
  have A91 := Sd.mk A910
  clear A910
  obtain rfl := Option.some.inj H
  go_enter Try.func7, Try.ntmps7
  go_wp2_with (first | ((with_reducible refine gD (N := 6) rfl ?_); (try (refine gG (by rfl) ?_; dsimp only)); refine xE ?hg (N := 6) ?hd (cs := #[.int .i64 a0_0, .int .i64 a0_1, .slice A0_2 l0_2.length c0_2, .slice A0_3 l0_3.length c0_3]) (t := 25) ?hr ?_; (case hd => rfl); (case hg => rfl); (case hr => first | (go_simp; done) ); intro gb465 hg w92 hbox hb; have BK465 := Sd.mk (hbox); have GW465 := Sd.mk ((by rw [hg]; exact (bZ (by repeat (first | (with_reducible first | exact HB.1 ) ))) : w.heap.size ≤ gb465)); have GE465 := Sd.mk ((by rw [hg]; exact (bZ (by repeat (first | (with_reducible first | exact HB.1 ) ))) : w.heap.size ≤ gb465)); replace HB := Sd.mk (bT (by repeat (first | (with_reducible first | exact HB.1 ) )) hb); clear hb hbox hg; have z_93_0 : w92.cell? ⟨gb465, 0, none⟩ = some (.int .i64 a0_0) := (kC BK465.1 0).trans rfl; have z_93_1 : w92.cell? ⟨gb465, 1, none⟩ = some (.int .i64 a0_1) := (kC BK465.1 1).trans rfl; have z_93_2 : w92.cell? ⟨gb465, 2, none⟩ = some (.slice A0_2 l0_2.length c0_2) := (kC BK465.1 2).trans rfl; have z_93_3 : w92.cell? ⟨gb465, 3, none⟩ = some (.slice A0_3 l0_3.length c0_3) := (kC BK465.1 3).trans rfl) | ((with_reducible refine gate_callee (f := 33) rfl ?_); refine goesL_ (some 28) rfl rfl Try.func33 (by kernel_rfl) rfl #[.agg #[.int .i64 a0_0, .int .i64 a0_1, .slice A0_2 l0_2.length c0_2, .slice A0_3 l0_3.length c0_3], .slice A1 l1.length c1] rfl (by (try simp only [List.map_toArray, List.map_cons, List.map_nil]); first | rfl ) ?_; (with_reducible refine (glisterlaw04_ready.calls k a0_0 a0_1 _ _ l0_2 _ _ l0_3 _ _ l1 false _ ?side1 ?side2 ?side3 ?side4 ?side5 ?side6 A7.1).mono ?_); (case side1 => repeat (first | exact (Kd.C_below HR0_2.1 HB.1) )); (case side2 => exact HC0_2.1); (case side3 => repeat (first | exact (Kd.C_below HR0_3.1 HB.1) )); (case side4 => exact HC0_3.1); (case side5 => repeat (first | exact (Kd.C_below HR1.1 HB.1) )); (case side6 => exact HC1.1); rintro e w94 ⟨rfl, hb⟩; refine ⟨_, rfl, ?_⟩; replace BK465 := Sd.mk (kB (g := gb465) (o := .cells #[.int .i64 a0_0, .int .i64 a0_1, .slice A0_2 l0_2.length c0_2, .slice A0_3 l0_3.length c0_3] 25 (0, 0)) (by (with_reducible repeat (fail)); exact BK465.1) hb); replace HB := Sd.mk (bT (by repeat (first | (with_reducible first | exact HB.1 ) )) hb); (try clear hb)) | ((with_reducible refine gate_callee (f := 17) rfl ?_); refine goesL_ (some 30) rfl rfl Try.func17 (by kernel_rfl) rfl #[] rfl (by (try simp only [List.map_toArray, List.map_cons, List.map_nil]); first | done ) ?_; (with_reducible refine (glisterlaw04_awake.calls  t467 _ A91.1).mono ?_); rintro e w95 ⟨rfl, hb⟩; refine ⟨_, rfl, ?_⟩; replace BK465 := Sd.mk (kB (g := gb465) (o := .cells #[.int .i64 a0_0, .int .i64 a0_1, .slice A0_2 l0_2.length c0_2, .slice A0_3 l0_3.length c0_3] 25 (0, 0)) (by (with_reducible repeat (fail)); exact BK465.1) hb); replace HB := Sd.mk (bT (by repeat (first | (with_reducible first | exact HB.1 ) )) hb); (try clear hb)))
  go_ret
  exact ⟨by first | rfl , by repeat (first | (with_reducible first | exact HB.1 ) )⟩
end Go.Proofs.Ytnidgkmopocdkaa.P
