import Derived.Test.YtnidgkmopocdkaaA7P0
import Derived.Test.YtnidgkmopocdkaaA7P3
import Derived.Test.YtnidgkmopocdkaaA7P4
import Derived.Test.YtnidgkmopocdkaaA7P13
import Derived.Test.YtnidgkmopocdkaaA7P14
import Derived.Test.YtnidgkmopocdkaaA7P17
import Derived.Test.YtnidgkmopocdkaaA7HAwake
namespace Go.Proofs.Ytnidgkmopocdkaa.P
open Go.RowKit Go.Proofs.YtnidgkmopocdkaaW.PrintWords Go.Proofs.YtnidgkmopocdkaaW.PrintLast Go.Proofs.YtnidgkmopocdkaaW.PrintMore
attribute [local go_sem] max2_int min2_int max_two min_two max_three min_three max_four min_four   -- for this text's walks alone
set_option linter.unusedVariables false
set_option linter.unusedSimpArgs false
def glisterlaw04_CipherNulls.j0 : Nat → List Int → Int → Int → Int → Bool → Int → Int → List (S82) → List Int → Option (Bool)
 | 0, _, _, _, _, _, _, _, _, _ => none
 | k + 1, x1, x2, x3, x4, x39, x530000, x530001, x530002, x530003 => if x39 = true then ((glisterlaw04_awake.f).bind fun t531 => (some t531)) else (if (x530003.length : Int) = 0 then (none) else (if (wrap64 ((x1.length : Int) + 1)) = 0 then (none) else (if 0 ≤ (Int.tmod (wrap64 (x3)) (wrap64 ((x1.length : Int) + 1))) then (if (Int.tmod (wrap64 (x3)) (wrap64 ((x1.length : Int) + 1))) ≤ (x1.length : Int) then ((glisterlaw04_list.f (x1.take ((Int.tmod (wrap64 (x3)) (wrap64 ((x1.length : Int) + 1))) : Int).toNat)).bind fun t533 => (if (wrap64 (x530000 - x530001)) = 0 then (none) else ((some (([wrap64 (x530001 + (Int.tmod (wrap64 (x4)) (wrap64 (x530000 - x530001))))] : List Int) : List Int)).bind fun y536 => (if t533.length + y536.length < 17592186044416 then ((some (t533 ++ y536 : List Int)).bind fun y539 => (if y539.length + (x1.drop ((Int.tmod (wrap64 (x3)) (wrap64 ((x1.length : Int) + 1))) : Int).toNat).length < 17592186044416 then ((some (y539 ++ (x1.drop ((Int.tmod (wrap64 (x3)) (wrap64 ((x1.length : Int) + 1))) : Int).toNat) : List Int)).bind fun y543 => ((glisterlaw04_Book.f k x530000 x530001 x530002 x530003).bind fun bt546 => ((glisterlaw04_list.f x1).bind fun t554 => ((cipher_Code.f k bt546.1 bt546.2.1 bt546.2.2.1 bt546.2.2.2 (Int.tmod (wrap64 (x2)) (x530003.length : Int)) t554).bind fun bt557 => ((glisterlaw04_Book.f k x530000 x530001 x530002 x530003).bind fun bt561 => ((glisterlaw04_list.f y543).bind fun t569 => ((cipher_Code.f k bt561.1 bt561.2.1 bt561.2.2.1 bt561.2.2.2 (Int.tmod (wrap64 (x2)) (x530003.length : Int)) t569).bind fun bt572 => ((glisterlaw04_Book.f k x530000 x530001 x530002 x530003).bind fun bt576 => ((cipher_Decode.f k bt576.1 bt576.2.1 bt576.2.2.1 bt576.2.2.2 (Int.tmod (wrap64 (x2)) (x530003.length : Int)) bt557.1).bind fun bt584 => ((glisterlaw04_Book.f k x530000 x530001 x530002 x530003).bind fun bt591 => ((cipher_Decode.f k bt591.1 bt591.2.1 bt591.2.2.1 bt591.2.2.2 (Int.tmod (wrap64 (x2)) (x530003.length : Int)) bt572.1).bind fun bt599 => (if bt557.2 = 0 then (if bt572.2 = 0 then (if bt584.2.2 = 0 then (if bt599.2.2 = 0 then ((glisterref04_Same.f k bt584.2.1 bt599.2.1).bind fun t606 => (if t606 = true then ((glisterref04_Same.f k bt599.1 y543).bind fun t607 => (if t607 = true then ((glisterlaw04_awake.f).bind fun t608 => (some t608)) else (none))) else (none))) else (none)) else (none)) else (none)) else (none))))))))))))) else (none))) else (none))))) else (none)) else (none))))
def glisterlaw04_CipherNulls.f (k : Nat) (a0_0 : Int) (a0_1 : Int) (l0_2 : List (S82)) (l0_3 : List Int) (l1 : List Int) (a2 : Int) (a3 : Int) (a4 : Int) : Option (Bool) := (glisterlaw04_ready.f k a0_0 a0_1 l0_2 l0_3 l1).bind fun t530 => (if t530 = true then (if (l1.length : Int) > 9 then (glisterlaw04_CipherNulls.j0 k l1 a2 a3 a4 true a0_0 a0_1 l0_2 l0_3) else (glisterlaw04_CipherNulls.j0 k l1 a2 a3 a4 (a0_1 == a0_0) a0_0 a0_1 l0_2 l0_3)) else (glisterlaw04_CipherNulls.j0 k l1 a2 a3 a4 true a0_0 a0_1 l0_2 l0_3))
def glisterlaw04_CipherNulls.T5 : Bool × List (List Nat × List Nat) := (true, [([], []), ([], []), ([0, 1], [0, 1]), ([2], [2]), ([], []), ([4], [4]), ([], []), ([6], [6]), ([], []), ([8], [8]), ([], []), ([10], [10]), ([9, 11], [9, 11]), ([7, 12], [7, 12]), ([5, 13], [5, 13]), ([14], [14]), ([3, 15, 3], [3, 15]), ([16, 16, 0, 1, 2, 3, 4, 5, 6, 7, 8, 9, 10, 11, 12, 13, 14, 15, 16], [16])])
def glisterlaw04_CipherNulls.B5 : List Nat := [0, 0, 3, 7, 0, 16, 0, 64, 0, 256, 0, 1024, 3840, 8128, 16368, 32752, 65535, 131071]
theorem glisterlaw04_CipherNulls.tab5 : rtab .any (opsOf Try.f8 5) = glisterlaw04_CipherNulls.T5 := by kernel_rfl
theorem glisterlaw04_CipherNulls.bits5 : waitsOk glisterlaw04_CipherNulls.T5.2 glisterlaw04_CipherNulls.B5 = true := by kernel_rfl
set_option maxHeartbeats 8000000 in
set_option maxRecDepth 100000 in
theorem glisterlaw04_CipherNulls.calls (k : Nat) (a0_0 : Int) (a0_1 : Int) (A0_2 : Option Addr) (c0_2 : Nat) (l0_2 : List (S82)) (A0_3 : Option Addr) (c0_3 : Nat) (l0_3 : List Int) (A1 : Option Addr) (c1 : Nat) (l1 : List Int) (a2 : Int) (a3 : Int) (a4 : Int) (r : Bool) (w : World) (hr0_2 : Kd.C k82 w A0_2 l0_2.length l0_2) (hc0_2 : l0_2.length ≤ c0_2) (hr0_3 : Kd.C (Kd.int .i64) w A0_3 l0_3.length l0_3) (hc0_3 : l0_3.length ≤ c0_3) (hr1 : Kd.C (Kd.int .i64) w A1 l1.length l1) (hc1 : l1.length ≤ c1) (h : glisterlaw04_CipherNulls.f k a0_0 a0_1 l0_2 l0_3 l1 a2 a3 a4 = some r) :
  Calls Try.prog 8 #[.agg #[.int .i64 a0_0, .int .i64 a0_1, .slice A0_2 l0_2.length c0_2, .slice A0_3 l0_3.length c0_3], .slice A1 l1.length c1, .int .u8 a2, .int .u8 a3, .int .u8 a4] w fun e w' => e = .returned (.bool r) ∧ Below w.heap.size w w' := by
 have hu25 := Try.underlying25
 have HR0_2 := Sd.mk hr0_2
 have HC0_2 := Sd.mk hc0_2
 clear hr0_2 hc0_2
 have HR0_3 := Sd.mk hr0_3
 have HC0_3 := Sd.mk hc0_3
 clear hr0_3 hc0_3
 have HR1 := Sd.mk hr1
 have HC1 := Sd.mk hc1
 clear hr1 hc1
 have HB := Sd.mk (Below.refl w.heap.size w)
 have H : ((glisterlaw04_ready.f k a0_0 a0_1 l0_2 l0_3 l1).bind fun t530 => (if t530 = true then (if (l1.length : Int) > 9 then (glisterlaw04_CipherNulls.j0 k l1 a2 a3 a4 true a0_0 a0_1 l0_2 l0_3) else (glisterlaw04_CipherNulls.j0 k l1 a2 a3 a4 (a0_1 == a0_0) a0_0 a0_1 l0_2 l0_3)) else (glisterlaw04_CipherNulls.j0 k l1 a2 a3 a4 true a0_0 a0_1 l0_2 l0_3))) = some r := h
 clear h
 have HC6 := Sd.mk H
 clear H
 go_enter Try.func8, Try.ntmps8
 go_upto_region 1 with (first | ((with_reducible refine gD (N := 5) rfl ?_); (try (refine gG (by rfl) ?_; dsimp only)); refine xE ?hg (N := 5) ?hd (cs := #[.int .i64 a0_0, .int .i64 a0_1, .slice A0_2 l0_2.length c0_2, .slice A0_3 l0_3.length c0_3]) (t := 25) ?hr ?_; (case hd => rfl); (case hg => rfl); (case hr => first | (go_simp; done) ); intro gb529 hg w7 hbox hb; have BK529 := Sd.mk (hbox); have GW529 := Sd.mk ((by rw [hg]; exact (bZ (by repeat (first | (with_reducible first | exact HB.1 ) ))) : w.heap.size ≤ gb529)); have GE529 := Sd.mk ((by rw [hg]; exact (bZ (by repeat (first | (with_reducible first | exact HB.1 ) ))) : w.heap.size ≤ gb529)); replace HB := Sd.mk (bT (by repeat (first | (with_reducible first | exact HB.1 ) )) hb); clear hb hbox hg))
 go_cut [39] (fun v39 wc => ∃ (kq : Nat) (x39_5 : Bool), v39 = .bool x39_5 ∧ Sd (glisterlaw04_CipherNulls.j0 kq l1 a2 a3 a4 x39_5 a0_0 a0_1 l0_2 l0_3 = some r) ∧ Sd (kq ≤ k) ∧ Sd (wc.heap[gb529]? = some (.cells #[.int .i64 a0_0, .int .i64 a0_1, (.slice A0_2 l0_2.length c0_2), (.slice A0_3 l0_3.length c0_3)] 25 (0, 0))) ∧ Sd (Below w.heap.size w wc))
 case first =>
  have H := HC6.1
  clear HC6
  obtain ⟨t530, A80, H⟩ := Option.bind_eq_some_iff.mp H
  have A8 := Sd.mk A80
  clear A80
  by_cases c9 : t530 = true
  ·subst c9
   rw [if_pos rfl] at H
   by_cases c10 : (l1.length : Int) > 9
   ·rw [if_pos c10] at H
    have c10b0 : decide (9 < (l1.length : Int)) = true := decide_eq_true c10
    have c10b1 : decide (9 < l1.length) = true := decide_eq_true (by omega)
    clear c10
    have H' := Sd.mk H
    clear H
    have z_11_0 : w7.cell? ⟨gb529, 0, none⟩ = some (.int .i64 a0_0) := (kC BK529.1 0).trans rfl
    have z_11_1 : w7.cell? ⟨gb529, 1, none⟩ = some (.int .i64 a0_1) := (kC BK529.1 1).trans rfl
    have z_11_2 : w7.cell? ⟨gb529, 2, none⟩ = some (.slice A0_2 l0_2.length c0_2) := (kC BK529.1 2).trans rfl
    have z_11_3 : w7.cell? ⟨gb529, 3, none⟩ = some (.slice A0_3 l0_3.length c0_3) := (kC BK529.1 3).trans rfl
    go_wp2_with (first | ((with_reducible refine gate_callee (f := 33) rfl ?_); refine goesL_ (some 26) rfl rfl Try.func33 (by kernel_rfl) rfl #[.agg #[.int .i64 a0_0, .int .i64 a0_1, .slice A0_2 l0_2.length c0_2, .slice A0_3 l0_3.length c0_3], .slice A1 l1.length c1] rfl (by (try simp only [List.map_toArray, List.map_cons, List.map_nil]); first | rfl ) ?_; (with_reducible refine (glisterlaw04_ready.calls k a0_0 a0_1 _ _ l0_2 _ _ l0_3 _ _ l1 true _ ?side1 ?side2 ?side3 ?side4 ?side5 ?side6 A8.1).mono ?_); (case side1 => repeat (first | exact (Kd.C_below HR0_2.1 HB.1) )); (case side2 => exact HC0_2.1); (case side3 => repeat (first | exact (Kd.C_below HR0_3.1 HB.1) )); (case side4 => exact HC0_3.1); (case side5 => repeat (first | exact (Kd.C_below HR1.1 HB.1) )); (case side6 => exact HC1.1); rintro e w12 ⟨rfl, hb⟩; refine ⟨_, rfl, ?_⟩; replace BK529 := Sd.mk (kB (g := gb529) (o := .cells #[.int .i64 a0_0, .int .i64 a0_1, .slice A0_2 l0_2.length c0_2, .slice A0_3 l0_3.length c0_3] 25 (0, 0)) (by (with_reducible repeat (fail)); exact BK529.1) hb); replace HB := Sd.mk (bT (by repeat (first | (with_reducible first | exact HB.1 ) )) hb); (try clear hb)))
    go_meet
    case rel => exact ⟨_, (true), (by first | rfl ), H', ⟨by first | omega ⟩, ⟨by (with_reducible repeat (fail)); exact BK529.1⟩, ⟨by repeat (first | (with_reducible first | exact HB.1 ) )⟩⟩
   ·rw [if_neg c10] at H
    have c10b0 : decide (9 < (l1.length : Int)) = false := decide_eq_false c10
    have c10b1 : decide (9 < l1.length) = false := decide_eq_false (by omega)
    clear c10
    have H' := Sd.mk H
    clear H
    have z_13_0 : w7.cell? ⟨gb529, 0, none⟩ = some (.int .i64 a0_0) := (kC BK529.1 0).trans rfl
    have z_13_1 : w7.cell? ⟨gb529, 1, none⟩ = some (.int .i64 a0_1) := (kC BK529.1 1).trans rfl
    have z_13_2 : w7.cell? ⟨gb529, 2, none⟩ = some (.slice A0_2 l0_2.length c0_2) := (kC BK529.1 2).trans rfl
    have z_13_3 : w7.cell? ⟨gb529, 3, none⟩ = some (.slice A0_3 l0_3.length c0_3) := (kC BK529.1 3).trans rfl
    go_wp2_with (first | ((with_reducible refine gate_callee (f := 33) rfl ?_); refine goesL_ (some 26) rfl rfl Try.func33 (by kernel_rfl) rfl #[.agg #[.int .i64 a0_0, .int .i64 a0_1, .slice A0_2 l0_2.length c0_2, .slice A0_3 l0_3.length c0_3], .slice A1 l1.length c1] rfl (by (try simp only [List.map_toArray, List.map_cons, List.map_nil]); first | rfl ) ?_; (with_reducible refine (glisterlaw04_ready.calls k a0_0 a0_1 _ _ l0_2 _ _ l0_3 _ _ l1 true _ ?side1 ?side2 ?side3 ?side4 ?side5 ?side6 A8.1).mono ?_); (case side1 => repeat (first | exact (Kd.C_below HR0_2.1 HB.1) )); (case side2 => exact HC0_2.1); (case side3 => repeat (first | exact (Kd.C_below HR0_3.1 HB.1) )); (case side4 => exact HC0_3.1); (case side5 => repeat (first | exact (Kd.C_below HR1.1 HB.1) )); (case side6 => exact HC1.1); rintro e w14 ⟨rfl, hb⟩; refine ⟨_, rfl, ?_⟩; replace BK529 := Sd.mk (kB (g := gb529) (o := .cells #[.int .i64 a0_0, .int .i64 a0_1, .slice A0_2 l0_2.length c0_2, .slice A0_3 l0_3.length c0_3] 25 (0, 0)) (by (with_reducible repeat (fail)); exact BK529.1) hb); replace HB := Sd.mk (bT (by repeat (first | (with_reducible first | exact HB.1 ) )) hb); (try clear hb); have z_15_0 : w14.cell? ⟨gb529, 0, none⟩ = some (.int .i64 a0_0) := (kC BK529.1 0).trans rfl; have z_15_1 : w14.cell? ⟨gb529, 1, none⟩ = some (.int .i64 a0_1) := (kC BK529.1 1).trans rfl))
    go_meet
    case rel => exact ⟨_, ((a0_1 == a0_0)), (by first | rfl ), H', ⟨by first | omega ⟩, ⟨by (with_reducible repeat (fail)); exact BK529.1⟩, ⟨by repeat (first | (with_reducible first | exact HB.1 ) )⟩⟩
  ·replace c9 := Bool.eq_false_iff.mpr c9
   subst c9
   rw [if_neg (show ¬ (false = true) by decide)] at H
   have H' := Sd.mk H
   clear H
   have z_16_0 : w7.cell? ⟨gb529, 0, none⟩ = some (.int .i64 a0_0) := (kC BK529.1 0).trans rfl
   have z_16_1 : w7.cell? ⟨gb529, 1, none⟩ = some (.int .i64 a0_1) := (kC BK529.1 1).trans rfl
   have z_16_2 : w7.cell? ⟨gb529, 2, none⟩ = some (.slice A0_2 l0_2.length c0_2) := (kC BK529.1 2).trans rfl
   have z_16_3 : w7.cell? ⟨gb529, 3, none⟩ = some (.slice A0_3 l0_3.length c0_3) := (kC BK529.1 3).trans rfl
   go_wp2_with (first | ((with_reducible refine gate_callee (f := 33) rfl ?_); refine goesL_ (some 26) rfl rfl Try.func33 (by kernel_rfl) rfl #[.agg #[.int .i64 a0_0, .int .i64 a0_1, .slice A0_2 l0_2.length c0_2, .slice A0_3 l0_3.length c0_3], .slice A1 l1.length c1] rfl (by (try simp only [List.map_toArray, List.map_cons, List.map_nil]); first | rfl ) ?_; (with_reducible refine (glisterlaw04_ready.calls k a0_0 a0_1 _ _ l0_2 _ _ l0_3 _ _ l1 false _ ?side1 ?side2 ?side3 ?side4 ?side5 ?side6 A8.1).mono ?_); (case side1 => repeat (first | exact (Kd.C_below HR0_2.1 HB.1) )); (case side2 => exact HC0_2.1); (case side3 => repeat (first | exact (Kd.C_below HR0_3.1 HB.1) )); (case side4 => exact HC0_3.1); (case side5 => repeat (first | exact (Kd.C_below HR1.1 HB.1) )); (case side6 => exact HC1.1); rintro e w17 ⟨rfl, hb⟩; refine ⟨_, rfl, ?_⟩; replace BK529 := Sd.mk (kB (g := gb529) (o := .cells #[.int .i64 a0_0, .int .i64 a0_1, .slice A0_2 l0_2.length c0_2, .slice A0_3 l0_3.length c0_3] 25 (0, 0)) (by (with_reducible repeat (fail)); exact BK529.1) hb); replace HB := Sd.mk (bT (by repeat (first | (with_reducible first | exact HB.1 ) )) hb); (try clear hb)))
   go_meet
   case rel => exact ⟨_, (true), (by first | rfl ), H', ⟨by first | omega ⟩, ⟨by (with_reducible repeat (fail)); exact BK529.1⟩, ⟨by repeat (first | (with_reducible first | exact HB.1 ) )⟩⟩
 case rest =>
  clear HC6
  obtain ⟨kq, x39_5, rfl, HA, HJ5, BK529, HB⟩ := hcut
  cases kq with
  | zero => exact absurd HA.1 (by simp [glisterlaw04_CipherNulls.j0])
  | succ kj5 =>
   have H := HA.1
   clear HA
   simp only [glisterlaw04_CipherNulls.j0] at H
   by_cases c18 : x39_5 = true
   ·subst c18
    rw [if_pos rfl] at H
    obtain ⟨t531, A190, H⟩ := Option.bind_eq_some_iff.mp H
    have A19 := Sd.mk A190
    clear A190
    obtain rfl := Option.some.inj H
    go_wp2_with (first | ((with_reducible refine gate_callee (f := 17) rfl ?_); refine goesL_ (some 40) rfl rfl Try.func17 (by kernel_rfl) rfl #[] rfl (by (try simp only [List.map_toArray, List.map_cons, List.map_nil]); first | done ) ?_; (with_reducible refine (glisterlaw04_awake.calls  t531 _ A19.1).mono ?_); rintro e w20 ⟨rfl, hb⟩; refine ⟨_, rfl, ?_⟩; replace BK529 := Sd.mk (kB (g := gb529) (o := .cells #[.int .i64 a0_0, .int .i64 a0_1, .slice A0_2 l0_2.length c0_2, .slice A0_3 l0_3.length c0_3] 25 (0, 0)) (by (with_reducible repeat (fail)); exact BK529.1) hb); replace HB := Sd.mk (bT (by repeat (first | (with_reducible first | exact HB.1 ) )) hb); (try clear hb)))
    go_ret
    exact ⟨by first | rfl , by repeat (first | (with_reducible first | exact HB.1 ) )⟩
   ·replace c18 := Bool.eq_false_iff.mpr c18
    subst c18
    rw [if_neg (show ¬ (false = true) by decide)] at H
    by_cases c21 : (l0_3.length : Int) = 0
    ·rw [if_pos c21] at H
     exact absurd H (by simp)
    ·rw [if_neg c21] at H
     have c21b0 : ((l0_3.length : Int) == 0) = false := beq_eq_false_iff_ne.mpr c21
     have c21b1 : ((l0_3.length : Int) != 0) = true := bne_iff_ne.mpr c21
     have c21b2 : ¬ (l0_3 = []) := fun h_ => c21 (by rw [h_]; rfl)
     by_cases c22 : (wrap64 ((l1.length : Int) + 1)) = 0
     ·rw [if_pos c22] at H
      exact absurd H (by simp)
     ·rw [if_neg c22] at H
      have c22b0 : ((wrap64 ((l1.length : Int) + 1)) == 0) = false := beq_eq_false_iff_ne.mpr c22
      have c22b1 : ((wrap64 ((l1.length : Int) + 1)) != 0) = true := bne_iff_ne.mpr c22
      obtain ⟨ji23, hji23⟩ : ∃ j_ : Int, (Int.tmod (wrap64 (a3)) (wrap64 ((l1.length : Int) + 1))) = j_ := ⟨_, rfl⟩
      replace H : (if 0 ≤ (ji23) then (if (ji23) ≤ (l1.length : Int) then ((glisterlaw04_list.f (l1.take ((ji23) : Int).toNat)).bind fun t533 => (if (wrap64 (a0_0 - a0_1)) = 0 then (none) else ((some (([wrap64 (a0_1 + (Int.tmod (wrap64 (a4)) (wrap64 (a0_0 - a0_1))))] : List Int) : List Int)).bind fun y536 => (if t533.length + y536.length < 17592186044416 then ((some (t533 ++ y536 : List Int)).bind fun y539 => (if y539.length + (l1.drop ((ji23) : Int).toNat).length < 17592186044416 then ((some (y539 ++ (l1.drop ((ji23) : Int).toNat) : List Int)).bind fun y543 => ((glisterlaw04_Book.f kj5 a0_0 a0_1 l0_2 l0_3).bind fun bt546 => ((glisterlaw04_list.f l1).bind fun t554 => ((cipher_Code.f kj5 bt546.1 bt546.2.1 bt546.2.2.1 bt546.2.2.2 (Int.tmod (wrap64 (a2)) (l0_3.length : Int)) t554).bind fun bt557 => ((glisterlaw04_Book.f kj5 a0_0 a0_1 l0_2 l0_3).bind fun bt561 => ((glisterlaw04_list.f y543).bind fun t569 => ((cipher_Code.f kj5 bt561.1 bt561.2.1 bt561.2.2.1 bt561.2.2.2 (Int.tmod (wrap64 (a2)) (l0_3.length : Int)) t569).bind fun bt572 => ((glisterlaw04_Book.f kj5 a0_0 a0_1 l0_2 l0_3).bind fun bt576 => ((cipher_Decode.f kj5 bt576.1 bt576.2.1 bt576.2.2.1 bt576.2.2.2 (Int.tmod (wrap64 (a2)) (l0_3.length : Int)) bt557.1).bind fun bt584 => ((glisterlaw04_Book.f kj5 a0_0 a0_1 l0_2 l0_3).bind fun bt591 => ((cipher_Decode.f kj5 bt591.1 bt591.2.1 bt591.2.2.1 bt591.2.2.2 (Int.tmod (wrap64 (a2)) (l0_3.length : Int)) bt572.1).bind fun bt599 => (if bt557.2 = 0 then (if bt572.2 = 0 then (if bt584.2.2 = 0 then (if bt599.2.2 = 0 then ((glisterref04_Same.f kj5 bt584.2.1 bt599.2.1).bind fun t606 => (if t606 = true then ((glisterref04_Same.f kj5 bt599.1 y543).bind fun t607 => (if t607 = true then ((glisterlaw04_awake.f).bind fun t608 => (some t608)) else (none))) else (none))) else (none)) else (none)) else (none)) else (none))))))))))))) else (none))) else (none))))) else (none)) else (none)) = some r := by first | (rw [hji23] at H; exact H) 
      by_cases c24 : 0 ≤ (ji23)
      ·rw [if_pos c24] at H
       have c24b0 := eq_true c24
       have c24b1 : decide (0 ≤ (ji23)) = true := decide_eq_true c24
       clear c24
       by_cases c25 : (ji23) ≤ (l1.length : Int)
       ·rw [if_pos c25] at H
        have c25b0 := eq_true c25
        have c25b1 : decide ((ji23) ≤ (l1.length : Int)) = true := decide_eq_true c25
        clear c25
        obtain ⟨t533, A260, H⟩ := Option.bind_eq_some_iff.mp H
        have A26 := Sd.mk A260
        clear A260
        by_cases c27 : (wrap64 (a0_0 - a0_1)) = 0
        ·rw [if_pos c27] at H
         exact absurd H (by simp)
        ·rw [if_neg c27] at H
         have c27b0 : ((wrap64 (a0_0 - a0_1)) == 0) = false := beq_eq_false_iff_ne.mpr c27
         have c27b1 : ((wrap64 (a0_0 - a0_1)) != 0) = true := bne_iff_ne.mpr c27
         obtain ⟨y536, hy536⟩ : ∃ y_ : List Int, y_ = (([wrap64 (a0_1 + (Int.tmod (wrap64 (a4)) (wrap64 (a0_0 - a0_1))))] : List Int)) := ⟨_, rfl⟩
         replace H : (if t533.length + y536.length < 17592186044416 then ((some (t533 ++ y536 : List Int)).bind fun y539 => (if y539.length + (l1.drop ((ji23) : Int).toNat).length < 17592186044416 then ((some (y539 ++ (l1.drop ((ji23) : Int).toNat) : List Int)).bind fun y543 => ((glisterlaw04_Book.f kj5 a0_0 a0_1 l0_2 l0_3).bind fun bt546 => ((glisterlaw04_list.f l1).bind fun t554 => ((cipher_Code.f kj5 bt546.1 bt546.2.1 bt546.2.2.1 bt546.2.2.2 (Int.tmod (wrap64 (a2)) (l0_3.length : Int)) t554).bind fun bt557 => ((glisterlaw04_Book.f kj5 a0_0 a0_1 l0_2 l0_3).bind fun bt561 => ((glisterlaw04_list.f y543).bind fun t569 => ((cipher_Code.f kj5 bt561.1 bt561.2.1 bt561.2.2.1 bt561.2.2.2 (Int.tmod (wrap64 (a2)) (l0_3.length : Int)) t569).bind fun bt572 => ((glisterlaw04_Book.f kj5 a0_0 a0_1 l0_2 l0_3).bind fun bt576 => ((cipher_Decode.f kj5 bt576.1 bt576.2.1 bt576.2.2.1 bt576.2.2.2 (Int.tmod (wrap64 (a2)) (l0_3.length : Int)) bt557.1).bind fun bt584 => ((glisterlaw04_Book.f kj5 a0_0 a0_1 l0_2 l0_3).bind fun bt591 => ((cipher_Decode.f kj5 bt591.1 bt591.2.1 bt591.2.2.1 bt591.2.2.2 (Int.tmod (wrap64 (a2)) (l0_3.length : Int)) bt572.1).bind fun bt599 => (if bt557.2 = 0 then (if bt572.2 = 0 then (if bt584.2.2 = 0 then (if bt599.2.2 = 0 then ((glisterref04_Same.f kj5 bt584.2.1 bt599.2.1).bind fun t606 => (if t606 = true then ((glisterref04_Same.f kj5 bt599.1 y543).bind fun t607 => (if t607 = true then ((glisterlaw04_awake.f).bind fun t608 => (some t608)) else (none))) else (none))) else (none)) else (none)) else (none)) else (none))))))))))))) else (none))) else (none)) = some r := by first | (have H2_ := (Option.bind_some _ _).symm.trans H; rw [hy536]; with_reducible exact H2_) 
         have Ny536 := Sd.mk hy536
         clear hy536
         by_cases c28 : t533.length + y536.length < 17592186044416
         ·rw [if_pos c28] at H
          have LMc28 := Sd.mk c28
          clear c28
          obtain ⟨y539, hy539⟩ : ∃ y_ : List Int, y_ = (t533 ++ y536) := ⟨_, rfl⟩
          replace H : (if y539.length + (l1.drop ((ji23) : Int).toNat).length < 17592186044416 then ((some (y539 ++ (l1.drop ((ji23) : Int).toNat) : List Int)).bind fun y543 => ((glisterlaw04_Book.f kj5 a0_0 a0_1 l0_2 l0_3).bind fun bt546 => ((glisterlaw04_list.f l1).bind fun t554 => ((cipher_Code.f kj5 bt546.1 bt546.2.1 bt546.2.2.1 bt546.2.2.2 (Int.tmod (wrap64 (a2)) (l0_3.length : Int)) t554).bind fun bt557 => ((glisterlaw04_Book.f kj5 a0_0 a0_1 l0_2 l0_3).bind fun bt561 => ((glisterlaw04_list.f y543).bind fun t569 => ((cipher_Code.f kj5 bt561.1 bt561.2.1 bt561.2.2.1 bt561.2.2.2 (Int.tmod (wrap64 (a2)) (l0_3.length : Int)) t569).bind fun bt572 => ((glisterlaw04_Book.f kj5 a0_0 a0_1 l0_2 l0_3).bind fun bt576 => ((cipher_Decode.f kj5 bt576.1 bt576.2.1 bt576.2.2.1 bt576.2.2.2 (Int.tmod (wrap64 (a2)) (l0_3.length : Int)) bt557.1).bind fun bt584 => ((glisterlaw04_Book.f kj5 a0_0 a0_1 l0_2 l0_3).bind fun bt591 => ((cipher_Decode.f kj5 bt591.1 bt591.2.1 bt591.2.2.1 bt591.2.2.2 (Int.tmod (wrap64 (a2)) (l0_3.length : Int)) bt572.1).bind fun bt599 => (if bt557.2 = 0 then (if bt572.2 = 0 then (if bt584.2.2 = 0 then (if bt599.2.2 = 0 then ((glisterref04_Same.f kj5 bt584.2.1 bt599.2.1).bind fun t606 => (if t606 = true then ((glisterref04_Same.f kj5 bt599.1 y543).bind fun t607 => (if t607 = true then ((glisterlaw04_awake.f).bind fun t608 => (some t608)) else (none))) else (none))) else (none)) else (none)) else (none)) else (none))))))))))))) else (none)) = some r := by first | (have H2_ := (Option.bind_some _ _).symm.trans H; rw [hy539]; with_reducible exact H2_) 
          have Ny539 := Sd.mk hy539
          clear hy539
          have c29b0 := eq_true (of_decide_eq_true (by first | (with_reducible assumption) ) : 0 ≤ (ji23))
          have c30b0 := eq_true (of_decide_eq_true (by first | (with_reducible assumption) ) : (ji23) ≤ (l1.length : Int))
          by_cases c31 : y539.length + (l1.drop ((ji23) : Int).toNat).length < 17592186044416
          ·rw [if_pos c31] at H
           have LMc31 := Sd.mk c31
           clear c31
           obtain ⟨y543, hy543⟩ : ∃ y_ : List Int, y_ = (y539 ++ (l1.drop ((ji23) : Int).toNat)) := ⟨_, rfl⟩
           replace H : ((glisterlaw04_Book.f kj5 a0_0 a0_1 l0_2 l0_3).bind fun bt546 => ((glisterlaw04_list.f l1).bind fun t554 => ((cipher_Code.f kj5 bt546.1 bt546.2.1 bt546.2.2.1 bt546.2.2.2 (Int.tmod (wrap64 (a2)) (l0_3.length : Int)) t554).bind fun bt557 => ((glisterlaw04_Book.f kj5 a0_0 a0_1 l0_2 l0_3).bind fun bt561 => ((glisterlaw04_list.f y543).bind fun t569 => ((cipher_Code.f kj5 bt561.1 bt561.2.1 bt561.2.2.1 bt561.2.2.2 (Int.tmod (wrap64 (a2)) (l0_3.length : Int)) t569).bind fun bt572 => ((glisterlaw04_Book.f kj5 a0_0 a0_1 l0_2 l0_3).bind fun bt576 => ((cipher_Decode.f kj5 bt576.1 bt576.2.1 bt576.2.2.1 bt576.2.2.2 (Int.tmod (wrap64 (a2)) (l0_3.length : Int)) bt557.1).bind fun bt584 => ((glisterlaw04_Book.f kj5 a0_0 a0_1 l0_2 l0_3).bind fun bt591 => ((cipher_Decode.f kj5 bt591.1 bt591.2.1 bt591.2.2.1 bt591.2.2.2 (Int.tmod (wrap64 (a2)) (l0_3.length : Int)) bt572.1).bind fun bt599 => (if bt557.2 = 0 then (if bt572.2 = 0 then (if bt584.2.2 = 0 then (if bt599.2.2 = 0 then ((glisterref04_Same.f kj5 bt584.2.1 bt599.2.1).bind fun t606 => (if t606 = true then ((glisterref04_Same.f kj5 bt599.1 y543).bind fun t607 => (if t607 = true then ((glisterlaw04_awake.f).bind fun t608 => (some t608)) else (none))) else (none))) else (none)) else (none)) else (none)) else (none)))))))))))) = some r := by first | (have H2_ := (Option.bind_some _ _).symm.trans H; rw [hy543]; with_reducible exact H2_) 
           have Ny543 := Sd.mk hy543
           clear hy543
           replace H := Option.bind_eq_some_iff.mp H
           obtain ⟨⟨t546, t547, t548, t551⟩, A320, H⟩ := H
           replace H : ((glisterlaw04_list.f l1).bind fun t554 => ((cipher_Code.f kj5 t546 t547 t548 t551 (Int.tmod (wrap64 (a2)) (l0_3.length : Int)) t554).bind fun bt557 => ((glisterlaw04_Book.f kj5 a0_0 a0_1 l0_2 l0_3).bind fun bt561 => ((glisterlaw04_list.f y543).bind fun t569 => ((cipher_Code.f kj5 bt561.1 bt561.2.1 bt561.2.2.1 bt561.2.2.2 (Int.tmod (wrap64 (a2)) (l0_3.length : Int)) t569).bind fun bt572 => ((glisterlaw04_Book.f kj5 a0_0 a0_1 l0_2 l0_3).bind fun bt576 => ((cipher_Decode.f kj5 bt576.1 bt576.2.1 bt576.2.2.1 bt576.2.2.2 (Int.tmod (wrap64 (a2)) (l0_3.length : Int)) bt557.1).bind fun bt584 => ((glisterlaw04_Book.f kj5 a0_0 a0_1 l0_2 l0_3).bind fun bt591 => ((cipher_Decode.f kj5 bt591.1 bt591.2.1 bt591.2.2.1 bt591.2.2.2 (Int.tmod (wrap64 (a2)) (l0_3.length : Int)) bt572.1).bind fun bt599 => (if bt557.2 = 0 then (if bt572.2 = 0 then (if bt584.2.2 = 0 then (if bt599.2.2 = 0 then ((glisterref04_Same.f kj5 bt584.2.1 bt599.2.1).bind fun t606 => (if t606 = true then ((glisterref04_Same.f kj5 bt599.1 y543).bind fun t607 => (if t607 = true then ((glisterlaw04_awake.f).bind fun t608 => (some t608)) else (none))) else (none))) else (none)) else (none)) else (none)) else (none))))))))))) = some r := H
           have A32 := Sd.mk A320
           clear A320
           obtain ⟨t554, A330, H⟩ := Option.bind_eq_some_iff.mp H
           have A33 := Sd.mk A330
           clear A330
           replace H := Option.bind_eq_some_iff.mp H
           obtain ⟨⟨t557, t560⟩, A340, H⟩ := H
           replace H : ((glisterlaw04_Book.f kj5 a0_0 a0_1 l0_2 l0_3).bind fun bt561 => ((glisterlaw04_list.f y543).bind fun t569 => ((cipher_Code.f kj5 bt561.1 bt561.2.1 bt561.2.2.1 bt561.2.2.2 (Int.tmod (wrap64 (a2)) (l0_3.length : Int)) t569).bind fun bt572 => ((glisterlaw04_Book.f kj5 a0_0 a0_1 l0_2 l0_3).bind fun bt576 => ((cipher_Decode.f kj5 bt576.1 bt576.2.1 bt576.2.2.1 bt576.2.2.2 (Int.tmod (wrap64 (a2)) (l0_3.length : Int)) t557).bind fun bt584 => ((glisterlaw04_Book.f kj5 a0_0 a0_1 l0_2 l0_3).bind fun bt591 => ((cipher_Decode.f kj5 bt591.1 bt591.2.1 bt591.2.2.1 bt591.2.2.2 (Int.tmod (wrap64 (a2)) (l0_3.length : Int)) bt572.1).bind fun bt599 => (if t560 = 0 then (if bt572.2 = 0 then (if bt584.2.2 = 0 then (if bt599.2.2 = 0 then ((glisterref04_Same.f kj5 bt584.2.1 bt599.2.1).bind fun t606 => (if t606 = true then ((glisterref04_Same.f kj5 bt599.1 y543).bind fun t607 => (if t607 = true then ((glisterlaw04_awake.f).bind fun t608 => (some t608)) else (none))) else (none))) else (none)) else (none)) else (none)) else (none))))))))) = some r := H
           have A34 := Sd.mk A340
           clear A340
           replace H := Option.bind_eq_some_iff.mp H
           obtain ⟨⟨t561, t562, t563, t566⟩, A350, H⟩ := H
           replace H : ((glisterlaw04_list.f y543).bind fun t569 => ((cipher_Code.f kj5 t561 t562 t563 t566 (Int.tmod (wrap64 (a2)) (l0_3.length : Int)) t569).bind fun bt572 => ((glisterlaw04_Book.f kj5 a0_0 a0_1 l0_2 l0_3).bind fun bt576 => ((cipher_Decode.f kj5 bt576.1 bt576.2.1 bt576.2.2.1 bt576.2.2.2 (Int.tmod (wrap64 (a2)) (l0_3.length : Int)) t557).bind fun bt584 => ((glisterlaw04_Book.f kj5 a0_0 a0_1 l0_2 l0_3).bind fun bt591 => ((cipher_Decode.f kj5 bt591.1 bt591.2.1 bt591.2.2.1 bt591.2.2.2 (Int.tmod (wrap64 (a2)) (l0_3.length : Int)) bt572.1).bind fun bt599 => (if t560 = 0 then (if bt572.2 = 0 then (if bt584.2.2 = 0 then (if bt599.2.2 = 0 then ((glisterref04_Same.f kj5 bt584.2.1 bt599.2.1).bind fun t606 => (if t606 = true then ((glisterref04_Same.f kj5 bt599.1 y543).bind fun t607 => (if t607 = true then ((glisterlaw04_awake.f).bind fun t608 => (some t608)) else (none))) else (none))) else (none)) else (none)) else (none)) else (none)))))))) = some r := H
           have A35 := Sd.mk A350
           clear A350
           obtain ⟨t569, A360, H⟩ := Option.bind_eq_some_iff.mp H
           have A36 := Sd.mk A360
           clear A360
           replace H := Option.bind_eq_some_iff.mp H
           obtain ⟨⟨t572, t575⟩, A370, H⟩ := H
           replace H : ((glisterlaw04_Book.f kj5 a0_0 a0_1 l0_2 l0_3).bind fun bt576 => ((cipher_Decode.f kj5 bt576.1 bt576.2.1 bt576.2.2.1 bt576.2.2.2 (Int.tmod (wrap64 (a2)) (l0_3.length : Int)) t557).bind fun bt584 => ((glisterlaw04_Book.f kj5 a0_0 a0_1 l0_2 l0_3).bind fun bt591 => ((cipher_Decode.f kj5 bt591.1 bt591.2.1 bt591.2.2.1 bt591.2.2.2 (Int.tmod (wrap64 (a2)) (l0_3.length : Int)) t572).bind fun bt599 => (if t560 = 0 then (if t575 = 0 then (if bt584.2.2 = 0 then (if bt599.2.2 = 0 then ((glisterref04_Same.f kj5 bt584.2.1 bt599.2.1).bind fun t606 => (if t606 = true then ((glisterref04_Same.f kj5 bt599.1 y543).bind fun t607 => (if t607 = true then ((glisterlaw04_awake.f).bind fun t608 => (some t608)) else (none))) else (none))) else (none)) else (none)) else (none)) else (none)))))) = some r := H
           have A37 := Sd.mk A370
           clear A370
           replace H := Option.bind_eq_some_iff.mp H
           obtain ⟨⟨t576, t577, t578, t581⟩, A380, H⟩ := H
           replace H : ((cipher_Decode.f kj5 t576 t577 t578 t581 (Int.tmod (wrap64 (a2)) (l0_3.length : Int)) t557).bind fun bt584 => ((glisterlaw04_Book.f kj5 a0_0 a0_1 l0_2 l0_3).bind fun bt591 => ((cipher_Decode.f kj5 bt591.1 bt591.2.1 bt591.2.2.1 bt591.2.2.2 (Int.tmod (wrap64 (a2)) (l0_3.length : Int)) t572).bind fun bt599 => (if t560 = 0 then (if t575 = 0 then (if bt584.2.2 = 0 then (if bt599.2.2 = 0 then ((glisterref04_Same.f kj5 bt584.2.1 bt599.2.1).bind fun t606 => (if t606 = true then ((glisterref04_Same.f kj5 bt599.1 y543).bind fun t607 => (if t607 = true then ((glisterlaw04_awake.f).bind fun t608 => (some t608)) else (none))) else (none))) else (none)) else (none)) else (none)) else (none))))) = some r := H
           have A38 := Sd.mk A380
           clear A380
           replace H := Option.bind_eq_some_iff.mp H
           obtain ⟨⟨t584, t587, t590⟩, A390, H⟩ := H
           replace H : ((glisterlaw04_Book.f kj5 a0_0 a0_1 l0_2 l0_3).bind fun bt591 => ((cipher_Decode.f kj5 bt591.1 bt591.2.1 bt591.2.2.1 bt591.2.2.2 (Int.tmod (wrap64 (a2)) (l0_3.length : Int)) t572).bind fun bt599 => (if t560 = 0 then (if t575 = 0 then (if t590 = 0 then (if bt599.2.2 = 0 then ((glisterref04_Same.f kj5 t587 bt599.2.1).bind fun t606 => (if t606 = true then ((glisterref04_Same.f kj5 bt599.1 y543).bind fun t607 => (if t607 = true then ((glisterlaw04_awake.f).bind fun t608 => (some t608)) else (none))) else (none))) else (none)) else (none)) else (none)) else (none)))) = some r := H
           have A39 := Sd.mk A390
           clear A390
           replace H := Option.bind_eq_some_iff.mp H
           obtain ⟨⟨t591, t592, t593, t596⟩, A400, H⟩ := H
           replace H : ((cipher_Decode.f kj5 t591 t592 t593 t596 (Int.tmod (wrap64 (a2)) (l0_3.length : Int)) t572).bind fun bt599 => (if t560 = 0 then (if t575 = 0 then (if t590 = 0 then (if bt599.2.2 = 0 then ((glisterref04_Same.f kj5 t587 bt599.2.1).bind fun t606 => (if t606 = true then ((glisterref04_Same.f kj5 bt599.1 y543).bind fun t607 => (if t607 = true then ((glisterlaw04_awake.f).bind fun t608 => (some t608)) else (none))) else (none))) else (none)) else (none)) else (none)) else (none))) = some r := H
           have A40 := Sd.mk A400
           clear A400
           replace H := Option.bind_eq_some_iff.mp H
           obtain ⟨⟨t599, t602, t605⟩, A410, H⟩ := H
           replace H : (if t560 = 0 then (if t575 = 0 then (if t590 = 0 then (if t605 = 0 then ((glisterref04_Same.f kj5 t587 t602).bind fun t606 => (if t606 = true then ((glisterref04_Same.f kj5 t599 y543).bind fun t607 => (if t607 = true then ((glisterlaw04_awake.f).bind fun t608 => (some t608)) else (none))) else (none))) else (none)) else (none)) else (none)) else (none)) = some r := H
           have A41 := Sd.mk A410
           clear A410
           by_cases c42 : t560 = 0
           ·rw [if_pos c42] at H
            have c42b0 : (t560 == 0) = true := beq_iff_eq.mpr c42
            have c42b1 : (t560 != 0) = false := bne_eq_false_iff_eq.mpr c42
            clear c42
            by_cases c43 : t575 = 0
            ·rw [if_pos c43] at H
             have c43b0 : (t575 == 0) = true := beq_iff_eq.mpr c43
             have c43b1 : (t575 != 0) = false := bne_eq_false_iff_eq.mpr c43
             clear c43
             by_cases c44 : t590 = 0
             ·rw [if_pos c44] at H
              have c44b0 : (t590 == 0) = true := beq_iff_eq.mpr c44
              have c44b1 : (t590 != 0) = false := bne_eq_false_iff_eq.mpr c44
              clear c44
              by_cases c45 : t605 = 0
              ·rw [if_pos c45] at H
               have c45b0 : (t605 == 0) = true := beq_iff_eq.mpr c45
               have c45b1 : (t605 != 0) = false := bne_eq_false_iff_eq.mpr c45
               clear c45
               obtain ⟨t606, A460, H⟩ := Option.bind_eq_some_iff.mp H
               have A46 := Sd.mk A460
               clear A460
               by_cases c47 : t606 = true
               ·subst c47
                rw [if_pos rfl] at H
                obtain ⟨t607, A480, H⟩ := Option.bind_eq_some_iff.mp H
                have A48 := Sd.mk A480
                clear A480
                by_cases c49 : t607 = true
                ·subst c49
                 rw [if_pos rfl] at H
                 obtain ⟨t608, A500, H⟩ := Option.bind_eq_some_iff.mp H
                 have A50 := Sd.mk A500
                 clear A500
                 obtain rfl := Option.some.inj H
                 have z_51_3 : wc.cell? ⟨gb529, 3, none⟩ = some (.slice A0_3 l0_3.length c0_3) := (kC BK529.1 3).trans rfl
                 try go_wp2
                 have n0_ := Sd.mk (kD BK529.1)
                 have n1_ := Sd.mk (bD HB.1)
                 clear BK529
                 clear HB
                 have BK529 := n0_
                 have HB := n1_
                 clear n0_ n1_
                 obtain ⟨i053, hi053, _, hsz53, _⟩ := info_parts info3
                 obtain ⟨hcut53, hA53, hC53⟩ := print_take_of (P := Try.prog) (Value.int .i64) 0 23 3 .i64 Try.underlying23 hi053 hsz53 A1 c1 l1 (ji23) (of_decide_eq_true (by first | (with_reducible assumption) )) (of_decide_eq_true (by first | (with_reducible assumption) )) HC1.1
                 have HR532 := Sd.mk (Kd.C_of_reads (h1 := fun _ => rfl) (hA53 _ (Kd.reads_of_C HR1.1)))
                 have HC532 := Sd.mk hC53
                 clear hA53 hC53 hi053 hsz53
                 refine start_ (n := 18) (S := fun w' => w'.cell? ⟨gb529, 0, none⟩ = some (.int .i64 a0_0) ∧ w'.cell? ⟨gb529, 1, none⟩ = some (.int .i64 a0_1) ∧ w'.cell? ⟨gb529, 2, none⟩ = some (.slice A0_2 l0_2.length c0_2) ∧ w'.cell? ⟨gb529, 3, none⟩ = some (.slice A0_3 l0_3.length c0_3)) (ds := []) #[false, false, false, false, false, false, false, false, false, false, false, false, false, false, false, false, false, false] (by kernel_rfl) rfl rfl ⟨(kC BK529.1 0).trans rfl, (kC BK529.1 1).trans rfl, (kC BK529.1 2).trans rfl, (kC BK529.1 3).trans rfl⟩ (fun hHeld => ?_); refine with_tabW glisterlaw04_CipherNulls.tab5 glisterlaw04_CipherNulls.bits5 (fun HT_ HW_ => ?_)
                 generalize wc.drew = w52 at BK529 HB HR532 hHeld ⊢
                 refine pure_ (i := 0) (N := some 53) (v := ?_) (a' := ?_) #[true, false, false, false, false, false, false, false, false, false, false, false, false, false, false, false, false, false] rfl rfl (any_of HT_.1 (by kernel_rfl)) (fun _ _ _ h => h) (Or.inl ⟨by rfl, ?_⟩) ?_ ?_
                 rotate_left
                 ·intro w'
                  go_simp
                  with_reducible rfl
                 rotate_left
                 ·simp only [Act.put, List.setIfInBounds_toArray, List.set_cons_zero, List.set_cons_succ, i64_w, i32_w]
                  rfl
                 refine pure_ (i := 1) (N := some 54) (v := ?_) (a' := ?_) #[true, true, false, false, false, false, false, false, false, false, false, false, false, false, false, false, false, false] rfl rfl (any_of HT_.1 (by kernel_rfl)) (fun _ _ _ h => h) (Or.inl ⟨by rfl, ?_⟩) ?_ ?_
                 rotate_left
                 ·intro w'
                  go_simp
                  with_reducible rfl
                 rotate_left
                 ·simp only [Act.put, List.setIfInBounds_toArray, List.set_cons_zero, List.set_cons_succ, i64_w, i32_w]
                  rfl
                 refine pure_ (i := 2) (N := some 55) (v := ?_) (a' := ?_) #[true, true, true, false, false, false, false, false, false, false, false, false, false, false, false, false, false, false] rfl rfl (any_of HT_.1 (by kernel_rfl)) (fun _ _ _ h => h) (Or.inl ⟨by rfl, ?_⟩) ?_ ?_
                 rotate_left
                 ·intro w'
                  go_simp
                  with_reducible rfl
                 rotate_left
                 ·simp only [Act.put, List.setIfInBounds_toArray, List.set_cons_zero, List.set_cons_succ, i64_w, i32_w]
                  rfl
                 refine pure_ (i := 4) (N := some 57) (v := ?_) (a' := ?_) #[true, true, true, false, true, false, false, false, false, false, false, false, false, false, false, false, false, false] rfl rfl (any_of HT_.1 (by kernel_rfl)) (fun _ _ _ h => h) (Or.inl ⟨by rfl, ?_⟩) ?_ ?_
                 rotate_left
                 ·intro w'
                  go_simp
                  with_reducible rfl
                 rotate_left
                 ·simp only [Act.put, List.setIfInBounds_toArray, List.set_cons_zero, List.set_cons_succ, i64_w, i32_w]
                  rfl
                 refine pure_ (i := 6) (N := some 59) (v := ?_) (a' := ?_) #[true, true, true, false, true, false, true, false, false, false, false, false, false, false, false, false, false, false] rfl rfl (any_of HT_.1 (by kernel_rfl)) (fun _ _ _ h => h) (Or.inl ⟨by rfl, ?_⟩) ?_ ?_
                 rotate_left
                 ·intro w'
                  go_simp
                  with_reducible rfl
                 rotate_left
                 ·simp only [Act.put, List.setIfInBounds_toArray, List.set_cons_zero, List.set_cons_succ, i64_w, i32_w]
                  rfl
                 refine pure_ (i := 7) (N := some 60) (v := ?_) (a' := ?_) #[true, true, true, false, true, false, true, true, false, false, false, false, false, false, false, false, false, false] rfl rfl (any_of HT_.1 (by kernel_rfl)) (fun _ _ _ h => h) (Or.inl ⟨by rfl, ?_⟩) ?_ ?_
                 rotate_left
                 ·intro w'
                  go_simp
                  with_reducible rfl
                 rotate_left
                 ·simp only [Act.put, List.setIfInBounds_toArray, List.set_cons_zero, List.set_cons_succ, i64_w, i32_w]
                  rfl
                 refine pure_ (i := 8) (N := some 61) (v := ?_) (a' := ?_) #[true, true, true, false, true, false, true, true, true, false, false, false, false, false, false, false, false, false] rfl rfl (any_of HT_.1 (by kernel_rfl)) (fun _ _ _ h => h) (Or.inl ⟨by rfl, ?_⟩) ?_ ?_
                 rotate_left
                 ·intro w'
                  go_simp
                  with_reducible rfl
                 rotate_left
                 ·simp only [Act.put, List.setIfInBounds_toArray, List.set_cons_zero, List.set_cons_succ, i64_w, i32_w]
                  rfl
                 refine pure_ (i := 10) (N := some 63) (v := ?_) (a' := ?_) #[true, true, true, false, true, false, true, true, true, false, true, false, false, false, false, false, false, false] rfl rfl (any_of HT_.1 (by kernel_rfl)) (fun _ _ _ h => h) (Or.inl ⟨by rfl, ?_⟩) ?_ ?_
                 rotate_left
                 ·intro w'
                  go_simp
                  with_reducible rfl
                 rotate_left
                 ·simp only [Act.put, List.setIfInBounds_toArray, List.set_cons_zero, List.set_cons_succ, i64_w, i32_w]
                  rfl
                 refine take_ (i := 5) (N := some 58) (v := ?_) (a' := ?_) #[true, true, true, false, true, true, true, true, true, false, true, false, false, false, false, false, false, false] rfl rfl (take_ofW HT_.1 HW_.1 (by kernel_rfl)) (fun _ _ _ h => h) (Or.inl ⟨by rfl, ?_⟩) hHeld ?_ ?_
                 rotate_left
                 ·rintro w' ⟨s0, s1, s2, s3⟩
                  go_simp
                  with_reducible rfl
                 rotate_left
                 ·simp only [Act.put, List.setIfInBounds_toArray, List.set_cons_zero, List.set_cons_succ, i64_w, i32_w]
                  rfl
                 refine take_ (i := 9) (N := some 62) (v := ?_) (a' := ?_) #[true, true, true, false, true, true, true, true, true, true, true, false, false, false, false, false, false, false] rfl rfl (take_ofW HT_.1 HW_.1 (by kernel_rfl)) (fun _ _ _ h => h) (Or.inl ⟨by rfl, ?_⟩) hHeld ?_ ?_
                 rotate_left
                 ·rintro w' ⟨s0, s1, s2, s3⟩
                  go_simp
                  with_reducible rfl
                 rotate_left
                 ·simp only [Act.put, List.setIfInBounds_toArray, List.set_cons_zero, List.set_cons_succ, i64_w, i32_w]
                  rfl
                 refine take_ (i := 11) (N := some 64) (v := ?_) (a' := ?_) #[true, true, true, false, true, true, true, true, true, true, true, true, false, false, false, false, false, false] rfl rfl (take_ofW HT_.1 HW_.1 (by kernel_rfl)) (fun _ _ _ h => h) (Or.inl ⟨by rfl, ?_⟩) hHeld ?_ ?_
                 rotate_left
                 ·rintro w' ⟨s0, s1, s2, s3⟩
                  go_simp
                  with_reducible rfl
                 rotate_left
                 ·simp only [Act.put, List.setIfInBounds_toArray, List.set_cons_zero, List.set_cons_succ, i64_w, i32_w]
                  rfl
                 refine pure_ (i := 12) (N := some 65) (v := ?_) (a' := ?_) #[true, true, true, false, true, true, true, true, true, true, true, true, true, false, false, false, false, false] rfl rfl (any_of HT_.1 (by kernel_rfl)) (fun _ _ _ h => h) (Or.inl ⟨by rfl, ?_⟩) ?_ ?_
                 rotate_left
                 ·intro w'
                  go_simp
                  with_reducible rfl
                 rotate_left
                 ·simp only [Act.put, List.setIfInBounds_toArray, List.set_cons_zero, List.set_cons_succ, i64_w, i32_w]
                  rfl
                 refine pure_ (i := 13) (N := some 66) (v := ?_) (a' := ?_) #[true, true, true, false, true, true, true, true, true, true, true, true, true, true, false, false, false, false] rfl rfl (any_of HT_.1 (by kernel_rfl)) (fun _ _ _ h => h) (Or.inl ⟨by rfl, ?_⟩) ?_ ?_
                 rotate_left
                 ·intro w'
                  go_simp
                  with_reducible rfl
                 rotate_left
                 ·simp only [Act.put, List.setIfInBounds_toArray, List.set_cons_zero, List.set_cons_succ, i64_w, i32_w]
                  rfl
                 refine pure_ (i := 14) (N := some 67) (v := ?_) (a' := ?_) #[true, true, true, false, true, true, true, true, true, true, true, true, true, true, true, false, false, false] rfl rfl (any_of HT_.1 (by kernel_rfl)) (fun _ _ _ h => h) (Or.inl ⟨by rfl, ?_⟩) ?_ ?_
                 rotate_left
                 ·intro w'
                  go_simp
                  with_reducible rfl
                 rotate_left
                 ·simp only [Act.put, List.setIfInBounds_toArray, List.set_cons_zero, List.set_cons_succ, i64_w, i32_w]
                  rfl
                 refine join_ (σ := Value × Value) 2 #[true, true, true, true, true, true, true, true, true, true, true, true, true, true, true, true, false, false] (fun s_ => [(56, s_.1), (68, s_.2)]) (fun s_ w' => (w'.cell? ⟨gb529, 0, none⟩ = some (.int .i64 a0_0) ∧ w'.cell? ⟨gb529, 1, none⟩ = some (.int .i64 a0_1) ∧ w'.cell? ⟨gb529, 2, none⟩ = some (.slice A0_2 l0_2.length c0_2) ∧ w'.cell? ⟨gb529, 3, none⟩ = some (.slice A0_3 l0_3.length c0_3)) ∧ (Kd.R (Kd.int .i64) 3 w' w.heap.size (fun k_ => some k_ ≠ (s_.2 : Value).ownBlock) s_.1 t533) ∧ (Kd.R (Kd.int .i64) 3 w' w.heap.size (fun k_ => some k_ ≠ (s_.1 : Value).ownBlock) s_.2 y536) ∧ (w'.heap[gb529]? = some (.cells #[.int .i64 a0_0, .int .i64 a0_1, .slice A0_2 l0_2.length c0_2, .slice A0_3 l0_3.length c0_3] 25 (0, 0))) ∧ (Below w.heap.size w w')) ?_ ?_
                 rotate_left
                 ·intro hCont
                  refine two_ (i := 3) (j := 15) (Ni := some 56) (Nj := some 68) #[true, true, true, true, true, true, true, true, true, true, true, true, true, true, true, false, false, false] #[true, true, true, false, true, true, true, true, true, true, true, true, true, true, true, true, false, false] rfl rfl rfl rfl (two_of HT_.1 (by kernel_rfl)) (by decide) (by decide) (fun K hK => ?_) (fun K hK => ?_)
                  ·skip
                   refine goes_ Try.func21 (by kernel_rfl) rfl #[.slice A1 (l1.take ((ji23) : Int).toNat).length c1] (by rfl) rfl rfl (by (try simp only [List.map_toArray, List.map_cons, List.map_nil]); first | (rw [show (l1.take ((ji23) : Int).toNat).length = (ji23).toNat from (by rw [List.length_take]; have h_ : ((ji23) : Int) ≤ (l1.length : Int) := of_decide_eq_true (by first | (with_reducible assumption) ); omega)] <;> rfl) ) ?_
                   with_reducible refine (glisterlaw04_list.calls _ _ (l1.take ((ji23) : Int).toNat) t533 _ ?side1 ?side2 A26.1).mono ?_
                   (case side1 => repeat (first | exact (Kd.C_below HR532.1 HB.1) ))
                   (case side2 => exact HC532.1)
                   rintro e w54 ⟨v534, rfl, ho0, hb⟩
                   refine ⟨_, rfl, ?_⟩
                   have n0_ := Sd.mk (Kd.R_lower ho0 (bZ (by repeat (first | (with_reducible first | exact HB.1 ) ))))
                   have n1_ := Sd.mk (kB (g := gb529) (o := .cells #[.int .i64 a0_0, .int .i64 a0_1, .slice A0_2 l0_2.length c0_2, .slice A0_3 l0_3.length c0_3] 25 (0, 0)) (by (with_reducible repeat (fail)); exact BK529.1) hb)
                   have n2_ := Sd.mk (bT (by repeat (first | (with_reducible first | exact HB.1 ) )) hb)
                   clear BK529
                   clear HB
                   have HO535 := n0_
                   have BK529 := n1_
                   have HB := n2_
                   clear n0_ n1_ n2_
                   (try clear hb)
                   (try clear ho0)
                   refine hK.out _ _ ⟨(kC BK529.1 0).trans rfl, (kC BK529.1 1).trans rfl, (kC BK529.1 2).trans rfl, (kC BK529.1 3).trans rfl⟩ (fun hHeld => ?_)
                   clear hK K
                   refine norm_ (a' := ?_) ?_ ?_
                   rotate_left
                   ·show Act.put _ (some 56) _ = _
                    simp only [Act.put, List.setIfInBounds_toArray, List.set_cons_zero, List.set_cons_succ, i64_w, i32_w]
                    rfl
                   refine one_ (i := 15) (N := some 68) #[true, true, true, true, true, true, true, true, true, true, true, true, true, true, true, true, false, false] rfl rfl (one_of HT_.1 (by kernel_rfl)) (by decide) (fun K hK => ?_)
                   refine Kd.R_lit_step (Kd.int .i64) _ 3 ?hg (N := 68) ?hd (xs := ([wrap64 (a0_1 + (Int.tmod (wrap64 (a4)) (wrap64 (a0_0 - a0_1))))] : List Int)) (inner := [.int .i64 (wrap64 (a0_1 + (Int.tmod (wrap64 (a4)) (wrap64 (a0_0 - a0_1)))))]) (ok := fun _ => True) (okp := fun _ => True) ?hr ?hp (fun _ hk => hk) trivial (Below.refl _ _) (Nat.le_refl _) (by simp) ?_; (case hd => rfl); (case hg => rfl); (case hr => first | (go_simp; done) ); (case hp => exact (Reps.one (show Kd.M (Kd.int .i64) _ _ _ (wrap64 (a0_1 + (Int.tmod (wrap64 (a4)) (wrap64 (a0_0 - a0_1))))) [.int .i64 (wrap64 (a0_1 + (Int.tmod (wrap64 (a4)) (wrap64 (a0_0 - a0_1)))))] from rfl) (Reps.none _ _)))
                   intro v537 w55 ho56 hb hg_ hnew_
                   clear hg_ hnew_
                   (rw [← Ny536.1] at ho56 )
                   have n0_ := Sd.mk (Kd.R_elder' (by (with_reducible repeat (fail)); exact HO535.1) (Kd.R_base ho56) hb)
                   have n1_ := Sd.mk (Kd.R_lower (Kd.R_new' ho56 (Kd.R_lt (by (with_reducible repeat (fail)); exact HO535.1))) (bZ (by repeat (first | (with_reducible first | exact HB.1 ) ))))
                   have n2_ := Sd.mk (kB (g := gb529) (o := .cells #[.int .i64 a0_0, .int .i64 a0_1, .slice A0_2 l0_2.length c0_2, .slice A0_3 l0_3.length c0_3] 25 (0, 0)) (by (with_reducible repeat (fail)); exact BK529.1) hb)
                   have n3_ := Sd.mk (bT (by repeat (first | (with_reducible first | exact HB.1 ) )) hb)
                   clear HO535
                   clear BK529
                   clear HB
                   have HO535 := n0_
                   have HO538 := n1_
                   have BK529 := n2_
                   have HB := n3_
                   clear n0_ n1_ n2_ n3_
                   clear hb ho56
                   refine hK.out _ _ ⟨(kC BK529.1 0).trans rfl, (kC BK529.1 1).trans rfl, (kC BK529.1 2).trans rfl, (kC BK529.1 3).trans rfl⟩ (fun hHeld => ?_)
                   clear hK K
                   refine norm_ (a' := ?_) ?_ ?_
                   rotate_left
                   ·show Act.put _ (some 68) _ = _
                    simp only [Act.put, List.setIfInBounds_toArray, List.set_cons_zero, List.set_cons_succ, i64_w, i32_w]
                    rfl
                   exact norm_ (by simp only [Go.Proofs.YtnidgkmopocdkaaW.PrintLast.putAll, Act.put, List.setIfInBounds_toArray, List.set_cons_zero, List.set_cons_succ]) (hCont (v534, v537) _ ⟨hHeld, (by (with_reducible repeat (fail)); exact Kd.R_mono HO535.1 (fun _ hk => hk.2)), (by (with_reducible repeat (fail)); exact Kd.R_mono HO538.1 (fun _ hk => hk.2)), (by (with_reducible repeat (fail)); exact BK529.1), (by repeat (first | (with_reducible first | exact HB.1 ) ))⟩)
                  ·skip
                   refine Kd.R_lit_step (Kd.int .i64) _ 3 ?hg (N := 68) ?hd (xs := ([wrap64 (a0_1 + (Int.tmod (wrap64 (a4)) (wrap64 (a0_0 - a0_1))))] : List Int)) (inner := [.int .i64 (wrap64 (a0_1 + (Int.tmod (wrap64 (a4)) (wrap64 (a0_0 - a0_1)))))]) (ok := fun _ => True) (okp := fun _ => True) ?hr ?hp (fun _ hk => hk) trivial (Below.refl _ _) (Nat.le_refl _) (by simp) ?_; (case hd => rfl); (case hg => rfl); (case hr => first | (go_simp; done) ); (case hp => exact (Reps.one (show Kd.M (Kd.int .i64) _ _ _ (wrap64 (a0_1 + (Int.tmod (wrap64 (a4)) (wrap64 (a0_0 - a0_1))))) [.int .i64 (wrap64 (a0_1 + (Int.tmod (wrap64 (a4)) (wrap64 (a0_0 - a0_1)))))] from rfl) (Reps.none _ _)))
                   intro v537 w54 ho55 hb hg_ hnew_
                   clear hg_ hnew_
                   (rw [← Ny536.1] at ho55 )
                   have n0_ := Sd.mk (Kd.R_lower ho55 (bZ (by repeat (first | (with_reducible first | exact HB.1 ) ))))
                   have n1_ := Sd.mk (kB (g := gb529) (o := .cells #[.int .i64 a0_0, .int .i64 a0_1, .slice A0_2 l0_2.length c0_2, .slice A0_3 l0_3.length c0_3] 25 (0, 0)) (by (with_reducible repeat (fail)); exact BK529.1) hb)
                   have n2_ := Sd.mk (bT (by repeat (first | (with_reducible first | exact HB.1 ) )) hb)
                   clear BK529
                   clear HB
                   have HO538 := n0_
                   have BK529 := n1_
                   have HB := n2_
                   clear n0_ n1_ n2_
                   clear hb ho55
                   refine hK.out _ _ ⟨(kC BK529.1 0).trans rfl, (kC BK529.1 1).trans rfl, (kC BK529.1 2).trans rfl, (kC BK529.1 3).trans rfl⟩ (fun hHeld => ?_)
                   clear hK K
                   refine norm_ (a' := ?_) ?_ ?_
                   rotate_left
                   ·show Act.put _ (some 68) _ = _
                    simp only [Act.put, List.setIfInBounds_toArray, List.set_cons_zero, List.set_cons_succ, i64_w, i32_w]
                    rfl
                   refine one_ (i := 3) (N := some 56) #[true, true, true, true, true, true, true, true, true, true, true, true, true, true, true, true, false, false] rfl rfl (one_of HT_.1 (by kernel_rfl)) (by decide) (fun K hK => ?_)
                   refine goes_ Try.func21 (by kernel_rfl) rfl #[.slice A1 (l1.take ((ji23) : Int).toNat).length c1] (by rfl) rfl rfl (by (try simp only [List.map_toArray, List.map_cons, List.map_nil]); first | (rw [show (l1.take ((ji23) : Int).toNat).length = (ji23).toNat from (by rw [List.length_take]; have h_ : ((ji23) : Int) ≤ (l1.length : Int) := of_decide_eq_true (by first | (with_reducible assumption) ); omega)] <;> rfl) ) ?_
                   with_reducible refine (glisterlaw04_list.calls _ _ (l1.take ((ji23) : Int).toNat) t533 _ ?side1 ?side2 A26.1).mono ?_
                   (case side1 => repeat (first | exact (Kd.C_below HR532.1 HB.1) ))
                   (case side2 => exact HC532.1)
                   rintro e w56 ⟨v534, rfl, ho0, hb⟩
                   refine ⟨_, rfl, ?_⟩
                   have n0_ := Sd.mk (Kd.R_elder' (by (with_reducible repeat (fail)); exact HO538.1) (Kd.R_base ho0) hb)
                   have n1_ := Sd.mk (Kd.R_lower (Kd.R_new' ho0 (Kd.R_lt (by (with_reducible repeat (fail)); exact HO538.1))) (bZ (by repeat (first | (with_reducible first | exact HB.1 ) ))))
                   have n2_ := Sd.mk (kB (g := gb529) (o := .cells #[.int .i64 a0_0, .int .i64 a0_1, .slice A0_2 l0_2.length c0_2, .slice A0_3 l0_3.length c0_3] 25 (0, 0)) (by (with_reducible repeat (fail)); exact BK529.1) hb)
                   have n3_ := Sd.mk (bT (by repeat (first | (with_reducible first | exact HB.1 ) )) hb)
                   clear HO538
                   clear BK529
                   clear HB
                   have HO538 := n0_
                   have HO535 := n1_
                   have BK529 := n2_
                   have HB := n3_
                   clear n0_ n1_ n2_ n3_
                   (try clear hb)
                   (try clear ho0)
                   refine hK.out _ _ ⟨(kC BK529.1 0).trans rfl, (kC BK529.1 1).trans rfl, (kC BK529.1 2).trans rfl, (kC BK529.1 3).trans rfl⟩ (fun hHeld => ?_)
                   clear hK K
                   refine norm_ (a' := ?_) ?_ ?_
                   rotate_left
                   ·show Act.put _ (some 56) _ = _
                    simp only [Act.put, List.setIfInBounds_toArray, List.set_cons_zero, List.set_cons_succ, i64_w, i32_w]
                    rfl
                   exact norm_ (by simp only [Go.Proofs.YtnidgkmopocdkaaW.PrintLast.putAll, Act.put, List.setIfInBounds_toArray, List.set_cons_zero, List.set_cons_succ]) (hCont (v534, v537) _ ⟨hHeld, (by (with_reducible repeat (fail)); exact Kd.R_mono HO535.1 (fun _ hk => hk.2)), (by (with_reducible repeat (fail)); exact Kd.R_mono HO538.1 (fun _ hk => hk.2)), (by (with_reducible repeat (fail)); exact BK529.1), (by repeat (first | (with_reducible first | exact HB.1 ) ))⟩)
                 rintro ⟨v534, v537⟩ w57 ⟨hS_, h0_, h1_, h2_, h3_⟩
                 have n0_ : Sd (Kd.R (Kd.int .i64) 3 w57 w.heap.size (fun k_ => some k_ ≠ (v537 : Value).ownBlock) v534 t533) := ⟨h0_⟩
                 have n1_ : Sd (Kd.R (Kd.int .i64) 3 w57 w.heap.size (fun k_ => some k_ ≠ (v534 : Value).ownBlock) v537 y536) := ⟨h1_⟩
                 have n2_ : Sd (w57.heap[gb529]? = some (.cells #[.int .i64 a0_0, .int .i64 a0_1, .slice A0_2 l0_2.length c0_2, .slice A0_3 l0_3.length c0_3] 25 (0, 0))) := ⟨h2_⟩
                 have n3_ : Sd (Below w.heap.size w w57) := ⟨h3_⟩
                 clear BK529
                 clear HB
                 clear h0_ h1_ h2_ h3_
                 have HO535 := n0_
                 have HO538 := n1_
                 have BK529 := n2_
                 have HB := n3_
                 clear n0_ n1_ n2_ n3_
                 have hHeld : w57.cell? ⟨gb529, 0, none⟩ = some (.int .i64 a0_0) ∧ w57.cell? ⟨gb529, 1, none⟩ = some (.int .i64 a0_1) ∧ w57.cell? ⟨gb529, 2, none⟩ = some (.slice A0_2 l0_2.length c0_2) ∧ w57.cell? ⟨gb529, 3, none⟩ = some (.slice A0_3 l0_3.length c0_3) := hS_
                 obtain ⟨Ao59, co59, eo59⟩ := Kd.R_slice HO538.1
                 (subst eo59 )
                 refine norm_ (a' := ?_) ?_ ?_
                 rotate_left
                 ·simp only [Go.Proofs.YtnidgkmopocdkaaW.PrintLast.putAll, Act.put, List.setIfInBounds_toArray, List.set_cons_zero, List.set_cons_succ]
                  rfl
                 refine one_ (i := 16) (N := some 69) #[true, true, true, true, true, true, true, true, true, true, true, true, true, true, true, true, true, false] rfl rfl (one_of HT_.1 (by kernel_rfl)) (by decide) (fun K hK => ?_)
                 refine Kd.R_append_rows_step (Kd.int .i64) (w0 := w) w.heap.size (by rfl) (.tmp 56) (.tmp 68) 23 3 (.int .i64 0) 8 rfl Try.underlying23 info3 rfl (by decide) (by omega) v534 t533 y536 _ _ _ (fun k_ => some k_ ≠ (.slice Ao59 y536.length co59 : Value).ownBlock) (fun _ => False) rfl rfl ?aO ?aR (fun _ _ h => h) (fun _ h => h.elim) ?aF ?aB ?aS ?aL ?_
                 (case aR => repeat (first | exact (Kd.R_reads' HO538.1).2.2 ))
                 (case aB => exact (by repeat (first | (with_reducible first | exact HB.1 ) )))
                 (case aF => exact (fun k_ hk => Kd.fresh' (Kd.R_lt (by (with_reducible repeat (fail)); exact HO538.1)) k_ hk))
                 (case aO => exact (by (with_reducible repeat (fail)); exact HO535.1))
                 (case aS => exact (bZ (by repeat (first | (with_reducible first | exact HB.1 ) ))))
                 (case aL => have := LMc28.1; omega)
                 intro v540 w58 ho hb hg hat
                 rw [← Ny539.1] at ho
                 have n0_ := Sd.mk (blk_grown (g := gb529) (o := .cells #[.int .i64 a0_0, .int .i64 a0_1, .slice A0_2 l0_2.length c0_2, .slice A0_3 l0_3.length c0_3] 25 (0, 0)) (by (with_reducible repeat (fail)); exact BK529.1) hg (Kd.R_ne HO535.1 BK529.1 (by decide)))
                 have n1_ := Sd.mk (Kd.R_after (ok := (fun _ => True)) (by (with_reducible repeat (fail)); exact Kd.R_mono HO538.1 (fun _ hk => ⟨trivial, hk⟩)) hg hat)
                 have n2_ := Sd.mk (hb)
                 have n3_ := Sd.mk (ho)
                 clear BK529
                 clear HO538
                 clear HB
                 clear HO535
                 have BK529 := n0_
                 have HO538 := n1_
                 have HB := n2_
                 have HO541 := n3_
                 clear n0_ n1_ n2_ n3_
                 clear ho hb hg hat
                 refine hK.out _ _ ⟨(kC BK529.1 0).trans rfl, (kC BK529.1 1).trans rfl, (kC BK529.1 2).trans rfl, (kC BK529.1 3).trans rfl⟩ (fun hHeld => ?_)
                 clear hK K
                 refine norm_ (a' := ?_) ?_ ?_
                 rotate_left
                 ·show Act.put _ (some 69) _ = _
                  simp only [Act.put, List.setIfInBounds_toArray, List.set_cons_zero, List.set_cons_succ, i64_w, i32_w]
                  rfl
                 refine pure_ (i := 17) (N := some 13) (v := ?_) (a' := ?_) #[true, true, true, true, true, true, true, true, true, true, true, true, true, true, true, true, true, true] rfl rfl (any_of HT_.1 (by kernel_rfl)) (fun _ _ _ h => h) (Or.inl ⟨by rfl, ?_⟩) ?_ ?_
                 rotate_left
                 ·intro w'
                  go_simp
                  with_reducible rfl
                 rotate_left
                 ·simp only [Act.put, List.setIfInBounds_toArray, List.set_cons_zero, List.set_cons_succ, i64_w, i32_w]
                  rfl
                 refine done_ (done_of HT_.1 (by kernel_rfl)) ?_
                 obtain ⟨i060, hi060, _, hsz60, _⟩ := info_parts info3
                 obtain ⟨A60, hcut60, hA60, hC60⟩ := print_drop_of (P := Try.prog) (Value.int .i64) 0 23 3 .i64 Try.underlying23 hi060 hsz60 A1 c1 l1 (ji23) (of_decide_eq_true (by first | (with_reducible assumption) )) (of_decide_eq_true (by first | (with_reducible assumption) )) HC1.1
                 have HR542 := Sd.mk (Kd.C_of_reads (h1 := fun _ => rfl) (hA60 _ (Kd.reads_of_C HR1.1)))
                 have HC542 := Sd.mk hC60
                 clear hA60 hC60 hi060 hsz60
                 try go_wp2_with (first | ((with_reducible refine gate_builtin (b := .append) (xs := #[.tmp 70, .tmp 73]) rfl ?_); (try (refine gG (by rfl) ?_; dsimp only)); at_builtin; refine Kd.R_append_rows (Kd.int .i64) (w0 := w) w.heap.size rfl (.tmp 70) (.tmp 73) 23 3 (.int .i64 0) 8 rfl Try.underlying23 info3 rfl (by decide) (by omega) v540 y539 (l1.drop ((ji23) : Int).toNat) _ _ _ (fun k_ => some k_ ≠ (.slice Ao59 y536.length co59 : Value).ownBlock) (fun _ => False) rfl rfl ?aO ?aR (fun _ _ h => h) (fun _ h => h.elim) ?aF ?aB ?aS ?aL ?_; (case aR => first | (rw [← show (l1.drop ((ji23) : Int).toNat).length = (l1.length - (ji23).toNat) from List.length_drop]; repeat (first | exact (Kd.C_below HR542.1 HB.1) )) ); (case aB => exact (by repeat (first | (with_reducible first | exact HB.1 ) ))); (case aF => exact (fun k_ hk => Kd.fresh' (Kd.R_lt (by (with_reducible repeat (fail)); exact HO538.1)) k_ hk)); (case aO => exact (by (with_reducible repeat (fail)); exact HO541.1)); (case aS => exact (bZ (by repeat (first | (with_reducible first | exact HB.1 ) )))); (case aL => have := LMc31.1; have hlx_ := (show (l1.drop ((ji23) : Int).toNat).length = (l1.length - (ji23).toNat) from List.length_drop); omega); intro v544 w61 ho hb hg hat; rw [← Ny543.1] at ho; replace BK529 := Sd.mk (blk_grown (g := gb529) (o := .cells #[.int .i64 a0_0, .int .i64 a0_1, .slice A0_2 l0_2.length c0_2, .slice A0_3 l0_3.length c0_3] 25 (0, 0)) (by (with_reducible repeat (fail)); exact BK529.1) hg (Kd.R_ne HO541.1 BK529.1 (by decide))); replace HO538 := Sd.mk (Kd.R_after (ok := (fun _ => True)) (by (with_reducible repeat (fail)); exact HO538.1) hg hat); replace HB := Sd.mk (hb); have HO545 := Sd.mk (ho); clear HO541; clear ho hb hg hat; have z_62_0 : w61.cell? ⟨gb529, 0, none⟩ = some (.int .i64 a0_0) := (kC BK529.1 0).trans rfl; have z_62_1 : w61.cell? ⟨gb529, 1, none⟩ = some (.int .i64 a0_1) := (kC BK529.1 1).trans rfl; have z_62_2 : w61.cell? ⟨gb529, 2, none⟩ = some (.slice A0_2 l0_2.length c0_2) := (kC BK529.1 2).trans rfl; have z_62_3 : w61.cell? ⟨gb529, 3, none⟩ = some (.slice A0_3 l0_3.length c0_3) := (kC BK529.1 3).trans rfl) | ((with_reducible refine gate_callee (f := 19) rfl ?_); refine goesL_ (some 77) rfl rfl Try.func19 (by kernel_rfl) rfl #[.agg #[.int .i64 a0_0, .int .i64 a0_1, .slice A0_2 l0_2.length c0_2, .slice A0_3 l0_3.length c0_3]] rfl (by (try simp only [List.map_toArray, List.map_cons, List.map_nil]); first | rfl ) ?_; (with_reducible refine (glisterlaw04_Book.calls kj5 a0_0 a0_1 _ _ l0_2 _ _ l0_3 t546 t547 t548 t551 _ ?side1 ?side2 ?side3 ?side4 A32.1).mono ?_); (case side1 => repeat (first | exact (Kd.C_below HR0_2.1 HB.1) )); (case side2 => exact HC0_2.1); (case side3 => repeat (first | exact (Kd.C_below HR0_3.1 HB.1) )); (case side4 => exact HC0_3.1); rintro e w63 ⟨v549, v552, rfl, ho0, ho1, hb⟩; refine ⟨_, rfl, ?_⟩; have HO550 := Sd.mk (Kd.R_lower ho0 (bZ (by repeat (first | (with_reducible first | exact HB.1 ) )))); have HO553 := Sd.mk (Kd.R_lower (Kd.R_new' (Kd.R_new' ho1 (Kd.R_lt (by (with_reducible repeat (fail)); exact HO538.1))) (Kd.R_lt (by (with_reducible repeat (fail)); exact HO545.1))) (bZ (by repeat (first | (with_reducible first | exact HB.1 ) )))); replace HO538 := Sd.mk (Kd.R_elder' (by (with_reducible repeat (fail)); exact HO538.1) (Kd.R_base ho1) hb); replace HO545 := Sd.mk (Kd.R_elder' (by (with_reducible repeat (fail)); exact HO545.1) (Kd.R_base ho1) hb); replace BK529 := Sd.mk (kB (g := gb529) (o := .cells #[.int .i64 a0_0, .int .i64 a0_1, .slice A0_2 l0_2.length c0_2, .slice A0_3 l0_3.length c0_3] 25 (0, 0)) (by (with_reducible repeat (fail)); exact BK529.1) hb); replace HB := Sd.mk (bT (by repeat (first | (with_reducible first | exact HB.1 ) )) hb); (try clear hb); (try clear ho0); (try clear ho1); (try clear A32)) | ((with_reducible refine gate_callee (f := 21) rfl ?_); refine goesL_ (some 80) rfl rfl Try.func21 (by kernel_rfl) rfl #[.slice A1 l1.length c1] rfl (by (try simp only [List.map_toArray, List.map_cons, List.map_nil]); first | rfl ) ?_; (with_reducible refine (glisterlaw04_list.calls _ _ l1 t554 _ ?side1 ?side2 A33.1).mono ?_); (case side1 => repeat (first | exact (Kd.C_below HR1.1 HB.1) )); (case side2 => exact HC1.1); rintro e w64 ⟨v555, rfl, ho0, hb⟩; refine ⟨_, rfl, ?_⟩; replace HO550 := Sd.mk (Kd.R_below (by (with_reducible repeat (fail)); exact HO550.1) hb); have HO556 := Sd.mk (Kd.R_lower (Kd.R_new' (Kd.R_new' (Kd.R_new' ho0 (Kd.R_lt (by (with_reducible repeat (fail)); exact HO538.1))) (Kd.R_lt (by (with_reducible repeat (fail)); exact HO545.1))) (Kd.R_lt (by (with_reducible repeat (fail)); exact HO553.1))) (bZ (by repeat (first | (with_reducible first | exact HB.1 ) )))); replace HO538 := Sd.mk (Kd.R_elder' (by (with_reducible repeat (fail)); exact HO538.1) (Kd.R_base ho0) hb); replace HO545 := Sd.mk (Kd.R_elder' (by (with_reducible repeat (fail)); exact HO545.1) (Kd.R_base ho0) hb); replace HO553 := Sd.mk (Kd.R_elder' (by (with_reducible repeat (fail)); exact HO553.1) (Kd.R_base ho0) hb); replace BK529 := Sd.mk (kB (g := gb529) (o := .cells #[.int .i64 a0_0, .int .i64 a0_1, .slice A0_2 l0_2.length c0_2, .slice A0_3 l0_3.length c0_3] 25 (0, 0)) (by (with_reducible repeat (fail)); exact BK529.1) hb); replace HB := Sd.mk (bT (by repeat (first | (with_reducible first | exact HB.1 ) )) hb); (try clear hb); (try clear ho0); obtain ⟨Ao65, co65, eo65⟩ := Kd.R_slice HO550.1; subst eo65; obtain ⟨Ao66, co66, eo66⟩ := Kd.R_slice HO553.1; subst eo66; obtain ⟨Ao67, co67, eo67⟩ := Kd.R_slice HO556.1; subst eo67; (try clear A33)) | ((with_reducible refine gate_callee (f := 20) rfl ?_); refine goesL_ (some 81) rfl rfl Try.func20 (by kernel_rfl) rfl #[.agg #[.int .i64 t546, .int .i64 t547, .slice Ao65 t548.length co65, .slice Ao66 t551.length co66], .int .i64 (Int.tmod (wrap64 (a2)) (l0_3.length : Int)), .slice Ao67 t554.length co67] rfl (by (try simp only [List.map_toArray, List.map_cons, List.map_nil]); first | rfl ) ?_; (with_reducible refine (cipher_Code.calls kj5 t546 t547 _ _ t548 _ _ t551 (Int.tmod (wrap64 (a2)) (l0_3.length : Int)) _ _ t554 t557 t560 _ ?side1 ?side2 ?side3 ?side4 ?side5 ?side6 A34.1).mono ?_); (case side1 => repeat (first | exact (Kd.R_reads' HO550.1).2.2 )); (case side2 => exact (Kd.R_reads' HO550.1).2.1); (case side3 => repeat (first | exact (Kd.R_reads' HO553.1).2.2 )); (case side4 => exact (Kd.R_reads' HO553.1).2.1); (case side5 => repeat (first | exact (Kd.R_reads' HO556.1).2.2 )); (case side6 => exact (Kd.R_reads' HO556.1).2.1); rintro e w68 ⟨v558, rfl, ho0, hb⟩; refine ⟨_, rfl, ?_⟩; replace HO550 := Sd.mk (Kd.R_below (by (with_reducible repeat (fail)); exact HO550.1) hb); have HO559 := Sd.mk (Kd.R_lower (Kd.R_new' (Kd.R_new' (Kd.R_new' (Kd.R_new' ho0 (Kd.R_lt (by (with_reducible repeat (fail)); exact HO538.1))) (Kd.R_lt (by (with_reducible repeat (fail)); exact HO545.1))) (Kd.R_lt (by (with_reducible repeat (fail)); exact HO553.1))) (Kd.R_lt (by (with_reducible repeat (fail)); exact HO556.1))) (bZ (by repeat (first | (with_reducible first | exact HB.1 ) )))); replace HO538 := Sd.mk (Kd.R_elder' (by (with_reducible repeat (fail)); exact HO538.1) (Kd.R_base ho0) hb); replace HO545 := Sd.mk (Kd.R_elder' (by (with_reducible repeat (fail)); exact HO545.1) (Kd.R_base ho0) hb); replace HO553 := Sd.mk (Kd.R_elder' (by (with_reducible repeat (fail)); exact HO553.1) (Kd.R_base ho0) hb); replace HO556 := Sd.mk (Kd.R_elder' (by (with_reducible repeat (fail)); exact HO556.1) (Kd.R_base ho0) hb); replace BK529 := Sd.mk (kB (g := gb529) (o := .cells #[.int .i64 a0_0, .int .i64 a0_1, .slice A0_2 l0_2.length c0_2, .slice A0_3 l0_3.length c0_3] 25 (0, 0)) (by (with_reducible repeat (fail)); exact BK529.1) hb); replace HB := Sd.mk (bT (by repeat (first | (with_reducible first | exact HB.1 ) )) hb); (try clear hb); (try clear ho0); have z_69_0 : w68.cell? ⟨gb529, 0, none⟩ = some (.int .i64 a0_0) := (kC BK529.1 0).trans rfl; have z_69_1 : w68.cell? ⟨gb529, 1, none⟩ = some (.int .i64 a0_1) := (kC BK529.1 1).trans rfl; have z_69_2 : w68.cell? ⟨gb529, 2, none⟩ = some (.slice A0_2 l0_2.length c0_2) := (kC BK529.1 2).trans rfl; have z_69_3 : w68.cell? ⟨gb529, 3, none⟩ = some (.slice A0_3 l0_3.length c0_3) := (kC BK529.1 3).trans rfl; (try clear A34)) | ((with_reducible refine gate_callee (f := 19) rfl ?_); refine goesL_ (some 86) rfl rfl Try.func19 (by kernel_rfl) rfl #[.agg #[.int .i64 a0_0, .int .i64 a0_1, .slice A0_2 l0_2.length c0_2, .slice A0_3 l0_3.length c0_3]] rfl (by (try simp only [List.map_toArray, List.map_cons, List.map_nil]); first | rfl ) ?_; (with_reducible refine (glisterlaw04_Book.calls kj5 a0_0 a0_1 _ _ l0_2 _ _ l0_3 t561 t562 t563 t566 _ ?side1 ?side2 ?side3 ?side4 A35.1).mono ?_); (case side1 => repeat (first | exact (Kd.C_below HR0_2.1 HB.1) )); (case side2 => exact HC0_2.1); (case side3 => repeat (first | exact (Kd.C_below HR0_3.1 HB.1) )); (case side4 => exact HC0_3.1); rintro e w70 ⟨v564, v567, rfl, ho0, ho1, hb⟩; refine ⟨_, rfl, ?_⟩; have HO565 := Sd.mk (Kd.R_lower (Kd.R_new' ho0 (Kd.R_lt (by (with_reducible repeat (fail)); exact HO550.1))) (bZ (by repeat (first | (with_reducible first | exact HB.1 ) )))); replace HO550 := Sd.mk (Kd.R_elder' (by (with_reducible repeat (fail)); exact HO550.1) (Kd.R_base ho0) hb); have HO568 := Sd.mk (Kd.R_lower (Kd.R_new' (Kd.R_new' (Kd.R_new' (Kd.R_new' (Kd.R_new' ho1 (Kd.R_lt (by (with_reducible repeat (fail)); exact HO538.1))) (Kd.R_lt (by (with_reducible repeat (fail)); exact HO545.1))) (Kd.R_lt (by (with_reducible repeat (fail)); exact HO553.1))) (Kd.R_lt (by (with_reducible repeat (fail)); exact HO556.1))) (Kd.R_lt (by (with_reducible repeat (fail)); exact HO559.1))) (bZ (by repeat (first | (with_reducible first | exact HB.1 ) )))); replace HO538 := Sd.mk (Kd.R_elder' (by (with_reducible repeat (fail)); exact HO538.1) (Kd.R_base ho1) hb); replace HO545 := Sd.mk (Kd.R_elder' (by (with_reducible repeat (fail)); exact HO545.1) (Kd.R_base ho1) hb); replace HO553 := Sd.mk (Kd.R_elder' (by (with_reducible repeat (fail)); exact HO553.1) (Kd.R_base ho1) hb); replace HO556 := Sd.mk (Kd.R_elder' (by (with_reducible repeat (fail)); exact HO556.1) (Kd.R_base ho1) hb); replace HO559 := Sd.mk (Kd.R_elder' (by (with_reducible repeat (fail)); exact HO559.1) (Kd.R_base ho1) hb); replace BK529 := Sd.mk (kB (g := gb529) (o := .cells #[.int .i64 a0_0, .int .i64 a0_1, .slice A0_2 l0_2.length c0_2, .slice A0_3 l0_3.length c0_3] 25 (0, 0)) (by (with_reducible repeat (fail)); exact BK529.1) hb); replace HB := Sd.mk (bT (by repeat (first | (with_reducible first | exact HB.1 ) )) hb); (try clear hb); (try clear ho0); (try clear ho1); obtain ⟨Ao71, co71, eo71⟩ := Kd.R_slice HO545.1; subst eo71; (try clear A35)) | ((with_reducible refine gate_callee (f := 21) rfl ?_); refine goesL_ (some 89) rfl rfl Try.func21 (by kernel_rfl) rfl #[.slice Ao71 y543.length co71] rfl (by (try simp only [List.map_toArray, List.map_cons, List.map_nil]); first | rfl ) ?_; (with_reducible refine (glisterlaw04_list.calls _ _ y543 t569 _ ?side1 ?side2 A36.1).mono ?_); (case side1 => repeat (first | exact (Kd.R_reads' HO545.1).2.2 )); (case side2 => exact (Kd.R_reads' HO545.1).2.1); rintro e w72 ⟨v570, rfl, ho0, hb⟩; refine ⟨_, rfl, ?_⟩; replace HO550 := Sd.mk (Kd.R_below (by (with_reducible repeat (fail)); exact HO550.1) hb); replace HO565 := Sd.mk (Kd.R_below (by (with_reducible repeat (fail)); exact HO565.1) hb); have HO571 := Sd.mk (Kd.R_lower (Kd.R_new' (Kd.R_new' (Kd.R_new' (Kd.R_new' (Kd.R_new' (Kd.R_new' ho0 (Kd.R_lt (by (with_reducible repeat (fail)); exact HO538.1))) (Kd.R_lt (by (with_reducible repeat (fail)); exact HO545.1))) (Kd.R_lt (by (with_reducible repeat (fail)); exact HO553.1))) (Kd.R_lt (by (with_reducible repeat (fail)); exact HO556.1))) (Kd.R_lt (by (with_reducible repeat (fail)); exact HO559.1))) (Kd.R_lt (by (with_reducible repeat (fail)); exact HO568.1))) (bZ (by repeat (first | (with_reducible first | exact HB.1 ) )))); replace HO538 := Sd.mk (Kd.R_elder' (by (with_reducible repeat (fail)); exact HO538.1) (Kd.R_base ho0) hb); replace HO545 := Sd.mk (Kd.R_elder' (by (with_reducible repeat (fail)); exact HO545.1) (Kd.R_base ho0) hb); replace HO553 := Sd.mk (Kd.R_elder' (by (with_reducible repeat (fail)); exact HO553.1) (Kd.R_base ho0) hb); replace HO556 := Sd.mk (Kd.R_elder' (by (with_reducible repeat (fail)); exact HO556.1) (Kd.R_base ho0) hb); replace HO559 := Sd.mk (Kd.R_elder' (by (with_reducible repeat (fail)); exact HO559.1) (Kd.R_base ho0) hb); replace HO568 := Sd.mk (Kd.R_elder' (by (with_reducible repeat (fail)); exact HO568.1) (Kd.R_base ho0) hb); replace BK529 := Sd.mk (kB (g := gb529) (o := .cells #[.int .i64 a0_0, .int .i64 a0_1, .slice A0_2 l0_2.length c0_2, .slice A0_3 l0_3.length c0_3] 25 (0, 0)) (by (with_reducible repeat (fail)); exact BK529.1) hb); replace HB := Sd.mk (bT (by repeat (first | (with_reducible first | exact HB.1 ) )) hb); (try clear hb); (try clear ho0); obtain ⟨Ao73, co73, eo73⟩ := Kd.R_slice HO565.1; subst eo73; obtain ⟨Ao74, co74, eo74⟩ := Kd.R_slice HO568.1; subst eo74; obtain ⟨Ao75, co75, eo75⟩ := Kd.R_slice HO571.1; subst eo75; (try clear A36)) | ((with_reducible refine gate_callee (f := 20) rfl ?_); refine goesL_ (some 90) rfl rfl Try.func20 (by kernel_rfl) rfl #[.agg #[.int .i64 t561, .int .i64 t562, .slice Ao73 t563.length co73, .slice Ao74 t566.length co74], .int .i64 (Int.tmod (wrap64 (a2)) (l0_3.length : Int)), .slice Ao75 t569.length co75] rfl (by (try simp only [List.map_toArray, List.map_cons, List.map_nil]); first | rfl ) ?_; (with_reducible refine (cipher_Code.calls kj5 t561 t562 _ _ t563 _ _ t566 (Int.tmod (wrap64 (a2)) (l0_3.length : Int)) _ _ t569 t572 t575 _ ?side1 ?side2 ?side3 ?side4 ?side5 ?side6 A37.1).mono ?_); (case side1 => repeat (first | exact (Kd.R_reads' HO565.1).2.2 )); (case side2 => exact (Kd.R_reads' HO565.1).2.1); (case side3 => repeat (first | exact (Kd.R_reads' HO568.1).2.2 )); (case side4 => exact (Kd.R_reads' HO568.1).2.1); (case side5 => repeat (first | exact (Kd.R_reads' HO571.1).2.2 )); (case side6 => exact (Kd.R_reads' HO571.1).2.1); rintro e w76 ⟨v573, rfl, ho0, hb⟩; refine ⟨_, rfl, ?_⟩; replace HO550 := Sd.mk (Kd.R_below (by (with_reducible repeat (fail)); exact HO550.1) hb); replace HO565 := Sd.mk (Kd.R_below (by (with_reducible repeat (fail)); exact HO565.1) hb); have HO574 := Sd.mk (Kd.R_lower (Kd.R_new' (Kd.R_new' (Kd.R_new' (Kd.R_new' (Kd.R_new' (Kd.R_new' (Kd.R_new' ho0 (Kd.R_lt (by (with_reducible repeat (fail)); exact HO538.1))) (Kd.R_lt (by (with_reducible repeat (fail)); exact HO545.1))) (Kd.R_lt (by (with_reducible repeat (fail)); exact HO553.1))) (Kd.R_lt (by (with_reducible repeat (fail)); exact HO556.1))) (Kd.R_lt (by (with_reducible repeat (fail)); exact HO559.1))) (Kd.R_lt (by (with_reducible repeat (fail)); exact HO568.1))) (Kd.R_lt (by (with_reducible repeat (fail)); exact HO571.1))) (bZ (by repeat (first | (with_reducible first | exact HB.1 ) )))); replace HO538 := Sd.mk (Kd.R_elder' (by (with_reducible repeat (fail)); exact HO538.1) (Kd.R_base ho0) hb); replace HO545 := Sd.mk (Kd.R_elder' (by (with_reducible repeat (fail)); exact HO545.1) (Kd.R_base ho0) hb); replace HO553 := Sd.mk (Kd.R_elder' (by (with_reducible repeat (fail)); exact HO553.1) (Kd.R_base ho0) hb); replace HO556 := Sd.mk (Kd.R_elder' (by (with_reducible repeat (fail)); exact HO556.1) (Kd.R_base ho0) hb); replace HO559 := Sd.mk (Kd.R_elder' (by (with_reducible repeat (fail)); exact HO559.1) (Kd.R_base ho0) hb); replace HO568 := Sd.mk (Kd.R_elder' (by (with_reducible repeat (fail)); exact HO568.1) (Kd.R_base ho0) hb); replace HO571 := Sd.mk (Kd.R_elder' (by (with_reducible repeat (fail)); exact HO571.1) (Kd.R_base ho0) hb); replace BK529 := Sd.mk (kB (g := gb529) (o := .cells #[.int .i64 a0_0, .int .i64 a0_1, .slice A0_2 l0_2.length c0_2, .slice A0_3 l0_3.length c0_3] 25 (0, 0)) (by (with_reducible repeat (fail)); exact BK529.1) hb); replace HB := Sd.mk (bT (by repeat (first | (with_reducible first | exact HB.1 ) )) hb); (try clear hb); (try clear ho0); have z_77_0 : w76.cell? ⟨gb529, 0, none⟩ = some (.int .i64 a0_0) := (kC BK529.1 0).trans rfl; have z_77_1 : w76.cell? ⟨gb529, 1, none⟩ = some (.int .i64 a0_1) := (kC BK529.1 1).trans rfl; have z_77_2 : w76.cell? ⟨gb529, 2, none⟩ = some (.slice A0_2 l0_2.length c0_2) := (kC BK529.1 2).trans rfl; have z_77_3 : w76.cell? ⟨gb529, 3, none⟩ = some (.slice A0_3 l0_3.length c0_3) := (kC BK529.1 3).trans rfl; (try clear A37)) | ((with_reducible refine gate_callee (f := 19) rfl ?_); refine goesL_ (some 95) rfl rfl Try.func19 (by kernel_rfl) rfl #[.agg #[.int .i64 a0_0, .int .i64 a0_1, .slice A0_2 l0_2.length c0_2, .slice A0_3 l0_3.length c0_3]] rfl (by (try simp only [List.map_toArray, List.map_cons, List.map_nil]); first | rfl ) ?_; (with_reducible refine (glisterlaw04_Book.calls kj5 a0_0 a0_1 _ _ l0_2 _ _ l0_3 t576 t577 t578 t581 _ ?side1 ?side2 ?side3 ?side4 A38.1).mono ?_); (case side1 => repeat (first | exact (Kd.C_below HR0_2.1 HB.1) )); (case side2 => exact HC0_2.1); (case side3 => repeat (first | exact (Kd.C_below HR0_3.1 HB.1) )); (case side4 => exact HC0_3.1); rintro e w78 ⟨v579, v582, rfl, ho0, ho1, hb⟩; refine ⟨_, rfl, ?_⟩; have HO580 := Sd.mk (Kd.R_lower (Kd.R_new' (Kd.R_new' ho0 (Kd.R_lt (by (with_reducible repeat (fail)); exact HO550.1))) (Kd.R_lt (by (with_reducible repeat (fail)); exact HO565.1))) (bZ (by repeat (first | (with_reducible first | exact HB.1 ) )))); replace HO550 := Sd.mk (Kd.R_elder' (by (with_reducible repeat (fail)); exact HO550.1) (Kd.R_base ho0) hb); replace HO565 := Sd.mk (Kd.R_elder' (by (with_reducible repeat (fail)); exact HO565.1) (Kd.R_base ho0) hb); have HO583 := Sd.mk (Kd.R_lower (Kd.R_new' (Kd.R_new' (Kd.R_new' (Kd.R_new' (Kd.R_new' (Kd.R_new' (Kd.R_new' (Kd.R_new' ho1 (Kd.R_lt (by (with_reducible repeat (fail)); exact HO538.1))) (Kd.R_lt (by (with_reducible repeat (fail)); exact HO545.1))) (Kd.R_lt (by (with_reducible repeat (fail)); exact HO553.1))) (Kd.R_lt (by (with_reducible repeat (fail)); exact HO556.1))) (Kd.R_lt (by (with_reducible repeat (fail)); exact HO559.1))) (Kd.R_lt (by (with_reducible repeat (fail)); exact HO568.1))) (Kd.R_lt (by (with_reducible repeat (fail)); exact HO571.1))) (Kd.R_lt (by (with_reducible repeat (fail)); exact HO574.1))) (bZ (by repeat (first | (with_reducible first | exact HB.1 ) )))); replace HO538 := Sd.mk (Kd.R_elder' (by (with_reducible repeat (fail)); exact HO538.1) (Kd.R_base ho1) hb); replace HO545 := Sd.mk (Kd.R_elder' (by (with_reducible repeat (fail)); exact HO545.1) (Kd.R_base ho1) hb); replace HO553 := Sd.mk (Kd.R_elder' (by (with_reducible repeat (fail)); exact HO553.1) (Kd.R_base ho1) hb); replace HO556 := Sd.mk (Kd.R_elder' (by (with_reducible repeat (fail)); exact HO556.1) (Kd.R_base ho1) hb); replace HO559 := Sd.mk (Kd.R_elder' (by (with_reducible repeat (fail)); exact HO559.1) (Kd.R_base ho1) hb); replace HO568 := Sd.mk (Kd.R_elder' (by (with_reducible repeat (fail)); exact HO568.1) (Kd.R_base ho1) hb); replace HO571 := Sd.mk (Kd.R_elder' (by (with_reducible repeat (fail)); exact HO571.1) (Kd.R_base ho1) hb); replace HO574 := Sd.mk (Kd.R_elder' (by (with_reducible repeat (fail)); exact HO574.1) (Kd.R_base ho1) hb); replace BK529 := Sd.mk (kB (g := gb529) (o := .cells #[.int .i64 a0_0, .int .i64 a0_1, .slice A0_2 l0_2.length c0_2, .slice A0_3 l0_3.length c0_3] 25 (0, 0)) (by (with_reducible repeat (fail)); exact BK529.1) hb); replace HB := Sd.mk (bT (by repeat (first | (with_reducible first | exact HB.1 ) )) hb); (try clear hb); (try clear ho0); (try clear ho1); obtain ⟨Ao79, co79, eo79⟩ := Kd.R_slice HO580.1; subst eo79; obtain ⟨Ao80, co80, eo80⟩ := Kd.R_slice HO583.1; subst eo80; obtain ⟨Ao81, co81, eo81⟩ := Kd.R_slice HO559.1; subst eo81; (try clear A38)) | ((with_reducible refine gate_callee (f := 27) rfl ?_); refine goesL_ (some 98) rfl rfl Try.func27 (by kernel_rfl) rfl #[.agg #[.int .i64 t576, .int .i64 t577, .slice Ao79 t578.length co79, .slice Ao80 t581.length co80], .int .i64 (Int.tmod (wrap64 (a2)) (l0_3.length : Int)), .slice Ao81 t557.length co81] rfl (by (try simp only [List.map_toArray, List.map_cons, List.map_nil]); first | rfl ) ?_; (with_reducible refine (cipher_Decode.calls kj5 t576 t577 _ _ t578 _ _ t581 (Int.tmod (wrap64 (a2)) (l0_3.length : Int)) _ _ t557 t584 t587 t590 _ ?side1 ?side2 ?side3 ?side4 ?side5 ?side6 A39.1).mono ?_); (case side1 => repeat (first | exact (Kd.R_reads' HO580.1).2.2 )); (case side2 => exact (Kd.R_reads' HO580.1).2.1); (case side3 => repeat (first | exact (Kd.R_reads' HO583.1).2.2 )); (case side4 => exact (Kd.R_reads' HO583.1).2.1); (case side5 => repeat (first | exact (Kd.R_reads' HO559.1).2.2 )); (case side6 => exact (Kd.R_reads' HO559.1).2.1); rintro e w82 ⟨v585, v588, rfl, ho0, ho1, hb⟩; refine ⟨_, rfl, ?_⟩; have n0_ := Sd.mk (Kd.R_mono (Kd.R_told (Kd.R_told (Kd.R_old (by (with_reducible repeat (fail)); exact HO538.1) hb) (Kd.R_base ho0)) (Kd.R_base ho1)) (fun _ h_ => h_.1)); have n1_ := Sd.mk (Kd.R_mono (Kd.R_told (Kd.R_told (Kd.R_old (by (with_reducible repeat (fail)); exact HO545.1) hb) (Kd.R_base ho0)) (Kd.R_base ho1)) (fun _ h_ => h_.1)); have n2_ := Sd.mk (Kd.R_below (by (with_reducible repeat (fail)); exact HO550.1) hb); have n3_ := Sd.mk (Kd.R_mono (Kd.R_told (Kd.R_told (Kd.R_old (by (with_reducible repeat (fail)); exact HO553.1) hb) (Kd.R_base ho0)) (Kd.R_base ho1)) (fun _ h_ => h_.1)); have n4_ := Sd.mk (Kd.R_mono (Kd.R_told (Kd.R_told (Kd.R_old (by (with_reducible repeat (fail)); exact HO556.1) hb) (Kd.R_base ho0)) (Kd.R_base ho1)) (fun _ h_ => h_.1)); have n5_ := Sd.mk (Kd.R_mono (Kd.R_told (Kd.R_told (Kd.R_old (by (with_reducible repeat (fail)); exact HO559.1) hb) (Kd.R_base ho0)) (Kd.R_base ho1)) (fun _ h_ => h_.1)); have n6_ := Sd.mk (Kd.R_below (by (with_reducible repeat (fail)); exact HO565.1) hb); have n7_ := Sd.mk (Kd.R_mono (Kd.R_told (Kd.R_told (Kd.R_old (by (with_reducible repeat (fail)); exact HO568.1) hb) (Kd.R_base ho0)) (Kd.R_base ho1)) (fun _ h_ => h_.1)); have n8_ := Sd.mk (Kd.R_mono (Kd.R_told (Kd.R_told (Kd.R_old (by (with_reducible repeat (fail)); exact HO571.1) hb) (Kd.R_base ho0)) (Kd.R_base ho1)) (fun _ h_ => h_.1)); have n9_ := Sd.mk (Kd.R_mono (Kd.R_told (Kd.R_told (Kd.R_old (by (with_reducible repeat (fail)); exact HO574.1) hb) (Kd.R_base ho0)) (Kd.R_base ho1)) (fun _ h_ => h_.1)); have n10_ := Sd.mk (Kd.R_below (by (with_reducible repeat (fail)); exact HO580.1) hb); have n11_ := Sd.mk (Kd.R_mono (Kd.R_told (Kd.R_told (Kd.R_old (by (with_reducible repeat (fail)); exact HO583.1) hb) (Kd.R_base ho0)) (Kd.R_base ho1)) (fun _ h_ => h_.1)); have n12_ := Sd.mk (Kd.R_lower (Kd.R_new' (Kd.R_new' (Kd.R_new' (Kd.R_new' (Kd.R_new' (Kd.R_new' (Kd.R_new' (Kd.R_new' (Kd.R_new' ho0 (Kd.R_lt (by (with_reducible repeat (fail)); exact HO538.1))) (Kd.R_lt (by (with_reducible repeat (fail)); exact HO545.1))) (Kd.R_lt (by (with_reducible repeat (fail)); exact HO553.1))) (Kd.R_lt (by (with_reducible repeat (fail)); exact HO556.1))) (Kd.R_lt (by (with_reducible repeat (fail)); exact HO559.1))) (Kd.R_lt (by (with_reducible repeat (fail)); exact HO568.1))) (Kd.R_lt (by (with_reducible repeat (fail)); exact HO571.1))) (Kd.R_lt (by (with_reducible repeat (fail)); exact HO574.1))) (Kd.R_lt (by (with_reducible repeat (fail)); exact HO583.1))) (bZ (by repeat (first | (with_reducible first | exact HB.1 ) )))); have n13_ := Sd.mk (Kd.R_lower (Kd.R_new' (Kd.R_new' (Kd.R_new' (Kd.R_new' (Kd.R_new' (Kd.R_new' (Kd.R_new' (Kd.R_new' (Kd.R_new' ho1 (Kd.R_lt (by (with_reducible repeat (fail)); exact HO538.1))) (Kd.R_lt (by (with_reducible repeat (fail)); exact HO545.1))) (Kd.R_lt (by (with_reducible repeat (fail)); exact HO553.1))) (Kd.R_lt (by (with_reducible repeat (fail)); exact HO556.1))) (Kd.R_lt (by (with_reducible repeat (fail)); exact HO559.1))) (Kd.R_lt (by (with_reducible repeat (fail)); exact HO568.1))) (Kd.R_lt (by (with_reducible repeat (fail)); exact HO571.1))) (Kd.R_lt (by (with_reducible repeat (fail)); exact HO574.1))) (Kd.R_lt (by (with_reducible repeat (fail)); exact HO583.1))) (bZ (by repeat (first | (with_reducible first | exact HB.1 ) )))); have n14_ := Sd.mk (kB (g := gb529) (o := .cells #[.int .i64 a0_0, .int .i64 a0_1, .slice A0_2 l0_2.length c0_2, .slice A0_3 l0_3.length c0_3] 25 (0, 0)) (by (with_reducible repeat (fail)); exact BK529.1) hb); have n15_ := Sd.mk (bT (by repeat (first | (with_reducible first | exact HB.1 ) )) hb); clear HO538; clear HO545; clear HO550; clear HO553; clear HO556; clear HO559; clear HO565; clear HO568; clear HO571; clear HO574; clear HO580; clear HO583; clear BK529; clear HB; have HO538 := n0_; have HO545 := n1_; have HO550 := n2_; have HO553 := n3_; have HO556 := n4_; have HO559 := n5_; have HO565 := n6_; have HO568 := n7_; have HO571 := n8_; have HO574 := n9_; have HO580 := n10_; have HO583 := n11_; have HO586 := n12_; have HO589 := n13_; have BK529 := n14_; have HB := n15_; clear n0_ n1_ n2_ n3_ n4_ n5_ n6_ n7_ n8_ n9_ n10_ n11_ n12_ n13_ n14_ n15_; (try clear hb); (try clear ho0); (try clear ho1); have z_83_0 : w82.cell? ⟨gb529, 0, none⟩ = some (.int .i64 a0_0) := (kC BK529.1 0).trans rfl; have z_83_1 : w82.cell? ⟨gb529, 1, none⟩ = some (.int .i64 a0_1) := (kC BK529.1 1).trans rfl; have z_83_2 : w82.cell? ⟨gb529, 2, none⟩ = some (.slice A0_2 l0_2.length c0_2) := (kC BK529.1 2).trans rfl; have z_83_3 : w82.cell? ⟨gb529, 3, none⟩ = some (.slice A0_3 l0_3.length c0_3) := (kC BK529.1 3).trans rfl; (try clear A39)) | ((with_reducible refine gate_callee (f := 19) rfl ?_); refine goesL_ (some 104) rfl rfl Try.func19 (by kernel_rfl) rfl #[.agg #[.int .i64 a0_0, .int .i64 a0_1, .slice A0_2 l0_2.length c0_2, .slice A0_3 l0_3.length c0_3]] rfl (by (try simp only [List.map_toArray, List.map_cons, List.map_nil]); first | rfl ) ?_; (with_reducible refine (glisterlaw04_Book.calls kj5 a0_0 a0_1 _ _ l0_2 _ _ l0_3 t591 t592 t593 t596 _ ?side1 ?side2 ?side3 ?side4 A40.1).mono ?_); (case side1 => repeat (first | exact (Kd.C_below HR0_2.1 HB.1) )); (case side2 => exact HC0_2.1); (case side3 => repeat (first | exact (Kd.C_below HR0_3.1 HB.1) )); (case side4 => exact HC0_3.1); rintro e w84 ⟨v594, v597, rfl, ho0, ho1, hb⟩; refine ⟨_, rfl, ?_⟩; have n0_ := Sd.mk (Kd.R_elder' (by (with_reducible repeat (fail)); exact HO538.1) (Kd.R_base ho1) hb); have n1_ := Sd.mk (Kd.R_elder' (by (with_reducible repeat (fail)); exact HO545.1) (Kd.R_base ho1) hb); have n2_ := Sd.mk (Kd.R_elder' (by (with_reducible repeat (fail)); exact HO550.1) (Kd.R_base ho0) hb); have n3_ := Sd.mk (Kd.R_elder' (by (with_reducible repeat (fail)); exact HO553.1) (Kd.R_base ho1) hb); have n4_ := Sd.mk (Kd.R_elder' (by (with_reducible repeat (fail)); exact HO556.1) (Kd.R_base ho1) hb); have n5_ := Sd.mk (Kd.R_elder' (by (with_reducible repeat (fail)); exact HO559.1) (Kd.R_base ho1) hb); have n6_ := Sd.mk (Kd.R_elder' (by (with_reducible repeat (fail)); exact HO565.1) (Kd.R_base ho0) hb); have n7_ := Sd.mk (Kd.R_elder' (by (with_reducible repeat (fail)); exact HO568.1) (Kd.R_base ho1) hb); have n8_ := Sd.mk (Kd.R_elder' (by (with_reducible repeat (fail)); exact HO571.1) (Kd.R_base ho1) hb); have n9_ := Sd.mk (Kd.R_elder' (by (with_reducible repeat (fail)); exact HO574.1) (Kd.R_base ho1) hb); have n10_ := Sd.mk (Kd.R_elder' (by (with_reducible repeat (fail)); exact HO580.1) (Kd.R_base ho0) hb); have n11_ := Sd.mk (Kd.R_elder' (by (with_reducible repeat (fail)); exact HO583.1) (Kd.R_base ho1) hb); have n12_ := Sd.mk (Kd.R_elder' (by (with_reducible repeat (fail)); exact HO586.1) (Kd.R_base ho1) hb); have n13_ := Sd.mk (Kd.R_elder' (by (with_reducible repeat (fail)); exact HO589.1) (Kd.R_base ho1) hb); have n14_ := Sd.mk (Kd.R_lower (Kd.R_new' (Kd.R_new' (Kd.R_new' ho0 (Kd.R_lt (by (with_reducible repeat (fail)); exact HO550.1))) (Kd.R_lt (by (with_reducible repeat (fail)); exact HO565.1))) (Kd.R_lt (by (with_reducible repeat (fail)); exact HO580.1))) (bZ (by repeat (first | (with_reducible first | exact HB.1 ) )))); have n15_ := Sd.mk (Kd.R_lower (Kd.R_new' (Kd.R_new' (Kd.R_new' (Kd.R_new' (Kd.R_new' (Kd.R_new' (Kd.R_new' (Kd.R_new' (Kd.R_new' (Kd.R_new' (Kd.R_new' ho1 (Kd.R_lt (by (with_reducible repeat (fail)); exact HO538.1))) (Kd.R_lt (by (with_reducible repeat (fail)); exact HO545.1))) (Kd.R_lt (by (with_reducible repeat (fail)); exact HO553.1))) (Kd.R_lt (by (with_reducible repeat (fail)); exact HO556.1))) (Kd.R_lt (by (with_reducible repeat (fail)); exact HO559.1))) (Kd.R_lt (by (with_reducible repeat (fail)); exact HO568.1))) (Kd.R_lt (by (with_reducible repeat (fail)); exact HO571.1))) (Kd.R_lt (by (with_reducible repeat (fail)); exact HO574.1))) (Kd.R_lt (by (with_reducible repeat (fail)); exact HO583.1))) (Kd.R_lt (by (with_reducible repeat (fail)); exact HO586.1))) (Kd.R_lt (by (with_reducible repeat (fail)); exact HO589.1))) (bZ (by repeat (first | (with_reducible first | exact HB.1 ) )))); have n16_ := Sd.mk (kB (g := gb529) (o := .cells #[.int .i64 a0_0, .int .i64 a0_1, .slice A0_2 l0_2.length c0_2, .slice A0_3 l0_3.length c0_3] 25 (0, 0)) (by (with_reducible repeat (fail)); exact BK529.1) hb); have n17_ := Sd.mk (bT (by repeat (first | (with_reducible first | exact HB.1 ) )) hb); clear HO538; clear HO545; clear HO550; clear HO553; clear HO556; clear HO559; clear HO565; clear HO568; clear HO571; clear HO574; clear HO580; clear HO583; clear HO586; clear HO589; clear BK529; clear HB; have HO538 := n0_; have HO545 := n1_; have HO550 := n2_; have HO553 := n3_; have HO556 := n4_; have HO559 := n5_; have HO565 := n6_; have HO568 := n7_; have HO571 := n8_; have HO574 := n9_; have HO580 := n10_; have HO583 := n11_; have HO586 := n12_; have HO589 := n13_; have HO595 := n14_; have HO598 := n15_; have BK529 := n16_; have HB := n17_; clear n0_ n1_ n2_ n3_ n4_ n5_ n6_ n7_ n8_ n9_ n10_ n11_ n12_ n13_ n14_ n15_ n16_ n17_; (try clear hb); (try clear ho0); (try clear ho1); obtain ⟨Ao85, co85, eo85⟩ := Kd.R_slice HO595.1; subst eo85; obtain ⟨Ao86, co86, eo86⟩ := Kd.R_slice HO598.1; subst eo86; obtain ⟨Ao87, co87, eo87⟩ := Kd.R_slice HO574.1; subst eo87; (try clear A40)) | ((with_reducible refine gate_callee (f := 27) rfl ?_); refine goesL_ (some 107) rfl rfl Try.func27 (by kernel_rfl) rfl #[.agg #[.int .i64 t591, .int .i64 t592, .slice Ao85 t593.length co85, .slice Ao86 t596.length co86], .int .i64 (Int.tmod (wrap64 (a2)) (l0_3.length : Int)), .slice Ao87 t572.length co87] rfl (by (try simp only [List.map_toArray, List.map_cons, List.map_nil]); first | rfl ) ?_; (with_reducible refine (cipher_Decode.calls kj5 t591 t592 _ _ t593 _ _ t596 (Int.tmod (wrap64 (a2)) (l0_3.length : Int)) _ _ t572 t599 t602 t605 _ ?side1 ?side2 ?side3 ?side4 ?side5 ?side6 A41.1).mono ?_); (case side1 => repeat (first | exact (Kd.R_reads' HO595.1).2.2 )); (case side2 => exact (Kd.R_reads' HO595.1).2.1); (case side3 => repeat (first | exact (Kd.R_reads' HO598.1).2.2 )); (case side4 => exact (Kd.R_reads' HO598.1).2.1); (case side5 => repeat (first | exact (Kd.R_reads' HO574.1).2.2 )); (case side6 => exact (Kd.R_reads' HO574.1).2.1); rintro e w88 ⟨v600, v603, rfl, ho0, ho1, hb⟩; refine ⟨_, rfl, ?_⟩; have n0_ := Sd.mk (Kd.R_mono (Kd.R_told (Kd.R_told (Kd.R_old (by (with_reducible repeat (fail)); exact HO538.1) hb) (Kd.R_base ho0)) (Kd.R_base ho1)) (fun _ h_ => h_.1)); have n1_ := Sd.mk (Kd.R_mono (Kd.R_told (Kd.R_told (Kd.R_old (by (with_reducible repeat (fail)); exact HO545.1) hb) (Kd.R_base ho0)) (Kd.R_base ho1)) (fun _ h_ => h_.1)); have n2_ := Sd.mk (Kd.R_below (by (with_reducible repeat (fail)); exact HO550.1) hb); have n3_ := Sd.mk (Kd.R_mono (Kd.R_told (Kd.R_told (Kd.R_old (by (with_reducible repeat (fail)); exact HO553.1) hb) (Kd.R_base ho0)) (Kd.R_base ho1)) (fun _ h_ => h_.1)); have n4_ := Sd.mk (Kd.R_mono (Kd.R_told (Kd.R_told (Kd.R_old (by (with_reducible repeat (fail)); exact HO556.1) hb) (Kd.R_base ho0)) (Kd.R_base ho1)) (fun _ h_ => h_.1)); have n5_ := Sd.mk (Kd.R_mono (Kd.R_told (Kd.R_told (Kd.R_old (by (with_reducible repeat (fail)); exact HO559.1) hb) (Kd.R_base ho0)) (Kd.R_base ho1)) (fun _ h_ => h_.1)); have n6_ := Sd.mk (Kd.R_below (by (with_reducible repeat (fail)); exact HO565.1) hb); have n7_ := Sd.mk (Kd.R_mono (Kd.R_told (Kd.R_told (Kd.R_old (by (with_reducible repeat (fail)); exact HO568.1) hb) (Kd.R_base ho0)) (Kd.R_base ho1)) (fun _ h_ => h_.1)); have n8_ := Sd.mk (Kd.R_mono (Kd.R_told (Kd.R_told (Kd.R_old (by (with_reducible repeat (fail)); exact HO571.1) hb) (Kd.R_base ho0)) (Kd.R_base ho1)) (fun _ h_ => h_.1)); have n9_ := Sd.mk (Kd.R_mono (Kd.R_told (Kd.R_told (Kd.R_old (by (with_reducible repeat (fail)); exact HO574.1) hb) (Kd.R_base ho0)) (Kd.R_base ho1)) (fun _ h_ => h_.1)); have n10_ := Sd.mk (Kd.R_below (by (with_reducible repeat (fail)); exact HO580.1) hb); have n11_ := Sd.mk (Kd.R_mono (Kd.R_told (Kd.R_told (Kd.R_old (by (with_reducible repeat (fail)); exact HO583.1) hb) (Kd.R_base ho0)) (Kd.R_base ho1)) (fun _ h_ => h_.1)); have n12_ := Sd.mk (Kd.R_mono (Kd.R_told (Kd.R_told (Kd.R_old (by (with_reducible repeat (fail)); exact HO586.1) hb) (Kd.R_base ho0)) (Kd.R_base ho1)) (fun _ h_ => h_.1)); have n13_ := Sd.mk (Kd.R_mono (Kd.R_told (Kd.R_told (Kd.R_old (by (with_reducible repeat (fail)); exact HO589.1) hb) (Kd.R_base ho0)) (Kd.R_base ho1)) (fun _ h_ => h_.1)); have n14_ := Sd.mk (Kd.R_below (by (with_reducible repeat (fail)); exact HO595.1) hb); have n15_ := Sd.mk (Kd.R_mono (Kd.R_told (Kd.R_told (Kd.R_old (by (with_reducible repeat (fail)); exact HO598.1) hb) (Kd.R_base ho0)) (Kd.R_base ho1)) (fun _ h_ => h_.1)); have n16_ := Sd.mk (Kd.R_lower (Kd.R_new' (Kd.R_new' (Kd.R_new' (Kd.R_new' (Kd.R_new' (Kd.R_new' (Kd.R_new' (Kd.R_new' (Kd.R_new' (Kd.R_new' (Kd.R_new' (Kd.R_new' ho0 (Kd.R_lt (by (with_reducible repeat (fail)); exact HO538.1))) (Kd.R_lt (by (with_reducible repeat (fail)); exact HO545.1))) (Kd.R_lt (by (with_reducible repeat (fail)); exact HO553.1))) (Kd.R_lt (by (with_reducible repeat (fail)); exact HO556.1))) (Kd.R_lt (by (with_reducible repeat (fail)); exact HO559.1))) (Kd.R_lt (by (with_reducible repeat (fail)); exact HO568.1))) (Kd.R_lt (by (with_reducible repeat (fail)); exact HO571.1))) (Kd.R_lt (by (with_reducible repeat (fail)); exact HO574.1))) (Kd.R_lt (by (with_reducible repeat (fail)); exact HO583.1))) (Kd.R_lt (by (with_reducible repeat (fail)); exact HO586.1))) (Kd.R_lt (by (with_reducible repeat (fail)); exact HO589.1))) (Kd.R_lt (by (with_reducible repeat (fail)); exact HO598.1))) (bZ (by repeat (first | (with_reducible first | exact HB.1 ) )))); have n17_ := Sd.mk (Kd.R_lower (Kd.R_new' (Kd.R_new' (Kd.R_new' (Kd.R_new' (Kd.R_new' (Kd.R_new' (Kd.R_new' (Kd.R_new' (Kd.R_new' (Kd.R_new' (Kd.R_new' (Kd.R_new' ho1 (Kd.R_lt (by (with_reducible repeat (fail)); exact HO538.1))) (Kd.R_lt (by (with_reducible repeat (fail)); exact HO545.1))) (Kd.R_lt (by (with_reducible repeat (fail)); exact HO553.1))) (Kd.R_lt (by (with_reducible repeat (fail)); exact HO556.1))) (Kd.R_lt (by (with_reducible repeat (fail)); exact HO559.1))) (Kd.R_lt (by (with_reducible repeat (fail)); exact HO568.1))) (Kd.R_lt (by (with_reducible repeat (fail)); exact HO571.1))) (Kd.R_lt (by (with_reducible repeat (fail)); exact HO574.1))) (Kd.R_lt (by (with_reducible repeat (fail)); exact HO583.1))) (Kd.R_lt (by (with_reducible repeat (fail)); exact HO586.1))) (Kd.R_lt (by (with_reducible repeat (fail)); exact HO589.1))) (Kd.R_lt (by (with_reducible repeat (fail)); exact HO598.1))) (bZ (by repeat (first | (with_reducible first | exact HB.1 ) )))); have n18_ := Sd.mk (kB (g := gb529) (o := .cells #[.int .i64 a0_0, .int .i64 a0_1, .slice A0_2 l0_2.length c0_2, .slice A0_3 l0_3.length c0_3] 25 (0, 0)) (by (with_reducible repeat (fail)); exact BK529.1) hb); have n19_ := Sd.mk (bT (by repeat (first | (with_reducible first | exact HB.1 ) )) hb); clear HO538; clear HO545; clear HO550; clear HO553; clear HO556; clear HO559; clear HO565; clear HO568; clear HO571; clear HO574; clear HO580; clear HO583; clear HO586; clear HO589; clear HO595; clear HO598; clear BK529; clear HB; have HO538 := n0_; have HO545 := n1_; have HO550 := n2_; have HO553 := n3_; have HO556 := n4_; have HO559 := n5_; have HO565 := n6_; have HO568 := n7_; have HO571 := n8_; have HO574 := n9_; have HO580 := n10_; have HO583 := n11_; have HO586 := n12_; have HO589 := n13_; have HO595 := n14_; have HO598 := n15_; have HO601 := n16_; have HO604 := n17_; have BK529 := n18_; have HB := n19_; clear n0_ n1_ n2_ n3_ n4_ n5_ n6_ n7_ n8_ n9_ n10_ n11_ n12_ n13_ n14_ n15_ n16_ n17_ n18_ n19_; (try clear hb); (try clear ho0); (try clear ho1); obtain ⟨Ao89, co89, eo89⟩ := Kd.R_slice HO589.1; subst eo89; obtain ⟨Ao90, co90, eo90⟩ := Kd.R_slice HO604.1; subst eo90; (try clear A41)) | (go_at_call 25; (with_reducible refine (glisterref04_Same.calls kj5 _ _ t587 _ _ t602 true _ ?side1 ?side2 ?side3 ?side4 A46.1).mono ?_); (case side1 => repeat (first | exact (Kd.R_reads' HO589.1).2.2 )); (case side2 => exact (Kd.R_reads' HO589.1).2.1); (case side3 => repeat (first | exact (Kd.R_reads' HO604.1).2.2 )); (case side4 => exact (Kd.R_reads' HO604.1).2.1); rintro e w' ⟨rfl, ⟨nd, rfl⟩⟩; obtain ⟨Ao91, co91, eo91⟩ := Kd.R_slice HO601.1; subst eo91; (try clear A46)) | (go_at_call 25; (with_reducible refine (glisterref04_Same.calls kj5 _ _ t599 _ _ y543 true _ ?side1 ?side2 ?side3 ?side4 A48.1).mono ?_); (case side1 => repeat (first | exact (Kd.R_reads' HO601.1).2.2 )); (case side2 => exact (Kd.R_reads' HO601.1).2.1); (case side3 => repeat (first | exact (Kd.R_reads' HO545.1).2.2 )); (case side4 => exact (Kd.R_reads' HO545.1).2.1); rintro e w' ⟨rfl, ⟨nd, rfl⟩⟩; (try clear A48)) | (go_at_call 17; (with_reducible refine (glisterlaw04_awake.calls  t608 _ A50.1).mono ?_); rintro e w92 ⟨rfl, hb⟩; have n0_ := Sd.mk (Kd.R_below (by (with_reducible repeat (apply Kd.R_drewN )); exact HO538.1) hb); have n1_ := Sd.mk (Kd.R_below (by (with_reducible repeat (apply Kd.R_drewN )); exact HO545.1) hb); have n2_ := Sd.mk (Kd.R_below (by (with_reducible repeat (apply Kd.R_drewN )); exact HO550.1) hb); have n3_ := Sd.mk (Kd.R_below (by (with_reducible repeat (apply Kd.R_drewN )); exact HO553.1) hb); have n4_ := Sd.mk (Kd.R_below (by (with_reducible repeat (apply Kd.R_drewN )); exact HO556.1) hb); have n5_ := Sd.mk (Kd.R_below (by (with_reducible repeat (apply Kd.R_drewN )); exact HO559.1) hb); have n6_ := Sd.mk (Kd.R_below (by (with_reducible repeat (apply Kd.R_drewN )); exact HO565.1) hb); have n7_ := Sd.mk (Kd.R_below (by (with_reducible repeat (apply Kd.R_drewN )); exact HO568.1) hb); have n8_ := Sd.mk (Kd.R_below (by (with_reducible repeat (apply Kd.R_drewN )); exact HO571.1) hb); have n9_ := Sd.mk (Kd.R_below (by (with_reducible repeat (apply Kd.R_drewN )); exact HO574.1) hb); have n10_ := Sd.mk (Kd.R_below (by (with_reducible repeat (apply Kd.R_drewN )); exact HO580.1) hb); have n11_ := Sd.mk (Kd.R_below (by (with_reducible repeat (apply Kd.R_drewN )); exact HO583.1) hb); have n12_ := Sd.mk (Kd.R_below (by (with_reducible repeat (apply Kd.R_drewN )); exact HO586.1) hb); have n13_ := Sd.mk (Kd.R_below (by (with_reducible repeat (apply Kd.R_drewN )); exact HO589.1) hb); have n14_ := Sd.mk (Kd.R_below (by (with_reducible repeat (apply Kd.R_drewN )); exact HO595.1) hb); have n15_ := Sd.mk (Kd.R_below (by (with_reducible repeat (apply Kd.R_drewN )); exact HO598.1) hb); have n16_ := Sd.mk (Kd.R_below (by (with_reducible repeat (apply Kd.R_drewN )); exact HO601.1) hb); have n17_ := Sd.mk (Kd.R_below (by (with_reducible repeat (apply Kd.R_drewN )); exact HO604.1) hb); have n18_ := Sd.mk (kB (g := gb529) (o := .cells #[.int .i64 a0_0, .int .i64 a0_1, .slice A0_2 l0_2.length c0_2, .slice A0_3 l0_3.length c0_3] 25 (0, 0)) (by (with_reducible repeat (refine kN ?_ _ )); exact BK529.1) hb); have n19_ := Sd.mk (bT (by repeat (first | (with_reducible first | exact HB.1 | apply bN ) )) hb); clear HO538; clear HO545; clear HO550; clear HO553; clear HO556; clear HO559; clear HO565; clear HO568; clear HO571; clear HO574; clear HO580; clear HO583; clear HO586; clear HO589; clear HO595; clear HO598; clear HO601; clear HO604; clear BK529; clear HB; have HO538 := n0_; have HO545 := n1_; have HO550 := n2_; have HO553 := n3_; have HO556 := n4_; have HO559 := n5_; have HO565 := n6_; have HO568 := n7_; have HO571 := n8_; have HO574 := n9_; have HO580 := n10_; have HO583 := n11_; have HO586 := n12_; have HO589 := n13_; have HO595 := n14_; have HO598 := n15_; have HO601 := n16_; have HO604 := n17_; have BK529 := n18_; have HB := n19_; clear n0_ n1_ n2_ n3_ n4_ n5_ n6_ n7_ n8_ n9_ n10_ n11_ n12_ n13_ n14_ n15_ n16_ n17_ n18_ n19_; (try clear hb)))
                 go_ret
                 exact ⟨by first | rfl , by repeat (first | (with_reducible first | exact HB.1 ) )⟩
                ·replace c49 := Bool.eq_false_iff.mpr c49
                 subst c49
                 rw [if_neg (show ¬ (false = true) by decide)] at H
                 exact absurd H (by simp)
               ·replace c47 := Bool.eq_false_iff.mpr c47
                subst c47
                rw [if_neg (show ¬ (false = true) by decide)] at H
                exact absurd H (by simp)
              ·rw [if_neg c45] at H
               exact absurd H (by simp)
             ·rw [if_neg c44] at H
              exact absurd H (by simp)
            ·rw [if_neg c43] at H
             exact absurd H (by simp)
           ·rw [if_neg c42] at H
            exact absurd H (by simp)
          ·rw [if_neg c31] at H
           exact absurd H (by simp)
         ·rw [if_neg c28] at H
          exact absurd H (by simp)
       ·rw [if_neg c25] at H
        exact absurd H (by simp)
      ·rw [if_neg c24] at H
       exact absurd H (by simp)
end Go.Proofs.Ytnidgkmopocdkaa.P
