import Derived.Test.YtnidgkmopocdkaaA5P0
import Derived.Test.YtnidgkmopocdkaaA5P3
import Derived.Test.YtnidgkmopocdkaaA5P4
import Derived.Test.YtnidgkmopocdkaaA5P13
import Derived.Test.YtnidgkmopocdkaaA5P14
import Derived.Test.YtnidgkmopocdkaaA5P17
import Derived.Test.YtnidgkmopocdkaaA5HAwake
namespace Go.Proofs.Ytnidgkmopocdkaa.P
open Go.RowKit Go.Proofs.YtnidgkmopocdkaaW.PrintWords Go.Proofs.YtnidgkmopocdkaaW.PrintLast Go.Proofs.YtnidgkmopocdkaaW.PrintMore
attribute [local go_sem] max2_int min2_int max_two min_two max_three min_three max_four min_four   -- for this text's walks alone
set_option linter.unusedVariables false
set_option linter.unusedSimpArgs false
mutual
def glisterlaw04_CipherBack.j0 : Nat → List Int → List Int → Bool → Int → Int → List (S82) → List Int → Option (Bool)
 | 0, _, _, _, _, _, _, _ => none
 | k + 1, x1, x11, x85, x406000, x406001, x406002, x406003 => if x85 = true then (none) else (glisterlaw04_CipherBack.l0 k x1 x11 ([] : List Int) 0 x406000 x406001 x406002 x406003)
def glisterlaw04_CipherBack.l0 : Nat → List Int → List Int → List Int → Int → Int → Int → List (S82) → List Int → Option (Bool)
 | 0, _, _, _, _, _, _, _, _ => none
 | k + 1, x1, x11, x15, x16, x406000, x406001, x406002, x406003 => if x16 < (x1.length : Int) then (if 0 ≤ x16 then (if (rd x1 x16) < x406001 then (if x15.length < 17592186044416 then (glisterlaw04_CipherBack.l0 k x1 x11 (x15 ++ [rd x1 x16]) (wrap64 (x16 + 1)) x406000 x406001 x406002 x406003) else (none)) else (glisterlaw04_CipherBack.l0 k x1 x11 x15 (wrap64 (x16 + 1)) x406000 x406001 x406002 x406003)) else (none)) else ((glisterref04_Same.f k x11 x15).bind fun t463 => (if t463 = true then ((glisterlaw04_awake.f).bind fun t464 => (some t464)) else (none)))
end
def glisterlaw04_CipherBack.f (k : Nat) (a0_0 : Int) (a0_1 : Int) (l0_2 : List (S82)) (l0_3 : List Int) (l1 : List Int) (a2 : Int) : Option (Bool) := (glisterlaw04_ready.f k a0_0 a0_1 l0_2 l0_3 l1).bind fun t406 => (if t406 = true then (if (l0_3.length : Int) = 0 then (none) else ((glisterlaw04_Book.f k a0_0 a0_1 l0_2 l0_3).bind fun bt408 => ((glisterlaw04_list.f l1).bind fun t416 => ((cipher_Code.f k bt408.1 bt408.2.1 bt408.2.2.1 bt408.2.2.2 (Int.tmod (wrap64 (a2)) (l0_3.length : Int)) t416).bind fun bt419 => ((glisterlaw04_Book.f k a0_0 a0_1 l0_2 l0_3).bind fun bt423 => ((glisterlaw04_list.f bt419.1).bind fun t431 => ((cipher_Decode.f k bt423.1 bt423.2.1 bt423.2.2.1 bt423.2.2.2 (Int.tmod (wrap64 (a2)) (l0_3.length : Int)) t431).bind fun bt434 => ((glisterlaw04_Book.f k a0_0 a0_1 l0_2 l0_3).bind fun bt441 => ((glisterlaw04_list.f bt434.1).bind fun t449 => ((cipher_Code.f k bt441.1 bt441.2.1 bt441.2.2.1 bt441.2.2.2 (Int.tmod (wrap64 (a2)) (l0_3.length : Int)) t449).bind fun bt452 => (if bt419.2 = 0 then (if bt434.2.2 = 0 then (if bt452.2 = 0 then (if (bt419.1.length : Int) = (wrap64 ((l1.length : Int) + 2)) then ((glisterref04_Same.f k bt434.1 l1).bind fun t456 => (if t456 = true then ((glisterref04_Same.f k bt452.1 bt419.1).bind fun t457 => (glisterlaw04_CipherBack.j0 k l1 bt434.2.1 (!t457) a0_0 a0_1 l0_2 l0_3)) else (glisterlaw04_CipherBack.j0 k l1 bt434.2.1 true a0_0 a0_1 l0_2 l0_3))) else (glisterlaw04_CipherBack.j0 k l1 bt434.2.1 true a0_0 a0_1 l0_2 l0_3)) else (glisterlaw04_CipherBack.j0 k l1 bt434.2.1 true a0_0 a0_1 l0_2 l0_3)) else (glisterlaw04_CipherBack.j0 k l1 bt434.2.1 true a0_0 a0_1 l0_2 l0_3)) else (glisterlaw04_CipherBack.j0 k l1 bt434.2.1 true a0_0 a0_1 l0_2 l0_3)))))))))))) else ((glisterlaw04_awake.f).bind fun t407 => (some t407)))
set_option maxHeartbeats 8000000 in
set_option maxRecDepth 100000 in
theorem glisterlaw04_CipherBack.calls (k : Nat) (a0_0 : Int) (a0_1 : Int) (A0_2 : Option Addr) (c0_2 : Nat) (l0_2 : List (S82)) (A0_3 : Option Addr) (c0_3 : Nat) (l0_3 : List Int) (A1 : Option Addr) (c1 : Nat) (l1 : List Int) (a2 : Int) (r : Bool) (w : World) (hr0_2 : Kd.C k82 w A0_2 l0_2.length l0_2) (hc0_2 : l0_2.length ≤ c0_2) (hr0_3 : Kd.C (Kd.int .i64) w A0_3 l0_3.length l0_3) (hc0_3 : l0_3.length ≤ c0_3) (hr1 : Kd.C (Kd.int .i64) w A1 l1.length l1) (hc1 : l1.length ≤ c1) (h : glisterlaw04_CipherBack.f k a0_0 a0_1 l0_2 l0_3 l1 a2 = some r) :
  Calls Try.prog 6 #[.agg #[.int .i64 a0_0, .int .i64 a0_1, .slice A0_2 l0_2.length c0_2, .slice A0_3 l0_3.length c0_3], .slice A1 l1.length c1, .int .u8 a2] w fun e w' => e = .returned (.bool r) ∧ Below w.heap.size w w' := by
 have hu25 := Try.underlying25
 have HR0_2 := Sd.mk hr0_2
 have HC0_2 := Sd.mk hc0_2
 clear hr0_2 hc0_2
 have HR0_3 := Sd.mk hr0_3
 have HC0_3 := Sd.mk hc0_3
 clear hr0_3 hc0_3
 have HR1 := Sd.mk hr1
 have HC1 := Sd.mk hc1
 clear hr1 hc1
 have HB := Sd.mk (Below.refl w.heap.size w)
 have H : ((glisterlaw04_ready.f k a0_0 a0_1 l0_2 l0_3 l1).bind fun t406 => (if t406 = true then (if (l0_3.length : Int) = 0 then (none) else ((glisterlaw04_Book.f k a0_0 a0_1 l0_2 l0_3).bind fun bt408 => ((glisterlaw04_list.f l1).bind fun t416 => ((cipher_Code.f k bt408.1 bt408.2.1 bt408.2.2.1 bt408.2.2.2 (Int.tmod (wrap64 (a2)) (l0_3.length : Int)) t416).bind fun bt419 => ((glisterlaw04_Book.f k a0_0 a0_1 l0_2 l0_3).bind fun bt423 => ((glisterlaw04_list.f bt419.1).bind fun t431 => ((cipher_Decode.f k bt423.1 bt423.2.1 bt423.2.2.1 bt423.2.2.2 (Int.tmod (wrap64 (a2)) (l0_3.length : Int)) t431).bind fun bt434 => ((glisterlaw04_Book.f k a0_0 a0_1 l0_2 l0_3).bind fun bt441 => ((glisterlaw04_list.f bt434.1).bind fun t449 => ((cipher_Code.f k bt441.1 bt441.2.1 bt441.2.2.1 bt441.2.2.2 (Int.tmod (wrap64 (a2)) (l0_3.length : Int)) t449).bind fun bt452 => (if bt419.2 = 0 then (if bt434.2.2 = 0 then (if bt452.2 = 0 then (if (bt419.1.length : Int) = (wrap64 ((l1.length : Int) + 2)) then ((glisterref04_Same.f k bt434.1 l1).bind fun t456 => (if t456 = true then ((glisterref04_Same.f k bt452.1 bt419.1).bind fun t457 => (glisterlaw04_CipherBack.j0 k l1 bt434.2.1 (!t457) a0_0 a0_1 l0_2 l0_3)) else (glisterlaw04_CipherBack.j0 k l1 bt434.2.1 true a0_0 a0_1 l0_2 l0_3))) else (glisterlaw04_CipherBack.j0 k l1 bt434.2.1 true a0_0 a0_1 l0_2 l0_3)) else (glisterlaw04_CipherBack.j0 k l1 bt434.2.1 true a0_0 a0_1 l0_2 l0_3)) else (glisterlaw04_CipherBack.j0 k l1 bt434.2.1 true a0_0 a0_1 l0_2 l0_3)) else (glisterlaw04_CipherBack.j0 k l1 bt434.2.1 true a0_0 a0_1 l0_2 l0_3)))))))))))) else ((glisterlaw04_awake.f).bind fun t407 => (some t407)))) = some r := h
 clear h
 obtain ⟨t406, A40, H⟩ := Option.bind_eq_some_iff.mp H
 have A4 := Sd.mk A40
 clear A40
 by_cases c5 : t406 = true
 ·subst c5
  rw [if_pos rfl] at H
  by_cases c6 : (l0_3.length : Int) = 0
  ·rw [if_pos c6] at H
   exact absurd H (by simp)
  ·rw [if_neg c6] at H
   have c6b0 : ((l0_3.length : Int) == 0) = false := beq_eq_false_iff_ne.mpr c6
   have c6b1 : ((l0_3.length : Int) != 0) = true := bne_iff_ne.mpr c6
   have c6b2 : ¬ (l0_3 = []) := fun h_ => c6 (by rw [h_]; rfl)
   replace H := Option.bind_eq_some_iff.mp H
   obtain ⟨⟨t408, t409, t410, t413⟩, A70, H⟩ := H
   replace H : ((glisterlaw04_list.f l1).bind fun t416 => ((cipher_Code.f k t408 t409 t410 t413 (Int.tmod (wrap64 (a2)) (l0_3.length : Int)) t416).bind fun bt419 => ((glisterlaw04_Book.f k a0_0 a0_1 l0_2 l0_3).bind fun bt423 => ((glisterlaw04_list.f bt419.1).bind fun t431 => ((cipher_Decode.f k bt423.1 bt423.2.1 bt423.2.2.1 bt423.2.2.2 (Int.tmod (wrap64 (a2)) (l0_3.length : Int)) t431).bind fun bt434 => ((glisterlaw04_Book.f k a0_0 a0_1 l0_2 l0_3).bind fun bt441 => ((glisterlaw04_list.f bt434.1).bind fun t449 => ((cipher_Code.f k bt441.1 bt441.2.1 bt441.2.2.1 bt441.2.2.2 (Int.tmod (wrap64 (a2)) (l0_3.length : Int)) t449).bind fun bt452 => (if bt419.2 = 0 then (if bt434.2.2 = 0 then (if bt452.2 = 0 then (if (bt419.1.length : Int) = (wrap64 ((l1.length : Int) + 2)) then ((glisterref04_Same.f k bt434.1 l1).bind fun t456 => (if t456 = true then ((glisterref04_Same.f k bt452.1 bt419.1).bind fun t457 => (glisterlaw04_CipherBack.j0 k l1 bt434.2.1 (!t457) a0_0 a0_1 l0_2 l0_3)) else (glisterlaw04_CipherBack.j0 k l1 bt434.2.1 true a0_0 a0_1 l0_2 l0_3))) else (glisterlaw04_CipherBack.j0 k l1 bt434.2.1 true a0_0 a0_1 l0_2 l0_3)) else (glisterlaw04_CipherBack.j0 k l1 bt434.2.1 true a0_0 a0_1 l0_2 l0_3)) else (glisterlaw04_CipherBack.j0 k l1 bt434.2.1 true a0_0 a0_1 l0_2 l0_3)) else (glisterlaw04_CipherBack.j0 k l1 bt434.2.1 true a0_0 a0_1 l0_2 l0_3)))))))))) = some r := H
   have A7 := Sd.mk A70
   clear A70
   obtain ⟨t416, A80, H⟩ := Option.bind_eq_some_iff.mp H
   have A8 := Sd.mk A80
   clear A80
   replace H := Option.bind_eq_some_iff.mp H
   obtain ⟨⟨t419, t422⟩, A90, H⟩ := H
   replace H : ((glisterlaw04_Book.f k a0_0 a0_1 l0_2 l0_3).bind fun bt423 => ((glisterlaw04_list.f t419).bind fun t431 => ((cipher_Decode.f k bt423.1 bt423.2.1 bt423.2.2.1 bt423.2.2.2 (Int.tmod (wrap64 (a2)) (l0_3.length : Int)) t431).bind fun bt434 => ((glisterlaw04_Book.f k a0_0 a0_1 l0_2 l0_3).bind fun bt441 => ((glisterlaw04_list.f bt434.1).bind fun t449 => ((cipher_Code.f k bt441.1 bt441.2.1 bt441.2.2.1 bt441.2.2.2 (Int.tmod (wrap64 (a2)) (l0_3.length : Int)) t449).bind fun bt452 => (if t422 = 0 then (if bt434.2.2 = 0 then (if bt452.2 = 0 then (if (t419.length : Int) = (wrap64 ((l1.length : Int) + 2)) then ((glisterref04_Same.f k bt434.1 l1).bind fun t456 => (if t456 = true then ((glisterref04_Same.f k bt452.1 t419).bind fun t457 => (glisterlaw04_CipherBack.j0 k l1 bt434.2.1 (!t457) a0_0 a0_1 l0_2 l0_3)) else (glisterlaw04_CipherBack.j0 k l1 bt434.2.1 true a0_0 a0_1 l0_2 l0_3))) else (glisterlaw04_CipherBack.j0 k l1 bt434.2.1 true a0_0 a0_1 l0_2 l0_3)) else (glisterlaw04_CipherBack.j0 k l1 bt434.2.1 true a0_0 a0_1 l0_2 l0_3)) else (glisterlaw04_CipherBack.j0 k l1 bt434.2.1 true a0_0 a0_1 l0_2 l0_3)) else (glisterlaw04_CipherBack.j0 k l1 bt434.2.1 true a0_0 a0_1 l0_2 l0_3)))))))) = some r := H
   have A9 := Sd.mk A90
   clear A90
   replace H := Option.bind_eq_some_iff.mp H
   obtain ⟨⟨t423, t424, t425, t428⟩, A100, H⟩ := H
   replace H : ((glisterlaw04_list.f t419).bind fun t431 => ((cipher_Decode.f k t423 t424 t425 t428 (Int.tmod (wrap64 (a2)) (l0_3.length : Int)) t431).bind fun bt434 => ((glisterlaw04_Book.f k a0_0 a0_1 l0_2 l0_3).bind fun bt441 => ((glisterlaw04_list.f bt434.1).bind fun t449 => ((cipher_Code.f k bt441.1 bt441.2.1 bt441.2.2.1 bt441.2.2.2 (Int.tmod (wrap64 (a2)) (l0_3.length : Int)) t449).bind fun bt452 => (if t422 = 0 then (if bt434.2.2 = 0 then (if bt452.2 = 0 then (if (t419.length : Int) = (wrap64 ((l1.length : Int) + 2)) then ((glisterref04_Same.f k bt434.1 l1).bind fun t456 => (if t456 = true then ((glisterref04_Same.f k bt452.1 t419).bind fun t457 => (glisterlaw04_CipherBack.j0 k l1 bt434.2.1 (!t457) a0_0 a0_1 l0_2 l0_3)) else (glisterlaw04_CipherBack.j0 k l1 bt434.2.1 true a0_0 a0_1 l0_2 l0_3))) else (glisterlaw04_CipherBack.j0 k l1 bt434.2.1 true a0_0 a0_1 l0_2 l0_3)) else (glisterlaw04_CipherBack.j0 k l1 bt434.2.1 true a0_0 a0_1 l0_2 l0_3)) else (glisterlaw04_CipherBack.j0 k l1 bt434.2.1 true a0_0 a0_1 l0_2 l0_3)) else (glisterlaw04_CipherBack.j0 k l1 bt434.2.1 true a0_0 a0_1 l0_2 l0_3))))))) = some r := H
   have A10 := Sd.mk A100
   clear A100
   obtain ⟨t431, A110, H⟩ := Option.bind_eq_some_iff.mp H
   have A11 := Sd.mk A110
   clear A110
   replace H := Option.bind_eq_some_iff.mp H
   obtain ⟨⟨t434, t437, t440⟩, A120, H⟩ := H
   replace H : ((glisterlaw04_Book.f k a0_0 a0_1 l0_2 l0_3).bind fun bt441 => ((glisterlaw04_list.f t434).bind fun t449 => ((cipher_Code.f k bt441.1 bt441.2.1 bt441.2.2.1 bt441.2.2.2 (Int.tmod (wrap64 (a2)) (l0_3.length : Int)) t449).bind fun bt452 => (if t422 = 0 then (if t440 = 0 then (if bt452.2 = 0 then (if (t419.length : Int) = (wrap64 ((l1.length : Int) + 2)) then ((glisterref04_Same.f k t434 l1).bind fun t456 => (if t456 = true then ((glisterref04_Same.f k bt452.1 t419).bind fun t457 => (glisterlaw04_CipherBack.j0 k l1 t437 (!t457) a0_0 a0_1 l0_2 l0_3)) else (glisterlaw04_CipherBack.j0 k l1 t437 true a0_0 a0_1 l0_2 l0_3))) else (glisterlaw04_CipherBack.j0 k l1 t437 true a0_0 a0_1 l0_2 l0_3)) else (glisterlaw04_CipherBack.j0 k l1 t437 true a0_0 a0_1 l0_2 l0_3)) else (glisterlaw04_CipherBack.j0 k l1 t437 true a0_0 a0_1 l0_2 l0_3)) else (glisterlaw04_CipherBack.j0 k l1 t437 true a0_0 a0_1 l0_2 l0_3))))) = some r := H
   have A12 := Sd.mk A120
   clear A120
   replace H := Option.bind_eq_some_iff.mp H
   obtain ⟨⟨t441, t442, t443, t446⟩, A130, H⟩ := H
   replace H : ((glisterlaw04_list.f t434).bind fun t449 => ((cipher_Code.f k t441 t442 t443 t446 (Int.tmod (wrap64 (a2)) (l0_3.length : Int)) t449).bind fun bt452 => (if t422 = 0 then (if t440 = 0 then (if bt452.2 = 0 then (if (t419.length : Int) = (wrap64 ((l1.length : Int) + 2)) then ((glisterref04_Same.f k t434 l1).bind fun t456 => (if t456 = true then ((glisterref04_Same.f k bt452.1 t419).bind fun t457 => (glisterlaw04_CipherBack.j0 k l1 t437 (!t457) a0_0 a0_1 l0_2 l0_3)) else (glisterlaw04_CipherBack.j0 k l1 t437 true a0_0 a0_1 l0_2 l0_3))) else (glisterlaw04_CipherBack.j0 k l1 t437 true a0_0 a0_1 l0_2 l0_3)) else (glisterlaw04_CipherBack.j0 k l1 t437 true a0_0 a0_1 l0_2 l0_3)) else (glisterlaw04_CipherBack.j0 k l1 t437 true a0_0 a0_1 l0_2 l0_3)) else (glisterlaw04_CipherBack.j0 k l1 t437 true a0_0 a0_1 l0_2 l0_3)))) = some r := H
   have A13 := Sd.mk A130
   clear A130
   obtain ⟨t449, A140, H⟩ := Option.bind_eq_some_iff.mp H
   have A14 := Sd.mk A140
   clear A140
   replace H := Option.bind_eq_some_iff.mp H
   obtain ⟨⟨t452, t455⟩, A150, H⟩ := H
   replace H : (if t422 = 0 then (if t440 = 0 then (if t455 = 0 then (if (t419.length : Int) = (wrap64 ((l1.length : Int) + 2)) then ((glisterref04_Same.f k t434 l1).bind fun t456 => (if t456 = true then ((glisterref04_Same.f k t452 t419).bind fun t457 => (glisterlaw04_CipherBack.j0 k l1 t437 (!t457) a0_0 a0_1 l0_2 l0_3)) else (glisterlaw04_CipherBack.j0 k l1 t437 true a0_0 a0_1 l0_2 l0_3))) else (glisterlaw04_CipherBack.j0 k l1 t437 true a0_0 a0_1 l0_2 l0_3)) else (glisterlaw04_CipherBack.j0 k l1 t437 true a0_0 a0_1 l0_2 l0_3)) else (glisterlaw04_CipherBack.j0 k l1 t437 true a0_0 a0_1 l0_2 l0_3)) else (glisterlaw04_CipherBack.j0 k l1 t437 true a0_0 a0_1 l0_2 l0_3)) = some r := H
   have A15 := Sd.mk A150
   clear A150
   have HC16 := Sd.mk H
   clear H
   go_enter Try.func6, Try.ntmps6
   go_upto_region 7 with (first | ((with_reducible refine gD (N := 3) rfl ?_); (try (refine gG (by rfl) ?_; dsimp only)); refine xE ?hg (N := 3) ?hd (cs := #[.int .i64 a0_0, .int .i64 a0_1, .slice A0_2 l0_2.length c0_2, .slice A0_3 l0_3.length c0_3]) (t := 25) ?hr ?_; (case hd => rfl); (case hg => rfl); (case hr => first | (go_simp; done) ); intro gb405 hg w17 hbox hb; have BK405 := Sd.mk (hbox); have GW405 := Sd.mk ((by rw [hg]; exact (bZ (by repeat (first | (with_reducible first | exact HB.1 ) ))) : w.heap.size ≤ gb405)); have GE405 := Sd.mk ((by rw [hg]; exact (bZ (by repeat (first | (with_reducible first | exact HB.1 ) ))) : w.heap.size ≤ gb405)); replace HB := Sd.mk (bT (by repeat (first | (with_reducible first | exact HB.1 ) )) hb); clear hb hbox hg; have z_18_0 : w17.cell? ⟨gb405, 0, none⟩ = some (.int .i64 a0_0) := (kC BK405.1 0).trans rfl; have z_18_1 : w17.cell? ⟨gb405, 1, none⟩ = some (.int .i64 a0_1) := (kC BK405.1 1).trans rfl; have z_18_2 : w17.cell? ⟨gb405, 2, none⟩ = some (.slice A0_2 l0_2.length c0_2) := (kC BK405.1 2).trans rfl; have z_18_3 : w17.cell? ⟨gb405, 3, none⟩ = some (.slice A0_3 l0_3.length c0_3) := (kC BK405.1 3).trans rfl) | (go_at_call 33; (with_reducible refine (glisterlaw04_ready.calls k a0_0 a0_1 _ _ l0_2 _ _ l0_3 _ _ l1 true _ ?side1 ?side2 ?side3 ?side4 ?side5 ?side6 A4.1).mono ?_); (case side1 => repeat (first | exact (Kd.C_below HR0_2.1 HB.1) )); (case side2 => exact HC0_2.1); (case side3 => repeat (first | exact (Kd.C_below HR0_3.1 HB.1) )); (case side4 => exact HC0_3.1); (case side5 => repeat (first | exact (Kd.C_below HR1.1 HB.1) )); (case side6 => exact HC1.1); rintro e w19 ⟨rfl, hb⟩; replace BK405 := Sd.mk (kB (g := gb405) (o := .cells #[.int .i64 a0_0, .int .i64 a0_1, .slice A0_2 l0_2.length c0_2, .slice A0_3 l0_3.length c0_3] 25 (0, 0)) (by (with_reducible repeat (fail)); exact BK405.1) hb); replace HB := Sd.mk (bT (by repeat (first | (with_reducible first | exact HB.1 ) )) hb); (try clear hb); have z_20_0 : w19.cell? ⟨gb405, 0, none⟩ = some (.int .i64 a0_0) := (kC BK405.1 0).trans rfl; have z_20_1 : w19.cell? ⟨gb405, 1, none⟩ = some (.int .i64 a0_1) := (kC BK405.1 1).trans rfl; have z_20_2 : w19.cell? ⟨gb405, 2, none⟩ = some (.slice A0_2 l0_2.length c0_2) := (kC BK405.1 2).trans rfl; have z_20_3 : w19.cell? ⟨gb405, 3, none⟩ = some (.slice A0_3 l0_3.length c0_3) := (kC BK405.1 3).trans rfl) | (go_at_call 19; (with_reducible refine (glisterlaw04_Book.calls k a0_0 a0_1 _ _ l0_2 _ _ l0_3 t408 t409 t410 t413 _ ?side1 ?side2 ?side3 ?side4 A7.1).mono ?_); (case side1 => repeat (first | exact (Kd.C_below HR0_2.1 HB.1) )); (case side2 => exact HC0_2.1); (case side3 => repeat (first | exact (Kd.C_below HR0_3.1 HB.1) )); (case side4 => exact HC0_3.1); rintro e w21 ⟨v411, v414, rfl, ho0, ho1, hb⟩; have HO412 := Sd.mk (Kd.R_lower ho0 (bZ (by repeat (first | (with_reducible first | exact HB.1 ) )))); have HO415 := Sd.mk (Kd.R_lower ho1 (bZ (by repeat (first | (with_reducible first | exact HB.1 ) )))); replace BK405 := Sd.mk (kB (g := gb405) (o := .cells #[.int .i64 a0_0, .int .i64 a0_1, .slice A0_2 l0_2.length c0_2, .slice A0_3 l0_3.length c0_3] 25 (0, 0)) (by (with_reducible repeat (fail)); exact BK405.1) hb); replace HB := Sd.mk (bT (by repeat (first | (with_reducible first | exact HB.1 ) )) hb); (try clear hb); (try clear ho0); (try clear ho1); (try clear A7)) | (go_at_call 21; (with_reducible refine (glisterlaw04_list.calls _ _ l1 t416 _ ?side1 ?side2 A8.1).mono ?_); (case side1 => repeat (first | exact (Kd.C_below HR1.1 HB.1) )); (case side2 => exact HC1.1); rintro e w22 ⟨v417, rfl, ho0, hb⟩; replace HO412 := Sd.mk (Kd.R_below (by (with_reducible repeat (fail)); exact HO412.1) hb); have HO418 := Sd.mk (Kd.R_lower (Kd.R_new' ho0 (Kd.R_lt (by (with_reducible repeat (fail)); exact HO415.1))) (bZ (by repeat (first | (with_reducible first | exact HB.1 ) )))); replace HO415 := Sd.mk (Kd.R_elder' (by (with_reducible repeat (fail)); exact HO415.1) (Kd.R_base ho0) hb); replace BK405 := Sd.mk (kB (g := gb405) (o := .cells #[.int .i64 a0_0, .int .i64 a0_1, .slice A0_2 l0_2.length c0_2, .slice A0_3 l0_3.length c0_3] 25 (0, 0)) (by (with_reducible repeat (fail)); exact BK405.1) hb); replace HB := Sd.mk (bT (by repeat (first | (with_reducible first | exact HB.1 ) )) hb); (try clear hb); (try clear ho0); obtain ⟨Ao23, co23, eo23⟩ := Kd.R_slice HO412.1; subst eo23; obtain ⟨Ao24, co24, eo24⟩ := Kd.R_slice HO415.1; subst eo24; obtain ⟨Ao25, co25, eo25⟩ := Kd.R_slice HO418.1; subst eo25; (try clear A8)) | (go_at_call 20; (with_reducible refine (cipher_Code.calls k t408 t409 _ _ t410 _ _ t413 (Int.tmod (wrap64 (a2)) (l0_3.length : Int)) _ _ t416 t419 t422 _ ?side1 ?side2 ?side3 ?side4 ?side5 ?side6 A9.1).mono ?_); (case side1 => repeat (first | exact (Kd.R_reads' HO412.1).2.2 )); (case side2 => exact (Kd.R_reads' HO412.1).2.1); (case side3 => repeat (first | exact (Kd.R_reads' HO415.1).2.2 )); (case side4 => exact (Kd.R_reads' HO415.1).2.1); (case side5 => repeat (first | exact (Kd.R_reads' HO418.1).2.2 )); (case side6 => exact (Kd.R_reads' HO418.1).2.1); rintro e w26 ⟨v420, rfl, ho0, hb⟩; replace HO412 := Sd.mk (Kd.R_below (by (with_reducible repeat (fail)); exact HO412.1) hb); have HO421 := Sd.mk (Kd.R_lower (Kd.R_new' (Kd.R_new' ho0 (Kd.R_lt (by (with_reducible repeat (fail)); exact HO415.1))) (Kd.R_lt (by (with_reducible repeat (fail)); exact HO418.1))) (bZ (by repeat (first | (with_reducible first | exact HB.1 ) )))); replace HO415 := Sd.mk (Kd.R_elder' (by (with_reducible repeat (fail)); exact HO415.1) (Kd.R_base ho0) hb); replace HO418 := Sd.mk (Kd.R_elder' (by (with_reducible repeat (fail)); exact HO418.1) (Kd.R_base ho0) hb); replace BK405 := Sd.mk (kB (g := gb405) (o := .cells #[.int .i64 a0_0, .int .i64 a0_1, .slice A0_2 l0_2.length c0_2, .slice A0_3 l0_3.length c0_3] 25 (0, 0)) (by (with_reducible repeat (fail)); exact BK405.1) hb); replace HB := Sd.mk (bT (by repeat (first | (with_reducible first | exact HB.1 ) )) hb); (try clear hb); (try clear ho0); have z_27_0 : w26.cell? ⟨gb405, 0, none⟩ = some (.int .i64 a0_0) := (kC BK405.1 0).trans rfl; have z_27_1 : w26.cell? ⟨gb405, 1, none⟩ = some (.int .i64 a0_1) := (kC BK405.1 1).trans rfl; have z_27_2 : w26.cell? ⟨gb405, 2, none⟩ = some (.slice A0_2 l0_2.length c0_2) := (kC BK405.1 2).trans rfl; have z_27_3 : w26.cell? ⟨gb405, 3, none⟩ = some (.slice A0_3 l0_3.length c0_3) := (kC BK405.1 3).trans rfl; (try clear A9)) | (go_at_call 19; (with_reducible refine (glisterlaw04_Book.calls k a0_0 a0_1 _ _ l0_2 _ _ l0_3 t423 t424 t425 t428 _ ?side1 ?side2 ?side3 ?side4 A10.1).mono ?_); (case side1 => repeat (first | exact (Kd.C_below HR0_2.1 HB.1) )); (case side2 => exact HC0_2.1); (case side3 => repeat (first | exact (Kd.C_below HR0_3.1 HB.1) )); (case side4 => exact HC0_3.1); rintro e w28 ⟨v426, v429, rfl, ho0, ho1, hb⟩; have HO427 := Sd.mk (Kd.R_lower (Kd.R_new' ho0 (Kd.R_lt (by (with_reducible repeat (fail)); exact HO412.1))) (bZ (by repeat (first | (with_reducible first | exact HB.1 ) )))); replace HO412 := Sd.mk (Kd.R_elder' (by (with_reducible repeat (fail)); exact HO412.1) (Kd.R_base ho0) hb); have HO430 := Sd.mk (Kd.R_lower (Kd.R_new' (Kd.R_new' (Kd.R_new' ho1 (Kd.R_lt (by (with_reducible repeat (fail)); exact HO415.1))) (Kd.R_lt (by (with_reducible repeat (fail)); exact HO418.1))) (Kd.R_lt (by (with_reducible repeat (fail)); exact HO421.1))) (bZ (by repeat (first | (with_reducible first | exact HB.1 ) )))); replace HO415 := Sd.mk (Kd.R_elder' (by (with_reducible repeat (fail)); exact HO415.1) (Kd.R_base ho1) hb); replace HO418 := Sd.mk (Kd.R_elder' (by (with_reducible repeat (fail)); exact HO418.1) (Kd.R_base ho1) hb); replace HO421 := Sd.mk (Kd.R_elder' (by (with_reducible repeat (fail)); exact HO421.1) (Kd.R_base ho1) hb); replace BK405 := Sd.mk (kB (g := gb405) (o := .cells #[.int .i64 a0_0, .int .i64 a0_1, .slice A0_2 l0_2.length c0_2, .slice A0_3 l0_3.length c0_3] 25 (0, 0)) (by (with_reducible repeat (fail)); exact BK405.1) hb); replace HB := Sd.mk (bT (by repeat (first | (with_reducible first | exact HB.1 ) )) hb); (try clear hb); (try clear ho0); (try clear ho1); obtain ⟨Ao29, co29, eo29⟩ := Kd.R_slice HO421.1; subst eo29; (try clear A10)) | (go_at_call 21; (with_reducible refine (glisterlaw04_list.calls _ _ t419 t431 _ ?side1 ?side2 A11.1).mono ?_); (case side1 => repeat (first | exact (Kd.R_reads' HO421.1).2.2 )); (case side2 => exact (Kd.R_reads' HO421.1).2.1); rintro e w30 ⟨v432, rfl, ho0, hb⟩; replace HO412 := Sd.mk (Kd.R_below (by (with_reducible repeat (fail)); exact HO412.1) hb); replace HO427 := Sd.mk (Kd.R_below (by (with_reducible repeat (fail)); exact HO427.1) hb); have HO433 := Sd.mk (Kd.R_lower (Kd.R_new' (Kd.R_new' (Kd.R_new' (Kd.R_new' ho0 (Kd.R_lt (by (with_reducible repeat (fail)); exact HO415.1))) (Kd.R_lt (by (with_reducible repeat (fail)); exact HO418.1))) (Kd.R_lt (by (with_reducible repeat (fail)); exact HO421.1))) (Kd.R_lt (by (with_reducible repeat (fail)); exact HO430.1))) (bZ (by repeat (first | (with_reducible first | exact HB.1 ) )))); replace HO415 := Sd.mk (Kd.R_elder' (by (with_reducible repeat (fail)); exact HO415.1) (Kd.R_base ho0) hb); replace HO418 := Sd.mk (Kd.R_elder' (by (with_reducible repeat (fail)); exact HO418.1) (Kd.R_base ho0) hb); replace HO421 := Sd.mk (Kd.R_elder' (by (with_reducible repeat (fail)); exact HO421.1) (Kd.R_base ho0) hb); replace HO430 := Sd.mk (Kd.R_elder' (by (with_reducible repeat (fail)); exact HO430.1) (Kd.R_base ho0) hb); replace BK405 := Sd.mk (kB (g := gb405) (o := .cells #[.int .i64 a0_0, .int .i64 a0_1, .slice A0_2 l0_2.length c0_2, .slice A0_3 l0_3.length c0_3] 25 (0, 0)) (by (with_reducible repeat (fail)); exact BK405.1) hb); replace HB := Sd.mk (bT (by repeat (first | (with_reducible first | exact HB.1 ) )) hb); (try clear hb); (try clear ho0); obtain ⟨Ao31, co31, eo31⟩ := Kd.R_slice HO427.1; subst eo31; obtain ⟨Ao32, co32, eo32⟩ := Kd.R_slice HO430.1; subst eo32; obtain ⟨Ao33, co33, eo33⟩ := Kd.R_slice HO433.1; subst eo33; (try clear A11)) | (go_at_call 27; (with_reducible refine (cipher_Decode.calls k t423 t424 _ _ t425 _ _ t428 (Int.tmod (wrap64 (a2)) (l0_3.length : Int)) _ _ t431 t434 t437 t440 _ ?side1 ?side2 ?side3 ?side4 ?side5 ?side6 A12.1).mono ?_); (case side1 => repeat (first | exact (Kd.R_reads' HO427.1).2.2 )); (case side2 => exact (Kd.R_reads' HO427.1).2.1); (case side3 => repeat (first | exact (Kd.R_reads' HO430.1).2.2 )); (case side4 => exact (Kd.R_reads' HO430.1).2.1); (case side5 => repeat (first | exact (Kd.R_reads' HO433.1).2.2 )); (case side6 => exact (Kd.R_reads' HO433.1).2.1); rintro e w34 ⟨v435, v438, rfl, ho0, ho1, hb⟩; replace HO412 := Sd.mk (Kd.R_below (by (with_reducible repeat (fail)); exact HO412.1) hb); replace HO427 := Sd.mk (Kd.R_below (by (with_reducible repeat (fail)); exact HO427.1) hb); have HO436 := Sd.mk (Kd.R_lower (Kd.R_new' (Kd.R_new' (Kd.R_new' (Kd.R_new' (Kd.R_new' ho0 (Kd.R_lt (by (with_reducible repeat (fail)); exact HO415.1))) (Kd.R_lt (by (with_reducible repeat (fail)); exact HO418.1))) (Kd.R_lt (by (with_reducible repeat (fail)); exact HO421.1))) (Kd.R_lt (by (with_reducible repeat (fail)); exact HO430.1))) (Kd.R_lt (by (with_reducible repeat (fail)); exact HO433.1))) (bZ (by repeat (first | (with_reducible first | exact HB.1 ) )))); have HO439 := Sd.mk (Kd.R_lower (Kd.R_new' (Kd.R_new' (Kd.R_new' (Kd.R_new' (Kd.R_new' ho1 (Kd.R_lt (by (with_reducible repeat (fail)); exact HO415.1))) (Kd.R_lt (by (with_reducible repeat (fail)); exact HO418.1))) (Kd.R_lt (by (with_reducible repeat (fail)); exact HO421.1))) (Kd.R_lt (by (with_reducible repeat (fail)); exact HO430.1))) (Kd.R_lt (by (with_reducible repeat (fail)); exact HO433.1))) (bZ (by repeat (first | (with_reducible first | exact HB.1 ) )))); replace HO415 := Sd.mk (Kd.R_mono (Kd.R_told (Kd.R_told (Kd.R_old (by (with_reducible repeat (fail)); exact HO415.1) hb) (Kd.R_base ho0)) (Kd.R_base ho1)) (fun _ h_ => h_.1)); replace HO418 := Sd.mk (Kd.R_mono (Kd.R_told (Kd.R_told (Kd.R_old (by (with_reducible repeat (fail)); exact HO418.1) hb) (Kd.R_base ho0)) (Kd.R_base ho1)) (fun _ h_ => h_.1)); replace HO421 := Sd.mk (Kd.R_mono (Kd.R_told (Kd.R_told (Kd.R_old (by (with_reducible repeat (fail)); exact HO421.1) hb) (Kd.R_base ho0)) (Kd.R_base ho1)) (fun _ h_ => h_.1)); replace HO430 := Sd.mk (Kd.R_mono (Kd.R_told (Kd.R_told (Kd.R_old (by (with_reducible repeat (fail)); exact HO430.1) hb) (Kd.R_base ho0)) (Kd.R_base ho1)) (fun _ h_ => h_.1)); replace HO433 := Sd.mk (Kd.R_mono (Kd.R_told (Kd.R_told (Kd.R_old (by (with_reducible repeat (fail)); exact HO433.1) hb) (Kd.R_base ho0)) (Kd.R_base ho1)) (fun _ h_ => h_.1)); replace BK405 := Sd.mk (kB (g := gb405) (o := .cells #[.int .i64 a0_0, .int .i64 a0_1, .slice A0_2 l0_2.length c0_2, .slice A0_3 l0_3.length c0_3] 25 (0, 0)) (by (with_reducible repeat (fail)); exact BK405.1) hb); replace HB := Sd.mk (bT (by repeat (first | (with_reducible first | exact HB.1 ) )) hb); (try clear hb); (try clear ho0); (try clear ho1); have z_35_0 : w34.cell? ⟨gb405, 0, none⟩ = some (.int .i64 a0_0) := (kC BK405.1 0).trans rfl; have z_35_1 : w34.cell? ⟨gb405, 1, none⟩ = some (.int .i64 a0_1) := (kC BK405.1 1).trans rfl; have z_35_2 : w34.cell? ⟨gb405, 2, none⟩ = some (.slice A0_2 l0_2.length c0_2) := (kC BK405.1 2).trans rfl; have z_35_3 : w34.cell? ⟨gb405, 3, none⟩ = some (.slice A0_3 l0_3.length c0_3) := (kC BK405.1 3).trans rfl) | (go_at_call 19; (with_reducible refine (glisterlaw04_Book.calls k a0_0 a0_1 _ _ l0_2 _ _ l0_3 t441 t442 t443 t446 _ ?side1 ?side2 ?side3 ?side4 A13.1).mono ?_); (case side1 => repeat (first | exact (Kd.C_below HR0_2.1 HB.1) )); (case side2 => exact HC0_2.1); (case side3 => repeat (first | exact (Kd.C_below HR0_3.1 HB.1) )); (case side4 => exact HC0_3.1); rintro e w36 ⟨v444, v447, rfl, ho0, ho1, hb⟩; have HO445 := Sd.mk (Kd.R_lower (Kd.R_new' (Kd.R_new' ho0 (Kd.R_lt (by (with_reducible repeat (fail)); exact HO412.1))) (Kd.R_lt (by (with_reducible repeat (fail)); exact HO427.1))) (bZ (by repeat (first | (with_reducible first | exact HB.1 ) )))); replace HO412 := Sd.mk (Kd.R_elder' (by (with_reducible repeat (fail)); exact HO412.1) (Kd.R_base ho0) hb); replace HO427 := Sd.mk (Kd.R_elder' (by (with_reducible repeat (fail)); exact HO427.1) (Kd.R_base ho0) hb); have HO448 := Sd.mk (Kd.R_lower (Kd.R_new' (Kd.R_new' (Kd.R_new' (Kd.R_new' (Kd.R_new' (Kd.R_new' (Kd.R_new' ho1 (Kd.R_lt (by (with_reducible repeat (fail)); exact HO415.1))) (Kd.R_lt (by (with_reducible repeat (fail)); exact HO418.1))) (Kd.R_lt (by (with_reducible repeat (fail)); exact HO421.1))) (Kd.R_lt (by (with_reducible repeat (fail)); exact HO430.1))) (Kd.R_lt (by (with_reducible repeat (fail)); exact HO433.1))) (Kd.R_lt (by (with_reducible repeat (fail)); exact HO436.1))) (Kd.R_lt (by (with_reducible repeat (fail)); exact HO439.1))) (bZ (by repeat (first | (with_reducible first | exact HB.1 ) )))); replace HO415 := Sd.mk (Kd.R_elder' (by (with_reducible repeat (fail)); exact HO415.1) (Kd.R_base ho1) hb); replace HO418 := Sd.mk (Kd.R_elder' (by (with_reducible repeat (fail)); exact HO418.1) (Kd.R_base ho1) hb); replace HO421 := Sd.mk (Kd.R_elder' (by (with_reducible repeat (fail)); exact HO421.1) (Kd.R_base ho1) hb); replace HO430 := Sd.mk (Kd.R_elder' (by (with_reducible repeat (fail)); exact HO430.1) (Kd.R_base ho1) hb); replace HO433 := Sd.mk (Kd.R_elder' (by (with_reducible repeat (fail)); exact HO433.1) (Kd.R_base ho1) hb); replace HO436 := Sd.mk (Kd.R_elder' (by (with_reducible repeat (fail)); exact HO436.1) (Kd.R_base ho1) hb); replace HO439 := Sd.mk (Kd.R_elder' (by (with_reducible repeat (fail)); exact HO439.1) (Kd.R_base ho1) hb); replace BK405 := Sd.mk (kB (g := gb405) (o := .cells #[.int .i64 a0_0, .int .i64 a0_1, .slice A0_2 l0_2.length c0_2, .slice A0_3 l0_3.length c0_3] 25 (0, 0)) (by (with_reducible repeat (fail)); exact BK405.1) hb); replace HB := Sd.mk (bT (by repeat (first | (with_reducible first | exact HB.1 ) )) hb); (try clear hb); (try clear ho0); (try clear ho1); obtain ⟨Ao37, co37, eo37⟩ := Kd.R_slice HO436.1; subst eo37; (try clear A13)) | (go_at_call 21; (with_reducible refine (glisterlaw04_list.calls _ _ t434 t449 _ ?side1 ?side2 A14.1).mono ?_); (case side1 => repeat (first | exact (Kd.R_reads' HO436.1).2.2 )); (case side2 => exact (Kd.R_reads' HO436.1).2.1); rintro e w38 ⟨v450, rfl, ho0, hb⟩; have n0_ := Sd.mk (Kd.R_below (by (with_reducible repeat (fail)); exact HO412.1) hb); have n1_ := Sd.mk (Kd.R_elder' (by (with_reducible repeat (fail)); exact HO415.1) (Kd.R_base ho0) hb); have n2_ := Sd.mk (Kd.R_elder' (by (with_reducible repeat (fail)); exact HO418.1) (Kd.R_base ho0) hb); have n3_ := Sd.mk (Kd.R_elder' (by (with_reducible repeat (fail)); exact HO421.1) (Kd.R_base ho0) hb); have n4_ := Sd.mk (Kd.R_below (by (with_reducible repeat (fail)); exact HO427.1) hb); have n5_ := Sd.mk (Kd.R_elder' (by (with_reducible repeat (fail)); exact HO430.1) (Kd.R_base ho0) hb); have n6_ := Sd.mk (Kd.R_elder' (by (with_reducible repeat (fail)); exact HO433.1) (Kd.R_base ho0) hb); have n7_ := Sd.mk (Kd.R_elder' (by (with_reducible repeat (fail)); exact HO436.1) (Kd.R_base ho0) hb); have n8_ := Sd.mk (Kd.R_elder' (by (with_reducible repeat (fail)); exact HO439.1) (Kd.R_base ho0) hb); have n9_ := Sd.mk (Kd.R_below (by (with_reducible repeat (fail)); exact HO445.1) hb); have n10_ := Sd.mk (Kd.R_elder' (by (with_reducible repeat (fail)); exact HO448.1) (Kd.R_base ho0) hb); have n11_ := Sd.mk (Kd.R_lower (Kd.R_new' (Kd.R_new' (Kd.R_new' (Kd.R_new' (Kd.R_new' (Kd.R_new' (Kd.R_new' (Kd.R_new' ho0 (Kd.R_lt (by (with_reducible repeat (fail)); exact HO415.1))) (Kd.R_lt (by (with_reducible repeat (fail)); exact HO418.1))) (Kd.R_lt (by (with_reducible repeat (fail)); exact HO421.1))) (Kd.R_lt (by (with_reducible repeat (fail)); exact HO430.1))) (Kd.R_lt (by (with_reducible repeat (fail)); exact HO433.1))) (Kd.R_lt (by (with_reducible repeat (fail)); exact HO436.1))) (Kd.R_lt (by (with_reducible repeat (fail)); exact HO439.1))) (Kd.R_lt (by (with_reducible repeat (fail)); exact HO448.1))) (bZ (by repeat (first | (with_reducible first | exact HB.1 ) )))); have n12_ := Sd.mk (kB (g := gb405) (o := .cells #[.int .i64 a0_0, .int .i64 a0_1, .slice A0_2 l0_2.length c0_2, .slice A0_3 l0_3.length c0_3] 25 (0, 0)) (by (with_reducible repeat (fail)); exact BK405.1) hb); have n13_ := Sd.mk (bT (by repeat (first | (with_reducible first | exact HB.1 ) )) hb); clear HO412; clear HO415; clear HO418; clear HO421; clear HO427; clear HO430; clear HO433; clear HO436; clear HO439; clear HO445; clear HO448; clear BK405; clear HB; have HO412 := n0_; have HO415 := n1_; have HO418 := n2_; have HO421 := n3_; have HO427 := n4_; have HO430 := n5_; have HO433 := n6_; have HO436 := n7_; have HO439 := n8_; have HO445 := n9_; have HO448 := n10_; have HO451 := n11_; have BK405 := n12_; have HB := n13_; clear n0_ n1_ n2_ n3_ n4_ n5_ n6_ n7_ n8_ n9_ n10_ n11_ n12_ n13_; (try clear hb); (try clear ho0); obtain ⟨Ao39, co39, eo39⟩ := Kd.R_slice HO445.1; subst eo39; obtain ⟨Ao40, co40, eo40⟩ := Kd.R_slice HO448.1; subst eo40; obtain ⟨Ao41, co41, eo41⟩ := Kd.R_slice HO451.1; subst eo41; (try clear A14)) | (go_at_call 20; (with_reducible refine (cipher_Code.calls k t441 t442 _ _ t443 _ _ t446 (Int.tmod (wrap64 (a2)) (l0_3.length : Int)) _ _ t449 t452 t455 _ ?side1 ?side2 ?side3 ?side4 ?side5 ?side6 A15.1).mono ?_); (case side1 => repeat (first | exact (Kd.R_reads' HO445.1).2.2 )); (case side2 => exact (Kd.R_reads' HO445.1).2.1); (case side3 => repeat (first | exact (Kd.R_reads' HO448.1).2.2 )); (case side4 => exact (Kd.R_reads' HO448.1).2.1); (case side5 => repeat (first | exact (Kd.R_reads' HO451.1).2.2 )); (case side6 => exact (Kd.R_reads' HO451.1).2.1); rintro e w42 ⟨v453, rfl, ho0, hb⟩; have n0_ := Sd.mk (Kd.R_below (by (with_reducible repeat (fail)); exact HO412.1) hb); have n1_ := Sd.mk (Kd.R_elder' (by (with_reducible repeat (fail)); exact HO415.1) (Kd.R_base ho0) hb); have n2_ := Sd.mk (Kd.R_elder' (by (with_reducible repeat (fail)); exact HO418.1) (Kd.R_base ho0) hb); have n3_ := Sd.mk (Kd.R_elder' (by (with_reducible repeat (fail)); exact HO421.1) (Kd.R_base ho0) hb); have n4_ := Sd.mk (Kd.R_below (by (with_reducible repeat (fail)); exact HO427.1) hb); have n5_ := Sd.mk (Kd.R_elder' (by (with_reducible repeat (fail)); exact HO430.1) (Kd.R_base ho0) hb); have n6_ := Sd.mk (Kd.R_elder' (by (with_reducible repeat (fail)); exact HO433.1) (Kd.R_base ho0) hb); have n7_ := Sd.mk (Kd.R_elder' (by (with_reducible repeat (fail)); exact HO436.1) (Kd.R_base ho0) hb); have n8_ := Sd.mk (Kd.R_elder' (by (with_reducible repeat (fail)); exact HO439.1) (Kd.R_base ho0) hb); have n9_ := Sd.mk (Kd.R_below (by (with_reducible repeat (fail)); exact HO445.1) hb); have n10_ := Sd.mk (Kd.R_elder' (by (with_reducible repeat (fail)); exact HO448.1) (Kd.R_base ho0) hb); have n11_ := Sd.mk (Kd.R_elder' (by (with_reducible repeat (fail)); exact HO451.1) (Kd.R_base ho0) hb); have n12_ := Sd.mk (Kd.R_lower (Kd.R_new' (Kd.R_new' (Kd.R_new' (Kd.R_new' (Kd.R_new' (Kd.R_new' (Kd.R_new' (Kd.R_new' (Kd.R_new' ho0 (Kd.R_lt (by (with_reducible repeat (fail)); exact HO415.1))) (Kd.R_lt (by (with_reducible repeat (fail)); exact HO418.1))) (Kd.R_lt (by (with_reducible repeat (fail)); exact HO421.1))) (Kd.R_lt (by (with_reducible repeat (fail)); exact HO430.1))) (Kd.R_lt (by (with_reducible repeat (fail)); exact HO433.1))) (Kd.R_lt (by (with_reducible repeat (fail)); exact HO436.1))) (Kd.R_lt (by (with_reducible repeat (fail)); exact HO439.1))) (Kd.R_lt (by (with_reducible repeat (fail)); exact HO448.1))) (Kd.R_lt (by (with_reducible repeat (fail)); exact HO451.1))) (bZ (by repeat (first | (with_reducible first | exact HB.1 ) )))); have n13_ := Sd.mk (kB (g := gb405) (o := .cells #[.int .i64 a0_0, .int .i64 a0_1, .slice A0_2 l0_2.length c0_2, .slice A0_3 l0_3.length c0_3] 25 (0, 0)) (by (with_reducible repeat (fail)); exact BK405.1) hb); have n14_ := Sd.mk (bT (by repeat (first | (with_reducible first | exact HB.1 ) )) hb); clear HO412; clear HO415; clear HO418; clear HO421; clear HO427; clear HO430; clear HO433; clear HO436; clear HO439; clear HO445; clear HO448; clear HO451; clear BK405; clear HB; have HO412 := n0_; have HO415 := n1_; have HO418 := n2_; have HO421 := n3_; have HO427 := n4_; have HO430 := n5_; have HO433 := n6_; have HO436 := n7_; have HO439 := n8_; have HO445 := n9_; have HO448 := n10_; have HO451 := n11_; have HO454 := n12_; have BK405 := n13_; have HB := n14_; clear n0_ n1_ n2_ n3_ n4_ n5_ n6_ n7_ n8_ n9_ n10_ n11_ n12_ n13_ n14_; (try clear hb); (try clear ho0); (try clear A15)))
   repeat (go_quiet (fail); go_upto_region 7 with (fail))
   go_cut [85] (fun v85 wc => ∃ (kq : Nat) (x85_15 : Bool), v85 = .bool x85_15 ∧ Sd (glisterlaw04_CipherBack.j0 kq l1 t437 x85_15 a0_0 a0_1 l0_2 l0_3 = some r) ∧ Sd (kq ≤ k) ∧ Sd (Kd.R (Kd.int .i64) 3 wc w.heap.size (fun _ => True) v438 t437) ∧ Sd (wc.heap[gb405]? = some (.cells #[.int .i64 a0_0, .int .i64 a0_1, (.slice A0_2 l0_2.length c0_2), (.slice A0_3 l0_3.length c0_3)] 25 (0, 0))) ∧ Sd (Below w.heap.size w wc))
   case first =>
    have H := HC16.1
    clear HC16
    by_cases c43 : t422 = 0
    ·rw [if_pos c43] at H
     have c43b0 : (t422 == 0) = true := beq_iff_eq.mpr c43
     have c43b1 : (t422 != 0) = false := bne_eq_false_iff_eq.mpr c43
     clear c43
     by_cases c44 : t440 = 0
     ·rw [if_pos c44] at H
      have c44b0 : (t440 == 0) = true := beq_iff_eq.mpr c44
      have c44b1 : (t440 != 0) = false := bne_eq_false_iff_eq.mpr c44
      clear c44
      by_cases c45 : t455 = 0
      ·rw [if_pos c45] at H
       have c45b0 : (t455 == 0) = true := beq_iff_eq.mpr c45
       have c45b1 : (t455 != 0) = false := bne_eq_false_iff_eq.mpr c45
       clear c45
       by_cases c46 : (t419.length : Int) = (wrap64 ((l1.length : Int) + 2))
       ·rw [if_pos c46] at H
        have c46b0 : ((t419.length : Int) == (wrap64 ((l1.length : Int) + 2))) = true := beq_iff_eq.mpr c46
        have c46b1 : ((t419.length : Int) != (wrap64 ((l1.length : Int) + 2))) = false := bne_eq_false_iff_eq.mpr c46
        clear c46
        obtain ⟨t456, A470, H⟩ := Option.bind_eq_some_iff.mp H
        have A47 := Sd.mk A470
        clear A470
        by_cases c48 : t456 = true
        ·subst c48
         rw [if_pos rfl] at H
         obtain ⟨t457, A490, H⟩ := Option.bind_eq_some_iff.mp H
         have A49 := Sd.mk A490
         clear A490
         have H' := Sd.mk H
         clear H
         go_wp2_with (first | (go_at_call 25; (with_reducible refine (glisterref04_Same.calls k _ _ t434 _ _ l1 true _ ?side1 ?side2 ?side3 ?side4 A47.1).mono ?_); (case side1 => repeat (first | exact (Kd.R_reads' HO436.1).2.2 )); (case side2 => exact (Kd.R_reads' HO436.1).2.1); (case side3 => repeat (first | exact (Kd.C_below HR1.1 HB.1) )); (case side4 => exact HC1.1); rintro e w' ⟨rfl, ⟨nd, rfl⟩⟩; (try fail); obtain ⟨Ao50, co50, eo50⟩ := Kd.R_slice HO454.1; subst eo50; (try clear A47)) | (go_at_call 25; (with_reducible refine (glisterref04_Same.calls k _ _ t452 _ _ t419 t457 _ ?side1 ?side2 ?side3 ?side4 A49.1).mono ?_); (case side1 => repeat (first | exact (Kd.R_reads' HO454.1).2.2 )); (case side2 => exact (Kd.R_reads' HO454.1).2.1); (case side3 => repeat (first | exact (Kd.R_reads' HO421.1).2.2 )); (case side4 => exact (Kd.R_reads' HO421.1).2.1); rintro e w' ⟨rfl, ⟨nd, rfl⟩⟩; (try fail); (try clear A49)))
         repeat (go_quiet (fail))
         go_meet
         case rel => exact ⟨_, (!t457), (by first | rfl ), H', ⟨by first | omega ⟩, ⟨by (with_reducible repeat (apply Kd.R_drewN )); exact Kd.R_mono HO439.1 (fun _ hk => trivial)⟩, ⟨by (with_reducible repeat (refine kN ?_ _ )); exact BK405.1⟩, ⟨by repeat (first | (with_reducible first | exact HB.1 | apply bN ) )⟩⟩
        ·replace c48 := Bool.eq_false_iff.mpr c48
         subst c48
         rw [if_neg (show ¬ (false = true) by decide)] at H
         have H' := Sd.mk H
         clear H
         go_wp2_with (first | (go_at_call 25; (with_reducible refine (glisterref04_Same.calls k _ _ t434 _ _ l1 false _ ?side1 ?side2 ?side3 ?side4 A47.1).mono ?_); (case side1 => repeat (first | exact (Kd.R_reads' HO436.1).2.2 )); (case side2 => exact (Kd.R_reads' HO436.1).2.1); (case side3 => repeat (first | exact (Kd.C_below HR1.1 HB.1) )); (case side4 => exact HC1.1); rintro e w' ⟨rfl, ⟨nd, rfl⟩⟩; (try fail)))
         repeat (go_quiet (fail))
         go_meet
         case rel => exact ⟨_, (true), (by first | rfl ), H', ⟨by first | omega ⟩, ⟨by (with_reducible repeat (apply Kd.R_drewN )); exact Kd.R_mono HO439.1 (fun _ hk => trivial)⟩, ⟨by (with_reducible repeat (refine kN ?_ _ )); exact BK405.1⟩, ⟨by repeat (first | (with_reducible first | exact HB.1 | apply bN ) )⟩⟩
       ·rw [if_neg c46] at H
        have c46b0 : ((t419.length : Int) == (wrap64 ((l1.length : Int) + 2))) = false := beq_eq_false_iff_ne.mpr c46
        have c46b1 : ((t419.length : Int) != (wrap64 ((l1.length : Int) + 2))) = true := bne_iff_ne.mpr c46
        have H' := Sd.mk H
        clear H
        go_wp2
        repeat (go_quiet (fail))
        go_meet
        case rel => exact ⟨_, (true), (by first | rfl ), H', ⟨by first | omega ⟩, ⟨by (with_reducible repeat (fail)); exact Kd.R_mono HO439.1 (fun _ hk => trivial)⟩, ⟨by (with_reducible repeat (fail)); exact BK405.1⟩, ⟨by repeat (first | (with_reducible first | exact HB.1 ) )⟩⟩
      ·rw [if_neg c45] at H
       have c45b0 : (t455 == 0) = false := beq_eq_false_iff_ne.mpr c45
       have c45b1 : (t455 != 0) = true := bne_iff_ne.mpr c45
       have H' := Sd.mk H
       clear H
       go_wp2
       repeat (go_quiet (fail))
       go_meet
       case rel => exact ⟨_, (true), (by first | rfl ), H', ⟨by first | omega ⟩, ⟨by (with_reducible repeat (fail)); exact Kd.R_mono HO439.1 (fun _ hk => trivial)⟩, ⟨by (with_reducible repeat (fail)); exact BK405.1⟩, ⟨by repeat (first | (with_reducible first | exact HB.1 ) )⟩⟩
     ·rw [if_neg c44] at H
      have c44b0 : (t440 == 0) = false := beq_eq_false_iff_ne.mpr c44
      have c44b1 : (t440 != 0) = true := bne_iff_ne.mpr c44
      have H' := Sd.mk H
      clear H
      go_wp2
      repeat (go_quiet (fail))
      go_meet
      case rel => exact ⟨_, (true), (by first | rfl ), H', ⟨by first | omega ⟩, ⟨by (with_reducible repeat (fail)); exact Kd.R_mono HO439.1 (fun _ hk => trivial)⟩, ⟨by (with_reducible repeat (fail)); exact BK405.1⟩, ⟨by repeat (first | (with_reducible first | exact HB.1 ) )⟩⟩
    ·rw [if_neg c43] at H
     have c43b0 : (t422 == 0) = false := beq_eq_false_iff_ne.mpr c43
     have c43b1 : (t422 != 0) = true := bne_iff_ne.mpr c43
     have H' := Sd.mk H
     clear H
     go_wp2
     repeat (go_quiet (fail))
     go_meet
     case rel => exact ⟨_, (true), (by first | rfl ), H', ⟨by first | omega ⟩, ⟨by (with_reducible repeat (fail)); exact Kd.R_mono HO439.1 (fun _ hk => trivial)⟩, ⟨by (with_reducible repeat (fail)); exact BK405.1⟩, ⟨by repeat (first | (with_reducible first | exact HB.1 ) )⟩⟩
   case rest =>
    clear HC16
    clear c6 c6b0 c6b1 c6b2
    clear z_18_0 z_18_1 z_18_2 z_18_3 z_20_0 z_20_1 z_20_2 z_20_3 z_27_0 z_27_1 z_27_2 z_27_3 z_35_0 z_35_1 z_35_2 z_35_3
    obtain ⟨kq, x85_15, rfl, HA, HJ15, HO_11, BK405, HB⟩ := hcut
    cases kq with
    | zero => exact absurd HA.1 (by simp [glisterlaw04_CipherBack.j0])
    | succ kj15 =>
     have H := HA.1
     clear HA
     simp only [glisterlaw04_CipherBack.j0] at H
     by_cases c51 : x85_15 = true
     ·subst c51
      rw [if_pos rfl] at H
      exact absurd H (by simp)
     ·replace c51 := Bool.eq_false_iff.mpr c51
      subst c51
      rw [if_neg (show ¬ (false = true) by decide)] at H
      have H' := Sd.mk H
      clear H
      go_wp2
      repeat (go_quiet (fail))
      go_loopg [15, 16] kj15 (fun kq v15 v16 w' => ∃ (x15_2 : List Int) (x16_2 : Int), v16 = .int .i64 x16_2 ∧ Sd (glisterlaw04_CipherBack.l0 kq l1 t437 x15_2 x16_2 a0_0 a0_1 l0_2 l0_3 = some r) ∧ Sd (kq ≤ kj15) ∧ Sd (Kd.R (Kd.int .i64) 3 w' w.heap.size (fun k_ => some k_ ≠ (v15 : Value).ownBlock) v438 t437) ∧ Sd (Kd.R (Kd.int .i64) 3 w' w.heap.size (fun k_ => some k_ ≠ (v438 : Value).ownBlock) v15 x15_2) ∧ Sd (w'.heap[gb405]? = some (.cells #[.int .i64 a0_0, .int .i64 a0_1, (.slice A0_2 l0_2.length c0_2), (.slice A0_3 l0_3.length c0_3)] 25 (0, 0))) ∧ Sd (Below w.heap.size w w'))
      case atStart => exact ⟨(([] : List Int)), (0), (by first | rfl ), H', ⟨Nat.le_refl _⟩, ⟨by (with_reducible repeat (fail)); exact Kd.R_mono HO_11.1 (fun _ hk => (by simp [Value.ownBlock]))⟩, ⟨by first | exact Kd.R_nil _ _ _ _ _ ⟩, ⟨by (with_reducible repeat (fail)); exact BK405.1⟩, ⟨by repeat (first | (with_reducible first | exact HB.1 ) )⟩⟩
      case round =>
       clear H'
       obtain ⟨x15_2, x16_2, rfl, HA, HK2, HO_11, HO_15, BK405, HB⟩ := hrel
       cases gk with
       | zero => exact absurd HA.1 (by simp [glisterlaw04_CipherBack.l0])
       | succ k2 =>
        have H := HA.1
        clear HA
        simp only [glisterlaw04_CipherBack.l0] at H
        by_cases c52 : x16_2 < (l1.length : Int)
        ·rw [if_pos c52] at H
         have c52b0 : decide (x16_2 < (l1.length : Int)) = true := decide_eq_true c52
         clear c52
         by_cases c53 : 0 ≤ x16_2
         ·rw [if_pos c53] at H
          have c53b0 : decide (0 ≤ x16_2) = true := decide_eq_true c53
          clear c53
          by_cases c54 : (rd l1 x16_2) < a0_1
          ·rw [if_pos c54] at H
           have c54b0 : decide ((rd l1 x16_2) < a0_1) = true := decide_eq_true c54
           clear c54
           by_cases c55 : x15_2.length < 17592186044416
           ·rw [if_pos c55] at H
            have LMc55 := Sd.mk c55
            clear c55
            obtain ⟨y460, hy460⟩ : ∃ y_ : List Int, y_ = (x15_2 ++ [rd l1 x16_2]) := ⟨_, rfl⟩
            replace H : (glisterlaw04_CipherBack.l0 k2 l1 t437 y460 (wrap64 (x16_2 + 1)) a0_0 a0_1 l0_2 l0_3) = some r := by first | (rw [hy460]; with_reducible exact H) 
            have Ny460 := Sd.mk hy460
            clear hy460
            have H' := Sd.mk H
            clear H
            have p458 : 0 ≤ (x16_2 : Int) := of_decide_eq_true (by first | (with_reducible assumption) )
            have q458 : x16_2 < (l1.length : Int) := of_decide_eq_true (by first | (with_reducible assumption) )
            obtain ⟨ad458, e458, hx458_0⟩ := Kd.at_int HR1.1 x16_2 p458 q458
            cases e458
            replace hx458_0 := (HB.1.cell (World.block_lt_of_cell? w _ hx458_0)).trans hx458_0
            replace p458 := eq_true p458
            replace q458 := eq_true q458
            have z_56_1 : wr.cell? ⟨gb405, 1, none⟩ = some (.int .i64 a0_1) := (kC BK405.1 1).trans rfl
            have p459 : 0 ≤ (x16_2 : Int) := of_decide_eq_true (by first | (with_reducible assumption) )
            have q459 : x16_2 < (l1.length : Int) := of_decide_eq_true (by first | (with_reducible assumption) )
            obtain ⟨ad459, e459, hx459_0⟩ := Kd.at_int HR1.1 x16_2 p459 q459
            obtain rfl : ad458 = ad459 := (by injection e459)
            replace hx459_0 := (HB.1.cell (World.block_lt_of_cell? w _ hx459_0)).trans hx459_0
            replace p459 := eq_true p459
            replace q459 := eq_true q459
            go_wp2_with (fail)
            repeat (go_quiet (fail); try go_wp2_with (first | ((with_reducible refine gate_builtin (b := .append) (xs := #[.tmp 99, .tmp 104]) rfl ?_); (try (refine gG (by rfl) ?_; dsimp only)); at_builtin; refine Kd.R_append (Kd.int .i64) (w0 := w) w.heap.size rfl (.tmp 99) (.tmp 104) 23 3 (.int .i64 0) 8 rfl Try.underlying23 info3 rfl (by decide) (by omega) u15 x15_2 (rd l1 x16_2) [.int .i64 (rd l1 x16_2)] (fun k_ => some k_ ≠ (v438 : Value).ownBlock) (fun _ => False) rfl rfl ?aP (fun _ hk => hk.elim) ?aF ?aO ?aB ?aS ?aL ?_; (case aP => exact rfl); (case aB => exact (by repeat (first | (with_reducible first | exact HB.1 | apply bN ) ))); (case aF => exact (fun k_ hk => Kd.fresh' (Kd.R_lt (by (with_reducible repeat (apply Kd.R_drewN )); exact HO_11.1)) k_ hk)); (case aO => exact (by (with_reducible repeat (apply Kd.R_drewN )); exact HO_15.1)); (case aS => exact (bZ (by repeat (first | (with_reducible first | exact HB.1 | apply bN ) )))); (case aL => have := LMc55.1; omega); intro v461 w57 ho hb hg hat; rw [← Ny460.1] at ho; replace HO_11 := Sd.mk (Kd.R_after (ok := (fun _ => True)) (by (with_reducible repeat (apply Kd.R_drewN )); exact Kd.R_mono HO_11.1 (fun _ hk => ⟨trivial, hk⟩)) hg hat); replace BK405 := Sd.mk (blk_grown (g := gb405) (o := .cells #[.int .i64 a0_0, .int .i64 a0_1, .slice A0_2 l0_2.length c0_2, .slice A0_3 l0_3.length c0_3] 25 (0, 0)) (by (with_reducible repeat (refine kN ?_ _ )); exact BK405.1) hg (Kd.R_ne HO_15.1 BK405.1 (by decide))); replace HB := Sd.mk (hb); have HO462 := Sd.mk (ho); clear HO_15; clear ho hb hg hat)))
            go_roundg k2
            case measure => have := HJ15.1; have := HK2.1; omega
            case rel => exact ⟨(y460), (wrap64 (x16_2 + 1)), (by first | rfl ), H', ⟨by have := HJ15.1; have := HK2.1; omega⟩, ⟨by (with_reducible repeat (fail)); exact Kd.R_mono HO_11.1 (fun _ hk => hk.2)⟩, ⟨by (with_reducible repeat (fail)); exact HO462.1⟩, ⟨by (with_reducible repeat (fail)); exact BK405.1⟩, ⟨by repeat (first | (with_reducible first | exact HB.1 ) )⟩⟩
           ·rw [if_neg c55] at H
            exact absurd H (by simp)
          ·rw [if_neg c54] at H
           have c54b0 : decide ((rd l1 x16_2) < a0_1) = false := decide_eq_false c54
           clear c54
           have H' := Sd.mk H
           clear H
           have p458 : 0 ≤ (x16_2 : Int) := of_decide_eq_true (by first | (with_reducible assumption) )
           have q458 : x16_2 < (l1.length : Int) := of_decide_eq_true (by first | (with_reducible assumption) )
           obtain ⟨ad458, e458, hx458_0⟩ := Kd.at_int HR1.1 x16_2 p458 q458
           cases e458
           replace hx458_0 := (HB.1.cell (World.block_lt_of_cell? w _ hx458_0)).trans hx458_0
           replace p458 := eq_true p458
           replace q458 := eq_true q458
           have z_58_1 : wr.cell? ⟨gb405, 1, none⟩ = some (.int .i64 a0_1) := (kC BK405.1 1).trans rfl
           go_wp2
           repeat (go_quiet (fail); try go_wp2)
           go_roundg k2
           case measure => have := HJ15.1; have := HK2.1; omega
           case rel => exact ⟨(x15_2), (wrap64 (x16_2 + 1)), (by first | rfl ), H', ⟨by have := HJ15.1; have := HK2.1; omega⟩, ⟨by (with_reducible repeat (apply Kd.R_drewN )); exact HO_11.1⟩, ⟨by (with_reducible repeat (apply Kd.R_drewN )); exact HO_15.1⟩, ⟨by (with_reducible repeat (refine kN ?_ _ )); exact BK405.1⟩, ⟨by repeat (first | (with_reducible first | exact HB.1 | apply bN ) )⟩⟩
         ·rw [if_neg c53] at H
          exact absurd H (by simp)
        ·rw [if_neg c52] at H
         have c52b0 : decide (x16_2 < (l1.length : Int)) = false := decide_eq_false c52
         clear c52
         obtain ⟨t463, A590, H⟩ := Option.bind_eq_some_iff.mp H
         have A59 := Sd.mk A590
         clear A590
         by_cases c60 : t463 = true
         ·subst c60
          rw [if_pos rfl] at H
          obtain ⟨t464, A610, H⟩ := Option.bind_eq_some_iff.mp H
          have A61 := Sd.mk A610
          clear A610
          obtain rfl := Option.some.inj H
          obtain ⟨Ao62, co62, eo62⟩ := Kd.R_slice HO_11.1
          subst eo62
          obtain ⟨Ao63, co63, eo63⟩ := Kd.R_slice HO_15.1
          subst eo63
          go_wp2_with (first | (go_at_call 25; (with_reducible refine (glisterref04_Same.calls k2 _ _ t437 _ _ x15_2 true _ ?side1 ?side2 ?side3 ?side4 A59.1).mono ?_); (case side1 => repeat (first | exact (Kd.R_reads' HO_11.1).2.2 )); (case side2 => exact (Kd.R_reads' HO_11.1).2.1); (case side3 => repeat (first | exact (Kd.R_reads' HO_15.1).2.2 )); (case side4 => exact (Kd.R_reads' HO_15.1).2.1); rintro e w' ⟨rfl, ⟨nd, rfl⟩⟩; (try fail)) | (go_at_call 17; (with_reducible refine (glisterlaw04_awake.calls  t464 _ A61.1).mono ?_); rintro e w64 ⟨rfl, hb⟩; replace HO_11 := Sd.mk (Kd.R_below (by (with_reducible repeat (apply Kd.R_drewN )); exact HO_11.1) hb); replace HO_15 := Sd.mk (Kd.R_below (by (with_reducible repeat (apply Kd.R_drewN )); exact HO_15.1) hb); replace BK405 := Sd.mk (kB (g := gb405) (o := .cells #[.int .i64 a0_0, .int .i64 a0_1, .slice A0_2 l0_2.length c0_2, .slice A0_3 l0_3.length c0_3] 25 (0, 0)) (by (with_reducible repeat (refine kN ?_ _ )); exact BK405.1) hb); replace HB := Sd.mk (bT (by repeat (first | (with_reducible first | exact HB.1 | apply bN ) )) hb); (try clear hb)))
          repeat (go_quiet (fail))
          go_ret
          exact ⟨by first | rfl , by repeat (first | (with_reducible first | exact HB.1 ) )⟩
         ·replace c60 := Bool.eq_false_iff.mpr c60
          subst c60
          rw [if_neg (show ¬ (false = true) by decide)] at H
          exact absurd H (by simp)
 ·replace c5 := Bool.eq_false_iff.mpr c5
  subst c5
  rw [if_neg (show ¬ (false = true) by decide)] at H
  obtain ⟨t407, A650, H⟩ := Option.bind_eq_some_iff.mp H
  have A65 := Sd.mk A650
  clear A650
  obtain rfl := Option.some.inj H
  go_enter Try.func6, Try.ntmps6
  go_wp2_with (first | ((with_reducible refine gD (N := 3) rfl ?_); (try (refine gG (by rfl) ?_; dsimp only)); refine xE ?hg (N := 3) ?hd (cs := #[.int .i64 a0_0, .int .i64 a0_1, .slice A0_2 l0_2.length c0_2, .slice A0_3 l0_3.length c0_3]) (t := 25) ?hr ?_; (case hd => rfl); (case hg => rfl); (case hr => first | (go_simp; done) ); intro gb405 hg w66 hbox hb; have BK405 := Sd.mk (hbox); have GW405 := Sd.mk ((by rw [hg]; exact (bZ (by repeat (first | (with_reducible first | exact HB.1 ) ))) : w.heap.size ≤ gb405)); have GE405 := Sd.mk ((by rw [hg]; exact (bZ (by repeat (first | (with_reducible first | exact HB.1 ) ))) : w.heap.size ≤ gb405)); replace HB := Sd.mk (bT (by repeat (first | (with_reducible first | exact HB.1 ) )) hb); clear hb hbox hg; have z_67_0 : w66.cell? ⟨gb405, 0, none⟩ = some (.int .i64 a0_0) := (kC BK405.1 0).trans rfl; have z_67_1 : w66.cell? ⟨gb405, 1, none⟩ = some (.int .i64 a0_1) := (kC BK405.1 1).trans rfl; have z_67_2 : w66.cell? ⟨gb405, 2, none⟩ = some (.slice A0_2 l0_2.length c0_2) := (kC BK405.1 2).trans rfl; have z_67_3 : w66.cell? ⟨gb405, 3, none⟩ = some (.slice A0_3 l0_3.length c0_3) := (kC BK405.1 3).trans rfl) | (go_at_call 33; (with_reducible refine (glisterlaw04_ready.calls k a0_0 a0_1 _ _ l0_2 _ _ l0_3 _ _ l1 false _ ?side1 ?side2 ?side3 ?side4 ?side5 ?side6 A4.1).mono ?_); (case side1 => repeat (first | exact (Kd.C_below HR0_2.1 HB.1) )); (case side2 => exact HC0_2.1); (case side3 => repeat (first | exact (Kd.C_below HR0_3.1 HB.1) )); (case side4 => exact HC0_3.1); (case side5 => repeat (first | exact (Kd.C_below HR1.1 HB.1) )); (case side6 => exact HC1.1); rintro e w68 ⟨rfl, hb⟩; replace BK405 := Sd.mk (kB (g := gb405) (o := .cells #[.int .i64 a0_0, .int .i64 a0_1, .slice A0_2 l0_2.length c0_2, .slice A0_3 l0_3.length c0_3] 25 (0, 0)) (by (with_reducible repeat (fail)); exact BK405.1) hb); replace HB := Sd.mk (bT (by repeat (first | (with_reducible first | exact HB.1 ) )) hb); (try clear hb)) | (go_at_call 17; (with_reducible refine (glisterlaw04_awake.calls  t407 _ A65.1).mono ?_); rintro e w69 ⟨rfl, hb⟩; replace BK405 := Sd.mk (kB (g := gb405) (o := .cells #[.int .i64 a0_0, .int .i64 a0_1, .slice A0_2 l0_2.length c0_2, .slice A0_3 l0_3.length c0_3] 25 (0, 0)) (by (with_reducible repeat (fail)); exact BK405.1) hb); replace HB := Sd.mk (bT (by repeat (first | (with_reducible first | exact HB.1 ) )) hb); (try clear hb)))
  repeat (go_quiet (fail))
  go_ret
  exact ⟨by first | rfl , by repeat (first | (with_reducible first | exact HB.1 ) )⟩
end Go.Proofs.Ytnidgkmopocdkaa.P
