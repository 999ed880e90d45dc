import Derived.Test.YtnidgkmopocdkaaA8P0
import Derived.Test.YtnidgkmopocdkaaA8P3
import Derived.Test.YtnidgkmopocdkaaA8P4
import Derived.Test.YtnidgkmopocdkaaA8P8
import Derived.Test.YtnidgkmopocdkaaA8P15
import Derived.Test.YtnidgkmopocdkaaA8P17
import Derived.Test.YtnidgkmopocdkaaA8HAwake
import Derived.Test.YtnidgkmopocdkaaA8HPlan
namespace Go.Proofs.Ytnidgkmopocdkaa.P
open Go.RowKit Go.Proofs.YtnidgkmopocdkaaW.PrintWords Go.Proofs.YtnidgkmopocdkaaW.PrintLast Go.Proofs.YtnidgkmopocdkaaW.PrintMore
attribute [local go_sem] max2_int min2_int max_two min_two max_three min_three max_four min_four   -- for this text's walks alone
set_option linter.unusedVariables false
set_option linter.unusedSimpArgs false
mutual
def glisterlaw04_CipherKept.j0 : Nat → List Int → Bool → Option (Bool)
 | 0, _, _ => none
 | k + 1, x11, x64 => if x64 = true then (none) else (glisterlaw04_CipherKept.l0 k x11 0)
def glisterlaw04_CipherKept.l0 : Nat → List Int → Int → Option (Bool)
 | 0, _, _ => none
 | k + 1, x11, x13 => if x13 < (x11.length : Int) then (if 0 ≤ x13 then (if (rd x11 x13) = x13 then (none) else (glisterlaw04_CipherKept.l0 k x11 (wrap64 (x13 + 1)))) else (none)) else ((glisterlaw04_awake.f).bind fun t652 => (some t652))
end
def glisterlaw04_CipherKept.f (k : Nat) (a0_0 : Int) (a0_1 : Int) (l0_2 : List (S82)) (l0_3 : List Int) (l1 : List (S58)) (a2 : Int) : Option (Bool) := (glisterlaw04_lossed.f k a0_0 a0_1 l0_2 l0_3 l1).bind fun t613 => (if t613 = true then ((glisterlaw04_Book.f k a0_0 a0_1 l0_2 l0_3).bind fun bt615 => ((glisterlaw04_Losses.f k l1).bind fun t623 => ((cipher_Plan.f bt615.1 bt615.2.1 bt615.2.2.1 bt615.2.2.2 t623 (Int.tmod (wrap64 (a2)) 9)).bind fun bt626 => (if bt626.2.2 = 0 then (if (bt626.1.length : Int) = (l0_3.length : Int) then ((glisterlaw04_Book.f k a0_0 a0_1 l0_2 l0_3).bind fun bt632 => ((glisterlaw04_list.f bt626.1).bind fun t641 => ((glisterlaw04_Losses.f k l1).bind fun t644 => ((cipher_Exposed.f k bt632.1 bt632.2.1 bt632.2.2.1 t641 t644).bind fun bt647 => (if bt647.2 = 0 then (glisterlaw04_CipherKept.j0 k bt647.1 ((bt647.1.length : Int) != (bt626.1.length : Int))) else (glisterlaw04_CipherKept.j0 k bt647.1 true)))))) else (none)) else (if bt626.2.2 = 10 then ((glisterlaw04_awake.f).bind fun t631 => (some t631)) else (none)))))) else ((glisterlaw04_awake.f).bind fun t614 => (some t614)))
def glisterlaw04_CipherKept.T10 : Bool × List (List Nat × List Nat) := (true, [([], []), ([], []), ([1], [1]), ([0, 2, 2], [0, 2]), ([3], [3]), ([4], [4]), ([4], [4]), ([5, 3, 0, 1, 2, 3, 4, 5], [5]), ([6, 7, 0, 1, 2, 3, 4, 5, 6, 7], [6])])
def glisterlaw04_CipherKept.B10 : List Nat := [0, 0, 2, 7, 15, 31, 31, 63, 255]
theorem glisterlaw04_CipherKept.tab10 : rtab .any (opsOf Try.f10 10) = glisterlaw04_CipherKept.T10 := by kernel_rfl
theorem glisterlaw04_CipherKept.bits10 : waitsOk glisterlaw04_CipherKept.T10.2 glisterlaw04_CipherKept.B10 = true := by kernel_rfl
set_option maxHeartbeats 8000000 in
set_option maxRecDepth 100000 in
theorem glisterlaw04_CipherKept.calls (k : Nat) (a0_0 : Int) (a0_1 : Int) (A0_2 : Option Addr) (c0_2 : Nat) (l0_2 : List (S82)) (A0_3 : Option Addr) (c0_3 : Nat) (l0_3 : List Int) (A1 : Option Addr) (c1 : Nat) (l1 : List (S58)) (a2 : Int) (r : Bool) (w : World) (hr0_2 : Kd.C k82 w A0_2 l0_2.length l0_2) (hc0_2 : l0_2.length ≤ c0_2) (hr0_3 : Kd.C (Kd.int .i64) w A0_3 l0_3.length l0_3) (hc0_3 : l0_3.length ≤ c0_3) (hr1 : Kd.C k58 w A1 l1.length l1) (hc1 : l1.length ≤ c1) (h : glisterlaw04_CipherKept.f k a0_0 a0_1 l0_2 l0_3 l1 a2 = some r) :
  Calls Try.prog 10 #[.agg #[.int .i64 a0_0, .int .i64 a0_1, .slice A0_2 l0_2.length c0_2, .slice A0_3 l0_3.length c0_3], .slice A1 l1.length c1, .int .u8 a2] w fun e w' => e = .returned (.bool r) ∧ Below w.heap.size w w' := by
 have hu25 := Try.underlying25
 have hu32 := Try.underlying32
 have HR0_2 := Sd.mk hr0_2
 have HC0_2 := Sd.mk hc0_2
 clear hr0_2 hc0_2
 have HR0_3 := Sd.mk hr0_3
 have HC0_3 := Sd.mk hc0_3
 clear hr0_3 hc0_3
 have HR1 := Sd.mk hr1
 have HC1 := Sd.mk hc1
 clear hr1 hc1
 have HB := Sd.mk (Below.refl w.heap.size w)
 have H : ((glisterlaw04_lossed.f k a0_0 a0_1 l0_2 l0_3 l1).bind fun t613 => (if t613 = true then ((glisterlaw04_Book.f k a0_0 a0_1 l0_2 l0_3).bind fun bt615 => ((glisterlaw04_Losses.f k l1).bind fun t623 => ((cipher_Plan.f bt615.1 bt615.2.1 bt615.2.2.1 bt615.2.2.2 t623 (Int.tmod (wrap64 (a2)) 9)).bind fun bt626 => (if bt626.2.2 = 0 then (if (bt626.1.length : Int) = (l0_3.length : Int) then ((glisterlaw04_Book.f k a0_0 a0_1 l0_2 l0_3).bind fun bt632 => ((glisterlaw04_list.f bt626.1).bind fun t641 => ((glisterlaw04_Losses.f k l1).bind fun t644 => ((cipher_Exposed.f k bt632.1 bt632.2.1 bt632.2.2.1 t641 t644).bind fun bt647 => (if bt647.2 = 0 then (glisterlaw04_CipherKept.j0 k bt647.1 ((bt647.1.length : Int) != (bt626.1.length : Int))) else (glisterlaw04_CipherKept.j0 k bt647.1 true)))))) else (none)) else (if bt626.2.2 = 10 then ((glisterlaw04_awake.f).bind fun t631 => (some t631)) else (none)))))) else ((glisterlaw04_awake.f).bind fun t614 => (some t614)))) = some r := h
 clear h
 obtain ⟨t613, A40, H⟩ := Option.bind_eq_some_iff.mp H
 have A4 := Sd.mk A40
 clear A40
 by_cases c5 : t613 = true
 ·subst c5
  rw [if_pos rfl] at H
  replace H := Option.bind_eq_some_iff.mp H
  obtain ⟨⟨t615, t616, t617, t620⟩, A60, H⟩ := H
  replace H : ((glisterlaw04_Losses.f k l1).bind fun t623 => ((cipher_Plan.f t615 t616 t617 t620 t623 (Int.tmod (wrap64 (a2)) 9)).bind fun bt626 => (if bt626.2.2 = 0 then (if (bt626.1.length : Int) = (l0_3.length : Int) then ((glisterlaw04_Book.f k a0_0 a0_1 l0_2 l0_3).bind fun bt632 => ((glisterlaw04_list.f bt626.1).bind fun t641 => ((glisterlaw04_Losses.f k l1).bind fun t644 => ((cipher_Exposed.f k bt632.1 bt632.2.1 bt632.2.2.1 t641 t644).bind fun bt647 => (if bt647.2 = 0 then (glisterlaw04_CipherKept.j0 k bt647.1 ((bt647.1.length : Int) != (bt626.1.length : Int))) else (glisterlaw04_CipherKept.j0 k bt647.1 true)))))) else (none)) else (if bt626.2.2 = 10 then ((glisterlaw04_awake.f).bind fun t631 => (some t631)) else (none))))) = some r := H
  have A6 := Sd.mk A60
  clear A60
  obtain ⟨t623, A70, H⟩ := Option.bind_eq_some_iff.mp H
  have A7 := Sd.mk A70
  clear A70
  replace H := Option.bind_eq_some_iff.mp H
  obtain ⟨⟨t626, t629, t630⟩, A80, H⟩ := H
  replace H : (if t630 = 0 then (if (t626.length : Int) = (l0_3.length : Int) then ((glisterlaw04_Book.f k a0_0 a0_1 l0_2 l0_3).bind fun bt632 => ((glisterlaw04_list.f t626).bind fun t641 => ((glisterlaw04_Losses.f k l1).bind fun t644 => ((cipher_Exposed.f k bt632.1 bt632.2.1 bt632.2.2.1 t641 t644).bind fun bt647 => (if bt647.2 = 0 then (glisterlaw04_CipherKept.j0 k bt647.1 ((bt647.1.length : Int) != (t626.length : Int))) else (glisterlaw04_CipherKept.j0 k bt647.1 true)))))) else (none)) else (if t630 = 10 then ((glisterlaw04_awake.f).bind fun t631 => (some t631)) else (none))) = some r := H
  have A8 := Sd.mk A80
  clear A80
  by_cases c9 : t630 = 0
  ·rw [if_pos c9] at H
   have c9b0 : (t630 == 0) = true := beq_iff_eq.mpr c9
   have c9b1 : (t630 != 0) = false := bne_eq_false_iff_eq.mpr c9
   clear c9
   by_cases c10 : (t626.length : Int) = (l0_3.length : Int)
   ·rw [if_pos c10] at H
    have c10b0 : ((t626.length : Int) == (l0_3.length : Int)) = true := beq_iff_eq.mpr c10
    have c10b1 : ((t626.length : Int) != (l0_3.length : Int)) = false := bne_eq_false_iff_eq.mpr c10
    have c10b2 : (t626.length == l0_3.length) = true := by first | (simp at c10 ⊢; omega)
    clear c10
    replace H := Option.bind_eq_some_iff.mp H
    obtain ⟨⟨t632, t633, t634, t637⟩, A110, H⟩ := H
    replace H : ((glisterlaw04_list.f t626).bind fun t641 => ((glisterlaw04_Losses.f k l1).bind fun t644 => ((cipher_Exposed.f k t632 t633 t634 t641 t644).bind fun bt647 => (if bt647.2 = 0 then (glisterlaw04_CipherKept.j0 k bt647.1 ((bt647.1.length : Int) != (t626.length : Int))) else (glisterlaw04_CipherKept.j0 k bt647.1 true))))) = some r := H
    have A11 := Sd.mk A110
    clear A110
    obtain ⟨t641, A120, H⟩ := Option.bind_eq_some_iff.mp H
    have A12 := Sd.mk A120
    clear A120
    obtain ⟨t644, A130, H⟩ := Option.bind_eq_some_iff.mp H
    have A13 := Sd.mk A130
    clear A130
    replace H := Option.bind_eq_some_iff.mp H
    obtain ⟨⟨t647, t650⟩, A140, H⟩ := H
    replace H : (if t650 = 0 then (glisterlaw04_CipherKept.j0 k t647 ((t647.length : Int) != (t626.length : Int))) else (glisterlaw04_CipherKept.j0 k t647 true)) = some r := H
    have A14 := Sd.mk A140
    clear A140
    have HC15 := Sd.mk H
    clear H
    go_enter Try.func10, Try.ntmps10
    try go_wp2_with (first | ((with_reducible refine gD (N := 3) rfl ?_); (try (refine gG (by rfl) ?_; dsimp only)); refine xE ?hg (N := 3) ?hd (cs := #[.int .i64 a0_0, .int .i64 a0_1, .slice A0_2 l0_2.length c0_2, .slice A0_3 l0_3.length c0_3]) (t := 25) ?hr ?_; (case hd => rfl); (case hg => rfl); (case hr => first | (go_simp; done) ); intro gb612 hg w16 hbox hb; have BK612 := Sd.mk (hbox); have GW612 := Sd.mk ((by rw [hg]; exact (bZ (by repeat (first | (with_reducible first | exact HB.1 ) ))) : w.heap.size ≤ gb612)); have GE612 := Sd.mk ((by rw [hg]; exact (bZ (by repeat (first | (with_reducible first | exact HB.1 ) ))) : w.heap.size ≤ gb612)); replace HB := Sd.mk (bT (by repeat (first | (with_reducible first | exact HB.1 ) )) hb); clear hb hbox hg; have z_17_0 : w16.cell? ⟨gb612, 0, none⟩ = some (.int .i64 a0_0) := (kC BK612.1 0).trans rfl; have z_17_1 : w16.cell? ⟨gb612, 1, none⟩ = some (.int .i64 a0_1) := (kC BK612.1 1).trans rfl; have z_17_2 : w16.cell? ⟨gb612, 2, none⟩ = some (.slice A0_2 l0_2.length c0_2) := (kC BK612.1 2).trans rfl; have z_17_3 : w16.cell? ⟨gb612, 3, none⟩ = some (.slice A0_3 l0_3.length c0_3) := (kC BK612.1 3).trans rfl) | ((with_reducible refine gate_callee (f := 34) rfl ?_); refine goesL_ (some 16) rfl rfl Try.func34 (by kernel_rfl) rfl #[.agg #[.int .i64 a0_0, .int .i64 a0_1, .slice A0_2 l0_2.length c0_2, .slice A0_3 l0_3.length c0_3], .slice A1 l1.length c1] rfl (by (try simp only [List.map_toArray, List.map_cons, List.map_nil]); first | rfl ) ?_; (with_reducible refine (glisterlaw04_lossed.calls k a0_0 a0_1 _ _ l0_2 _ _ l0_3 _ _ l1 true _ ?side1 ?side2 ?side3 ?side4 ?side5 ?side6 A4.1).mono ?_); (case side1 => repeat (first | exact (Kd.C_below HR0_2.1 HB.1) )); (case side2 => exact HC0_2.1); (case side3 => repeat (first | exact (Kd.C_below HR0_3.1 HB.1) )); (case side4 => exact HC0_3.1); (case side5 => repeat (first | exact (Kd.C_below HR1.1 HB.1) )); (case side6 => exact HC1.1); rintro e w18 ⟨rfl, hb⟩; refine ⟨_, rfl, ?_⟩; replace BK612 := Sd.mk (kB (g := gb612) (o := .cells #[.int .i64 a0_0, .int .i64 a0_1, .slice A0_2 l0_2.length c0_2, .slice A0_3 l0_3.length c0_3] 25 (0, 0)) (by (with_reducible repeat (fail)); exact BK612.1) hb); replace HB := Sd.mk (bT (by repeat (first | (with_reducible first | exact HB.1 ) )) hb); (try clear hb); have z_19_0 : w18.cell? ⟨gb612, 0, none⟩ = some (.int .i64 a0_0) := (kC BK612.1 0).trans rfl; have z_19_1 : w18.cell? ⟨gb612, 1, none⟩ = some (.int .i64 a0_1) := (kC BK612.1 1).trans rfl; have z_19_2 : w18.cell? ⟨gb612, 2, none⟩ = some (.slice A0_2 l0_2.length c0_2) := (kC BK612.1 2).trans rfl; have z_19_3 : w18.cell? ⟨gb612, 3, none⟩ = some (.slice A0_3 l0_3.length c0_3) := (kC BK612.1 3).trans rfl) | ((with_reducible refine gate_callee (f := 19) rfl ?_); refine goesL_ (some 21) rfl rfl Try.func19 (by kernel_rfl) rfl #[.agg #[.int .i64 a0_0, .int .i64 a0_1, .slice A0_2 l0_2.length c0_2, .slice A0_3 l0_3.length c0_3]] rfl (by (try simp only [List.map_toArray, List.map_cons, List.map_nil]); first | rfl ) ?_; (with_reducible refine (glisterlaw04_Book.calls k a0_0 a0_1 _ _ l0_2 _ _ l0_3 t615 t616 t617 t620 _ ?side1 ?side2 ?side3 ?side4 A6.1).mono ?_); (case side1 => repeat (first | exact (Kd.C_below HR0_2.1 HB.1) )); (case side2 => exact HC0_2.1); (case side3 => repeat (first | exact (Kd.C_below HR0_3.1 HB.1) )); (case side4 => exact HC0_3.1); rintro e w20 ⟨v618, v621, rfl, ho0, ho1, hb⟩; refine ⟨_, rfl, ?_⟩; have HO619 := Sd.mk (Kd.R_lower ho0 (bZ (by repeat (first | (with_reducible first | exact HB.1 ) )))); have HO622 := Sd.mk (Kd.R_lower ho1 (bZ (by repeat (first | (with_reducible first | exact HB.1 ) )))); replace BK612 := Sd.mk (kB (g := gb612) (o := .cells #[.int .i64 a0_0, .int .i64 a0_1, .slice A0_2 l0_2.length c0_2, .slice A0_3 l0_3.length c0_3] 25 (0, 0)) (by (with_reducible repeat (fail)); exact BK612.1) hb); replace HB := Sd.mk (bT (by repeat (first | (with_reducible first | exact HB.1 ) )) hb); (try clear hb); (try clear ho0); (try clear ho1); (try clear A6)) | ((with_reducible refine gate_callee (f := 30) rfl ?_); refine goesL_ (some 23) rfl rfl Try.func30 (by kernel_rfl) rfl #[.slice A1 l1.length c1] rfl (by (try simp only [List.map_toArray, List.map_cons, List.map_nil]); first | rfl ) ?_; (with_reducible refine (glisterlaw04_Losses.calls k _ _ l1 t623 _ ?side1 ?side2 A7.1).mono ?_); (case side1 => repeat (first | exact (Kd.C_below HR1.1 HB.1) )); (case side2 => exact HC1.1); rintro e w21 ⟨v624, rfl, ho0, hb⟩; refine ⟨_, rfl, ?_⟩; replace HO619 := Sd.mk (Kd.R_below (by (with_reducible repeat (fail)); exact HO619.1) hb); replace HO622 := Sd.mk (Kd.R_below (by (with_reducible repeat (fail)); exact HO622.1) hb); have HO625 := Sd.mk (Kd.R_lower ho0 (bZ (by repeat (first | (with_reducible first | exact HB.1 ) )))); replace BK612 := Sd.mk (kB (g := gb612) (o := .cells #[.int .i64 a0_0, .int .i64 a0_1, .slice A0_2 l0_2.length c0_2, .slice A0_3 l0_3.length c0_3] 25 (0, 0)) (by (with_reducible repeat (fail)); exact BK612.1) hb); replace HB := Sd.mk (bT (by repeat (first | (with_reducible first | exact HB.1 ) )) hb); (try clear hb); (try clear ho0); obtain ⟨Ao22, co22, eo22⟩ := Kd.R_slice HO619.1; subst eo22; obtain ⟨Ao23, co23, eo23⟩ := Kd.R_slice HO622.1; subst eo23; obtain ⟨Ao24, co24, eo24⟩ := Kd.R_slice HO625.1; subst eo24) | ((with_reducible refine gate_callee (f := 35) rfl ?_); refine goesL_ (some 27) rfl rfl Try.func35 (by kernel_rfl) rfl #[.agg #[.int .i64 t615, .int .i64 t616, .slice Ao22 t617.length co22, .slice Ao23 t620.length co23], .slice Ao24 t623.length co24, .int .i64 (Int.tmod (wrap64 (a2)) 9)] rfl (by (try simp only [List.map_toArray, List.map_cons, List.map_nil]); first | rfl ) ?_; (with_reducible refine (cipher_Plan.calls t615 t616 _ _ t617 _ _ t620 _ _ t623 (Int.tmod (wrap64 (a2)) 9) t626 t629 t630 _ ?side1 ?side2 ?side3 ?side4 ?side5 ?side6 A8.1).mono ?_); (case side1 => repeat (first | exact (Kd.R_reads' HO619.1).2.2 )); (case side2 => exact (Kd.R_reads' HO619.1).2.1); (case side3 => repeat (first | exact (Kd.R_reads' HO622.1).2.2 )); (case side4 => exact (Kd.R_reads' HO622.1).2.1); (case side5 => repeat (first | exact (Kd.R_reads' HO625.1).2.2 )); (case side6 => exact (Kd.R_reads' HO625.1).2.1); rintro e w25 ⟨v627, rfl, ho0, hb⟩; refine ⟨_, rfl, ?_⟩; replace HO619 := Sd.mk (Kd.R_below (by (with_reducible repeat (fail)); exact HO619.1) hb); replace HO625 := Sd.mk (Kd.R_below (by (with_reducible repeat (fail)); exact HO625.1) hb); have HO628 := Sd.mk (Kd.R_lower (Kd.R_new' ho0 (Kd.R_lt (by (with_reducible repeat (fail)); exact HO622.1))) (bZ (by repeat (first | (with_reducible first | exact HB.1 ) )))); replace HO622 := Sd.mk (Kd.R_elder' (by (with_reducible repeat (fail)); exact HO622.1) (Kd.R_base ho0) hb); replace BK612 := Sd.mk (kB (g := gb612) (o := .cells #[.int .i64 a0_0, .int .i64 a0_1, .slice A0_2 l0_2.length c0_2, .slice A0_3 l0_3.length c0_3] 25 (0, 0)) (by (with_reducible repeat (fail)); exact BK612.1) hb); replace HB := Sd.mk (bT (by repeat (first | (with_reducible first | exact HB.1 ) )) hb); (try clear hb); (try clear ho0); obtain ⟨Ao26, co26, eo26⟩ := Kd.R_slice HO628.1; subst eo26; have z_27_0 : w25.cell? ⟨gb612, 0, none⟩ = some (.int .i64 a0_0) := (kC BK612.1 0).trans rfl; have z_27_1 : w25.cell? ⟨gb612, 1, none⟩ = some (.int .i64 a0_1) := (kC BK612.1 1).trans rfl; have z_27_2 : w25.cell? ⟨gb612, 2, none⟩ = some (.slice A0_2 l0_2.length c0_2) := (kC BK612.1 2).trans rfl; have z_27_3 : w25.cell? ⟨gb612, 3, none⟩ = some (.slice A0_3 l0_3.length c0_3) := (kC BK612.1 3).trans rfl) | ((with_reducible refine gate_callee (f := 19) rfl ?_); refine goesL_ (some 45) rfl rfl Try.func19 (by kernel_rfl) rfl #[.agg #[.int .i64 a0_0, .int .i64 a0_1, .slice A0_2 l0_2.length c0_2, .slice A0_3 l0_3.length c0_3]] rfl (by (try simp only [List.map_toArray, List.map_cons, List.map_nil]); first | rfl ) ?_; (with_reducible refine (glisterlaw04_Book.calls k a0_0 a0_1 _ _ l0_2 _ _ l0_3 t632 t633 t634 t637 _ ?side1 ?side2 ?side3 ?side4 A11.1).mono ?_); (case side1 => repeat (first | exact (Kd.C_below HR0_2.1 HB.1) )); (case side2 => exact HC0_2.1); (case side3 => repeat (first | exact (Kd.C_below HR0_3.1 HB.1) )); (case side4 => exact HC0_3.1); rintro e w28 ⟨v635, v638, rfl, ho0, ho1, hb⟩; refine ⟨_, rfl, ?_⟩; replace HO625 := Sd.mk (Kd.R_below (by (with_reducible repeat (fail)); exact HO625.1) hb); have HO636 := Sd.mk (Kd.R_lower (Kd.R_new' ho0 (Kd.R_lt (by (with_reducible repeat (fail)); exact HO619.1))) (bZ (by repeat (first | (with_reducible first | exact HB.1 ) )))); replace HO619 := Sd.mk (Kd.R_elder' (by (with_reducible repeat (fail)); exact HO619.1) (Kd.R_base ho0) hb); have HO639 := Sd.mk (Kd.R_lower (Kd.R_new' (Kd.R_new' ho1 (Kd.R_lt (by (with_reducible repeat (fail)); exact HO622.1))) (Kd.R_lt (by (with_reducible repeat (fail)); exact HO628.1))) (bZ (by repeat (first | (with_reducible first | exact HB.1 ) )))); replace HO622 := Sd.mk (Kd.R_elder' (by (with_reducible repeat (fail)); exact HO622.1) (Kd.R_base ho1) hb); replace HO628 := Sd.mk (Kd.R_elder' (by (with_reducible repeat (fail)); exact HO628.1) (Kd.R_base ho1) hb); replace BK612 := Sd.mk (kB (g := gb612) (o := .cells #[.int .i64 a0_0, .int .i64 a0_1, .slice A0_2 l0_2.length c0_2, .slice A0_3 l0_3.length c0_3] 25 (0, 0)) (by (with_reducible repeat (fail)); exact BK612.1) hb); replace HB := Sd.mk (bT (by repeat (first | (with_reducible first | exact HB.1 ) )) hb); (try clear hb); (try clear ho0); (try clear ho1); (try clear A11)) | ((with_reducible refine gD (N := 10) rfl ?_); (try (refine gG (by rfl) ?_; dsimp only)); refine xE ?hg (N := 10) ?hd (cs := #[.int .i64 0, .int .i64 0, .slice none 0 0, .slice none 0 0]) (t := 32) ?hr ?_; (case hd => rfl); (case hg => rfl); (case hr => first | (go_simp; done) ); intro gb640 hg w29 hbox hb; replace HO619 := Sd.mk (Kd.R_below (by (with_reducible repeat (fail)); exact HO619.1) hb); replace HO622 := Sd.mk (Kd.R_below (by (with_reducible repeat (fail)); exact HO622.1) hb); replace HO625 := Sd.mk (Kd.R_below (by (with_reducible repeat (fail)); exact HO625.1) hb); replace HO628 := Sd.mk (Kd.R_below (by (with_reducible repeat (fail)); exact HO628.1) hb); replace HO636 := Sd.mk (Kd.R_below (by (with_reducible repeat (fail)); exact HO636.1) hb); replace HO639 := Sd.mk (Kd.R_below (by (with_reducible repeat (fail)); exact HO639.1) hb); have BK640 := Sd.mk (hbox); have GW640 := Sd.mk ((by rw [hg]; exact (bZ (by repeat (first | (with_reducible first | exact HB.1 ) ))) : w.heap.size ≤ gb640)); have GE640 := Sd.mk ((by rw [hg]; exact (bZ (by repeat (first | (with_reducible first | exact HB.1 ) ))) : w.heap.size ≤ gb640)); replace HB := Sd.mk (bT (by repeat (first | (with_reducible first | exact HB.1 ) )) hb); have NB612_640 := Sd.mk ((by rw [hg]; exact Nat.ne_of_lt (blk_lt (g := gb612) (o := .cells #[.int .i64 a0_0, .int .i64 a0_1, .slice A0_2 l0_2.length c0_2, .slice A0_3 l0_3.length c0_3] 25 (0, 0)) (by (with_reducible repeat (fail)); exact BK612.1)) : gb612 ≠ gb640)); have NB640_612 := Sd.mk ((by rw [hg]; exact Nat.ne_of_gt (blk_lt (g := gb612) (o := .cells #[.int .i64 a0_0, .int .i64 a0_1, .slice A0_2 l0_2.length c0_2, .slice A0_3 l0_3.length c0_3] 25 (0, 0)) (by (with_reducible repeat (fail)); exact BK612.1)) : gb640 ≠ gb612)); replace BK612 := Sd.mk (kB (g := gb612) (o := .cells #[.int .i64 a0_0, .int .i64 a0_1, .slice A0_2 l0_2.length c0_2, .slice A0_3 l0_3.length c0_3] 25 (0, 0)) (by (with_reducible repeat (fail)); exact BK612.1) hb); clear hb hbox hg; have hnb30 := NB640_612.1; have hnc30 := NB612_640.1; have z_31_0 : w29.cell? ⟨gb640, 0, none⟩ = some (.int .i64 0) := (kC BK640.1 0).trans rfl; have z_31_1 : w29.cell? ⟨gb640, 1, none⟩ = some (.int .i64 0) := (kC BK640.1 1).trans rfl; have z_31_2 : w29.cell? ⟨gb640, 2, none⟩ = some (.slice none 0 0) := (kC BK640.1 2).trans rfl; have z_31_3 : w29.cell? ⟨gb640, 3, none⟩ = some (.slice none 0 0) := (kC BK640.1 3).trans rfl; have hfz31_0 := kF BK640.1 0; have hfz31_1 := kF BK640.1 1; have hfz31_2 := kF BK640.1 2; have hfz31_3 := kF BK640.1 3; obtain ⟨Ao32, co32, eo32⟩ := Kd.R_slice HO636.1; subst eo32; obtain ⟨Ao33, co33, eo33⟩ := Kd.R_slice HO639.1; subst eo33) | ((with_reducible refine gate_callee (f := 21) rfl ?_); refine goesL_ (some 47) rfl rfl Try.func21 (by kernel_rfl) rfl #[.slice Ao26 t626.length co26] rfl (by (try simp only [List.map_toArray, List.map_cons, List.map_nil]); first | rfl ) ?_; (with_reducible refine (glisterlaw04_list.calls _ _ t626 t641 _ ?side1 ?side2 A12.1).mono ?_); (case side1 => refine (Kd.R_reads' (e := 3) (base := w.heap.size) (ok := fun k_ => ((True ∧ some k_ ≠ (.slice Ao23 t620.length co23 : Value).ownBlock) ∧ some k_ ≠ (.slice Ao33 t637.length co33 : Value).ownBlock)) (n := t626.length) (c := co26) ?_).2.2; exact (by (with_reducible repeat (fail)); exact (Kd.R_mono (Kd.R_far (p := ⟨gb640, 3, none⟩) (Kd.R_far (p := ⟨gb640, 2, none⟩) (Kd.R_far (p := ⟨gb640, 1, none⟩) (Kd.R_far (p := ⟨gb640, 0, none⟩) (Kd.R_types HO628.1 BK640.1 (by decide)) (fun _ hk => hk.2) (.int .i64 t632)) (fun _ hk => hk.2) (.int .i64 t633)) (fun _ hk => hk.2) (.slice Ao32 t634.length co32)) (fun _ hk => hk.2) (.slice Ao33 t637.length co33)) (fun _ h_ => h_.1)))); (case side2 => exact (Kd.R_reads' HO628.1).2.1); rintro e w34 ⟨v642, rfl, ho0, hb⟩; refine ⟨_, rfl, ?_⟩; replace HO619 := Sd.mk (Kd.R_below (by (with_reducible repeat (fail)); exact (Kd.R_mono (Kd.R_far (p := ⟨gb640, 3, none⟩) (Kd.R_far (p := ⟨gb640, 2, none⟩) (Kd.R_far (p := ⟨gb640, 1, none⟩) (Kd.R_far (p := ⟨gb640, 0, none⟩) (Kd.R_types HO619.1 BK640.1 (by decide)) (fun _ hk => hk.2) (.int .i64 t632)) (fun _ hk => hk.2) (.int .i64 t633)) (fun _ hk => hk.2) (.slice Ao32 t634.length co32)) (fun _ hk => hk.2) (.slice Ao33 t637.length co33)) (fun _ h_ => h_.1))) hb); replace HO625 := Sd.mk (Kd.R_below (by (with_reducible repeat (fail)); exact (Kd.R_mono (Kd.R_far (p := ⟨gb640, 3, none⟩) (Kd.R_far (p := ⟨gb640, 2, none⟩) (Kd.R_far (p := ⟨gb640, 1, none⟩) (Kd.R_far (p := ⟨gb640, 0, none⟩) (Kd.R_types HO625.1 BK640.1 (by decide)) (fun _ hk => hk.2) (.int .i64 t632)) (fun _ hk => hk.2) (.int .i64 t633)) (fun _ hk => hk.2) (.slice Ao32 t634.length co32)) (fun _ hk => hk.2) (.slice Ao33 t637.length co33)) (fun _ h_ => h_.1))) hb); replace HO636 := Sd.mk (Kd.R_below (by (with_reducible repeat (fail)); exact (Kd.R_mono (Kd.R_far (p := ⟨gb640, 3, none⟩) (Kd.R_far (p := ⟨gb640, 2, none⟩) (Kd.R_far (p := ⟨gb640, 1, none⟩) (Kd.R_far (p := ⟨gb640, 0, none⟩) (Kd.R_types HO636.1 BK640.1 (by decide)) (fun _ hk => hk.2) (.int .i64 t632)) (fun _ hk => hk.2) (.int .i64 t633)) (fun _ hk => hk.2) (.slice Ao32 t634.length co32)) (fun _ hk => hk.2) (.slice Ao33 t637.length co33)) (fun _ h_ => h_.1))) hb); have HO643 := Sd.mk (Kd.R_lower (Kd.R_new' (Kd.R_new' (Kd.R_new' ho0 (Kd.R_lt (by (with_reducible repeat (fail)); exact (Kd.R_mono (Kd.R_far (p := ⟨gb640, 3, none⟩) (Kd.R_far (p := ⟨gb640, 2, none⟩) (Kd.R_far (p := ⟨gb640, 1, none⟩) (Kd.R_far (p := ⟨gb640, 0, none⟩) (Kd.R_types HO622.1 BK640.1 (by decide)) (fun _ hk => hk.2) (.int .i64 t632)) (fun _ hk => hk.2) (.int .i64 t633)) (fun _ hk => hk.2) (.slice Ao32 t634.length co32)) (fun _ hk => hk.2) (.slice Ao33 t637.length co33)) (fun _ h_ => h_.1))))) (Kd.R_lt (by (with_reducible repeat (fail)); exact (Kd.R_mono (Kd.R_far (p := ⟨gb640, 3, none⟩) (Kd.R_far (p := ⟨gb640, 2, none⟩) (Kd.R_far (p := ⟨gb640, 1, none⟩) (Kd.R_far (p := ⟨gb640, 0, none⟩) (Kd.R_types HO628.1 BK640.1 (by decide)) (fun _ hk => hk.2) (.int .i64 t632)) (fun _ hk => hk.2) (.int .i64 t633)) (fun _ hk => hk.2) (.slice Ao32 t634.length co32)) (fun _ hk => hk.2) (.slice Ao33 t637.length co33)) (fun _ h_ => h_.1))))) (Kd.R_lt (by (with_reducible repeat (fail)); exact (Kd.R_mono (Kd.R_far (p := ⟨gb640, 3, none⟩) (Kd.R_far (p := ⟨gb640, 2, none⟩) (Kd.R_far (p := ⟨gb640, 1, none⟩) (Kd.R_far (p := ⟨gb640, 0, none⟩) (Kd.R_types HO639.1 BK640.1 (by decide)) (fun _ hk => hk.2) (.int .i64 t632)) (fun _ hk => hk.2) (.int .i64 t633)) (fun _ hk => hk.2) (.slice Ao32 t634.length co32)) (fun _ hk => hk.2) (.slice Ao33 t637.length co33)) (fun _ h_ => h_.1))))) (bZ (by repeat (first | (with_reducible first | exact HB.1 | refine bS ?_ GE640.1) )))); replace HO622 := Sd.mk (Kd.R_elder' (by (with_reducible repeat (fail)); exact (Kd.R_mono (Kd.R_far (p := ⟨gb640, 3, none⟩) (Kd.R_far (p := ⟨gb640, 2, none⟩) (Kd.R_far (p := ⟨gb640, 1, none⟩) (Kd.R_far (p := ⟨gb640, 0, none⟩) (Kd.R_types HO622.1 BK640.1 (by decide)) (fun _ hk => hk.2) (.int .i64 t632)) (fun _ hk => hk.2) (.int .i64 t633)) (fun _ hk => hk.2) (.slice Ao32 t634.length co32)) (fun _ hk => hk.2) (.slice Ao33 t637.length co33)) (fun _ h_ => h_.1))) (Kd.R_base ho0) hb); replace HO628 := Sd.mk (Kd.R_elder' (by (with_reducible repeat (fail)); exact (Kd.R_mono (Kd.R_far (p := ⟨gb640, 3, none⟩) (Kd.R_far (p := ⟨gb640, 2, none⟩) (Kd.R_far (p := ⟨gb640, 1, none⟩) (Kd.R_far (p := ⟨gb640, 0, none⟩) (Kd.R_types HO628.1 BK640.1 (by decide)) (fun _ hk => hk.2) (.int .i64 t632)) (fun _ hk => hk.2) (.int .i64 t633)) (fun _ hk => hk.2) (.slice Ao32 t634.length co32)) (fun _ hk => hk.2) (.slice Ao33 t637.length co33)) (fun _ h_ => h_.1))) (Kd.R_base ho0) hb); replace HO639 := Sd.mk (Kd.R_elder' (by (with_reducible repeat (fail)); exact (Kd.R_mono (Kd.R_far (p := ⟨gb640, 3, none⟩) (Kd.R_far (p := ⟨gb640, 2, none⟩) (Kd.R_far (p := ⟨gb640, 1, none⟩) (Kd.R_far (p := ⟨gb640, 0, none⟩) (Kd.R_types HO639.1 BK640.1 (by decide)) (fun _ hk => hk.2) (.int .i64 t632)) (fun _ hk => hk.2) (.int .i64 t633)) (fun _ hk => hk.2) (.slice Ao32 t634.length co32)) (fun _ hk => hk.2) (.slice Ao33 t637.length co33)) (fun _ h_ => h_.1))) (Kd.R_base ho0) hb); replace BK612 := Sd.mk (kB (g := gb612) (o := .cells #[.int .i64 a0_0, .int .i64 a0_1, .slice A0_2 l0_2.length c0_2, .slice A0_3 l0_3.length c0_3] 25 (0, 0)) (by (with_reducible repeat (fail)); refine blk_far ?_ NB612_640.1 _; (with_reducible repeat (fail)); refine blk_far ?_ NB612_640.1 _; (with_reducible repeat (fail)); refine blk_far ?_ NB612_640.1 _; (with_reducible repeat (fail)); refine blk_far ?_ NB612_640.1 _; (with_reducible repeat (fail)); exact BK612.1) hb); replace BK640 := Sd.mk (kB (g := gb640) (o := .cells #[.int .i64 t632, .int .i64 t633, .slice Ao32 t634.length co32, .slice Ao33 t637.length co33] 32 (0, 0)) (by (with_reducible repeat (fail)); refine blk_put (cs := #[.int .i64 t632, .int .i64 t633, .slice Ao32 t634.length co32, .slice none 0 0]) ?_ 3 _ rfl; (with_reducible repeat (fail)); refine blk_put (cs := #[.int .i64 t632, .int .i64 t633, .slice none 0 0, .slice none 0 0]) ?_ 2 _ rfl; (with_reducible repeat (fail)); refine blk_put (cs := #[.int .i64 t632, .int .i64 0, .slice none 0 0, .slice none 0 0]) ?_ 1 _ rfl; (with_reducible repeat (fail)); refine blk_put (cs := #[.int .i64 0, .int .i64 0, .slice none 0 0, .slice none 0 0]) ?_ 0 _ rfl; (with_reducible repeat (fail)); exact BK640.1) hb); replace HB := Sd.mk (bT (by repeat (first | (with_reducible first | exact HB.1 | refine bS ?_ GE640.1) )) hb); (try clear hb); (try clear ho0); obtain ⟨Ao35, co35, eo35⟩ := Kd.R_slice HO643.1; subst eo35; have z_36_3 : w34.cell? ⟨gb640, 3, none⟩ = some (.slice Ao33 t637.length co33) := (kC BK640.1 3).trans rfl; have hfz36_3 := kF BK640.1 3))
    have n0_ : Sd (Kd.R k91 91 (w34.setCell ⟨gb640, 3, none⟩ (.slice Ao35 t641.length co35)) w.heap.size (fun k_ => some k_ ≠ (.slice Ao32 t634.length co32 : Value).ownBlock) (.slice Ao22 t617.length co22) t617) := ⟨by (with_reducible repeat (fail)); exact Kd.R_mono (Kd.R_far (p := ⟨gb640, 3, none⟩) (Kd.R_types HO619.1 BK640.1 (by decide)) (fun _ hk => hk.2) (.slice Ao35 t641.length co35)) (fun _ hk => hk.1.2)⟩
    have n1_ : Sd (Kd.R (Kd.int .i64) 3 (w34.setCell ⟨gb640, 3, none⟩ (.slice Ao35 t641.length co35)) w.heap.size (fun k_ => some k_ ≠ (.slice Ao26 t626.length co26 : Value).ownBlock ∧ some k_ ≠ (.slice Ao33 t637.length co33 : Value).ownBlock ∧ some k_ ≠ (.slice Ao35 t641.length co35 : Value).ownBlock) (.slice Ao23 t620.length co23) t620) := ⟨by (with_reducible repeat (fail)); exact Kd.R_mono (Kd.R_far (p := ⟨gb640, 3, none⟩) (Kd.R_types HO622.1 BK640.1 (by decide)) (fun _ hk => hk.2) (.slice Ao35 t641.length co35)) (fun _ hk => ⟨hk.1.1.1.2, ⟨hk.1.1.2, hk.1.2⟩⟩)⟩
    have n2_ : Sd (Kd.R k110 110 (w34.setCell ⟨gb640, 3, none⟩ (.slice Ao35 t641.length co35)) w.heap.size (fun _ => True) (.slice Ao24 t623.length co24) t623) := ⟨by (with_reducible repeat (fail)); exact Kd.R_mono (Kd.R_far (p := ⟨gb640, 3, none⟩) (Kd.R_types HO625.1 BK640.1 (by decide)) (fun _ hk => hk.2) (.slice Ao35 t641.length co35)) (fun _ hk => trivial)⟩
    have n3_ : Sd (Kd.R (Kd.int .i64) 3 (w34.setCell ⟨gb640, 3, none⟩ (.slice Ao35 t641.length co35)) w.heap.size (fun k_ => some k_ ≠ (.slice Ao23 t620.length co23 : Value).ownBlock ∧ some k_ ≠ (.slice Ao33 t637.length co33 : Value).ownBlock ∧ some k_ ≠ (.slice Ao35 t641.length co35 : Value).ownBlock) (.slice Ao26 t626.length co26) t626) := ⟨by (with_reducible repeat (fail)); exact Kd.R_mono (Kd.R_far (p := ⟨gb640, 3, none⟩) (Kd.R_types HO628.1 BK640.1 (by decide)) (fun _ hk => hk.2) (.slice Ao35 t641.length co35)) (fun _ hk => ⟨hk.1.1.1.2, ⟨hk.1.1.2, hk.1.2⟩⟩)⟩
    have n4_ : Sd (Kd.R k91 91 (w34.setCell ⟨gb640, 3, none⟩ (.slice Ao35 t641.length co35)) w.heap.size (fun k_ => some k_ ≠ (.slice Ao22 t617.length co22 : Value).ownBlock) (.slice Ao32 t634.length co32) t634) := ⟨by (with_reducible repeat (fail)); exact Kd.R_mono (Kd.R_far (p := ⟨gb640, 3, none⟩) (Kd.R_types HO636.1 BK640.1 (by decide)) (fun _ hk => hk.2) (.slice Ao35 t641.length co35)) (fun _ hk => hk.1.2)⟩
    have n5_ : Sd (Kd.R (Kd.int .i64) 3 (w34.setCell ⟨gb640, 3, none⟩ (.slice Ao35 t641.length co35)) w.heap.size (fun k_ => some k_ ≠ (.slice Ao23 t620.length co23 : Value).ownBlock ∧ some k_ ≠ (.slice Ao26 t626.length co26 : Value).ownBlock ∧ some k_ ≠ (.slice Ao35 t641.length co35 : Value).ownBlock) (.slice Ao33 t637.length co33) t637) := ⟨by (with_reducible repeat (fail)); exact Kd.R_mono (Kd.R_far (p := ⟨gb640, 3, none⟩) (Kd.R_types HO639.1 BK640.1 (by decide)) (fun _ hk => hk.2) (.slice Ao35 t641.length co35)) (fun _ hk => ⟨hk.1.1.1.2, ⟨hk.1.1.2, hk.1.2⟩⟩)⟩
    have n6_ : Sd (Kd.R (Kd.int .i64) 3 (w34.setCell ⟨gb640, 3, none⟩ (.slice Ao35 t641.length co35)) w.heap.size (fun k_ => some k_ ≠ (.slice Ao23 t620.length co23 : Value).ownBlock ∧ some k_ ≠ (.slice Ao26 t626.length co26 : Value).ownBlock ∧ some k_ ≠ (.slice Ao33 t637.length co33 : Value).ownBlock) (.slice Ao35 t641.length co35) t641) := ⟨by (with_reducible repeat (fail)); exact Kd.R_mono (Kd.R_far (p := ⟨gb640, 3, none⟩) (Kd.R_types HO643.1 BK640.1 (by decide)) (fun _ hk => hk.2) (.slice Ao35 t641.length co35)) (fun _ hk => ⟨hk.1.1.1.2, ⟨hk.1.1.2, hk.1.2⟩⟩)⟩
    have n7_ : Sd ((w34.setCell ⟨gb640, 3, none⟩ (.slice Ao35 t641.length co35)).heap[gb612]? = some (.cells #[.int .i64 a0_0, .int .i64 a0_1, .slice A0_2 l0_2.length c0_2, .slice A0_3 l0_3.length c0_3] 25 (0, 0))) := ⟨by (with_reducible repeat (fail)); refine blk_far ?_ NB612_640.1 _; (with_reducible repeat (fail)); exact BK612.1⟩
    have n8_ : Sd ((w34.setCell ⟨gb640, 3, none⟩ (.slice Ao35 t641.length co35)).heap[gb640]? = some (.cells #[.int .i64 t632, .int .i64 t633, .slice Ao32 t634.length co32, .slice Ao35 t641.length co35] 32 (0, 0))) := ⟨by (with_reducible repeat (fail)); refine blk_put (cs := #[.int .i64 t632, .int .i64 t633, .slice Ao32 t634.length co32, .slice Ao33 t637.length co33]) ?_ 3 _ rfl; (with_reducible repeat (fail)); exact BK640.1⟩
    have n9_ : Sd (Below w.heap.size w (w34.setCell ⟨gb640, 3, none⟩ (.slice Ao35 t641.length co35))) := ⟨by repeat (first | (with_reducible first | exact HB.1 | refine bS ?_ GE640.1) )⟩
    (try clear HO619)
    (try clear HO622)
    (try clear HO625)
    (try clear HO628)
    (try clear HO636)
    (try clear HO639)
    (try clear HO643)
    (try clear BK612)
    (try clear BK640)
    (try clear HB)
    generalize (w34.setCell ⟨gb640, 3, none⟩ (.slice Ao35 t641.length co35)) = w37 at n0_ n1_ n2_ n3_ n4_ n5_ n6_ n7_ n8_ n9_ ⊢
    have HO619 := n0_
    have HO622 := n1_
    have HO625 := n2_
    have HO628 := n3_
    have HO636 := n4_
    have HO639 := n5_
    have HO643 := n6_
    have BK612 := n7_
    have BK640 := n8_
    have HB := n9_
    clear n0_ n1_ n2_ n3_ n4_ n5_ n6_ n7_ n8_ n9_
    have n0_ := Sd.mk (Kd.R_drew HO619.1)
    have n1_ := Sd.mk (Kd.R_drew HO622.1)
    have n2_ := Sd.mk (Kd.R_drew HO625.1)
    have n3_ := Sd.mk (Kd.R_drew HO628.1)
    have n4_ := Sd.mk (Kd.R_drew HO636.1)
    have n5_ := Sd.mk (Kd.R_drew HO639.1)
    have n6_ := Sd.mk (Kd.R_drew HO643.1)
    have n7_ := Sd.mk (kD BK612.1)
    have n8_ := Sd.mk (kD BK640.1)
    have n9_ := Sd.mk (bD HB.1)
    clear HO619
    clear HO622
    clear HO625
    clear HO628
    clear HO636
    clear HO639
    clear HO643
    clear BK612
    clear BK640
    clear HB
    have HO619 := n0_
    have HO622 := n1_
    have HO625 := n2_
    have HO628 := n3_
    have HO636 := n4_
    have HO639 := n5_
    have HO643 := n6_
    have BK612 := n7_
    have BK640 := n8_
    have HB := n9_
    clear n0_ n1_ n2_ n3_ n4_ n5_ n6_ n7_ n8_ n9_
    refine start_ (n := 9) (S := fun w' => w'.cell? ⟨gb640, 0, none⟩ = some (.int .i64 t632) ∧ w'.cell? ⟨gb640, 1, none⟩ = some (.int .i64 t633) ∧ w'.cell? ⟨gb640, 2, none⟩ = some (.slice Ao32 t634.length co32) ∧ w'.cell? ⟨gb640, 3, none⟩ = some (.slice Ao35 t641.length co35)) (ds := []) #[false, false, false, false, false, false, false, false, false] (by kernel_rfl) rfl rfl ⟨(kC BK640.1 0).trans rfl, (kC BK640.1 1).trans rfl, (kC BK640.1 2).trans rfl, (kC BK640.1 3).trans rfl⟩ (fun hHeld => ?_); refine with_tabW glisterlaw04_CipherKept.tab10 glisterlaw04_CipherKept.bits10 (fun HT_ HW_ => ?_)
    generalize w37.drew = w38 at HO619 HO622 HO625 HO628 HO636 HO639 HO643 BK612 BK640 HB hHeld ⊢
    refine pure_ (i := 1) (N := some 51) (v := ?_) (a' := ?_) #[false, true, false, false, false, false, false, false, false] rfl rfl (any_of HT_.1 (by kernel_rfl)) (fun _ _ _ h => h) (Or.inl ⟨by rfl, ?_⟩) ?_ ?_
    rotate_left
    ·intro w'
     go_simp
     with_reducible rfl
    rotate_left
    ·simp only [Act.put, List.setIfInBounds_toArray, List.set_cons_zero, List.set_cons_succ, i64_w, i32_w]
     rfl
    refine take_ (i := 0) (N := some 50) (v := ?_) (a' := ?_) #[true, true, false, false, false, false, false, false, false] rfl rfl (take_ofW HT_.1 HW_.1 (by kernel_rfl)) (fun _ _ _ h => h) (Or.inl ⟨by rfl, ?_⟩) hHeld ?_ ?_
    rotate_left
    ·rintro w' ⟨s0, s1, s2, s3⟩
     go_simp
     with_reducible rfl
    rotate_left
    ·simp only [Act.put, List.setIfInBounds_toArray, List.set_cons_zero, List.set_cons_succ, i64_w, i32_w]
     rfl
    refine one_ (i := 2) (N := some 52) #[true, true, true, false, false, false, false, false, false] rfl rfl (one_of HT_.1 (by kernel_rfl)) (by decide) (fun K hK => ?_)
    refine goes_ Try.func30 (by kernel_rfl) rfl #[.slice A1 l1.length c1] (by rfl) rfl rfl (by (try simp only [List.map_toArray, List.map_cons, List.map_nil]); first | rfl ) ?_
    with_reducible refine (glisterlaw04_Losses.calls k _ _ l1 t644 _ ?side1 ?side2 A13.1).mono ?_
    (case side1 => repeat (first | exact (Kd.C_below HR1.1 HB.1) ))
    (case side2 => exact HC1.1)
    rintro e w39 ⟨v645, rfl, ho0, hb⟩
    refine ⟨_, rfl, ?_⟩
    have n0_ := Sd.mk (Kd.R_below (by (with_reducible repeat (fail)); exact HO619.1) hb)
    have n1_ := Sd.mk (Kd.R_below (by (with_reducible repeat (fail)); exact HO622.1) hb)
    have n2_ := Sd.mk (Kd.R_elder' (by (with_reducible repeat (fail)); exact HO625.1) (Kd.R_base ho0) hb)
    have n3_ := Sd.mk (Kd.R_below (by (with_reducible repeat (fail)); exact HO628.1) hb)
    have n4_ := Sd.mk (Kd.R_below (by (with_reducible repeat (fail)); exact HO636.1) hb)
    have n5_ := Sd.mk (Kd.R_below (by (with_reducible repeat (fail)); exact HO639.1) hb)
    have n6_ := Sd.mk (Kd.R_below (by (with_reducible repeat (fail)); exact HO643.1) hb)
    have n7_ := Sd.mk (Kd.R_lower (Kd.R_new' ho0 (Kd.R_lt (by (with_reducible repeat (fail)); exact HO625.1))) (bZ (by repeat (first | (with_reducible first | exact HB.1 ) ))))
    have n8_ := Sd.mk (kB (g := gb612) (o := .cells #[.int .i64 a0_0, .int .i64 a0_1, .slice A0_2 l0_2.length c0_2, .slice A0_3 l0_3.length c0_3] 25 (0, 0)) (by (with_reducible repeat (fail)); exact BK612.1) hb)
    have n9_ := Sd.mk (kB (g := gb640) (o := .cells #[.int .i64 t632, .int .i64 t633, .slice Ao32 t634.length co32, .slice Ao35 t641.length co35] 32 (0, 0)) (by (with_reducible repeat (fail)); exact BK640.1) hb)
    have n10_ := Sd.mk (bT (by repeat (first | (with_reducible first | exact HB.1 ) )) hb)
    clear HO619
    clear HO622
    clear HO625
    clear HO628
    clear HO636
    clear HO639
    clear HO643
    clear BK612
    clear BK640
    clear HB
    have HO619 := n0_
    have HO622 := n1_
    have HO625 := n2_
    have HO628 := n3_
    have HO636 := n4_
    have HO639 := n5_
    have HO643 := n6_
    have HO646 := n7_
    have BK612 := n8_
    have BK640 := n9_
    have HB := n10_
    clear n0_ n1_ n2_ n3_ n4_ n5_ n6_ n7_ n8_ n9_ n10_
    (try clear hb)
    (try clear ho0)
    obtain ⟨Ao40, co40, eo40⟩ := Kd.R_slice HO646.1
    (subst eo40 )
    refine hK.out _ _ ⟨(kC BK640.1 0).trans rfl, (kC BK640.1 1).trans rfl, (kC BK640.1 2).trans rfl, (kC BK640.1 3).trans rfl⟩ (fun hHeld => ?_)
    clear hK K
    refine norm_ (a' := ?_) ?_ ?_
    rotate_left
    ·show Act.put _ (some 52) _ = _
     simp only [Act.put, List.setIfInBounds_toArray, List.set_cons_zero, List.set_cons_succ, i64_w, i32_w]
     rfl
    refine one_ (i := 3) (N := some 53) #[true, true, true, true, false, false, false, false, false] rfl rfl (one_of HT_.1 (by kernel_rfl)) (by decide) (fun K hK => ?_)
    refine goes_ Try.func29 (by kernel_rfl) rfl #[.agg #[.int .i64 t632, .int .i64 t633, .slice Ao32 t634.length co32, .slice Ao35 t641.length co35], .slice Ao40 t644.length co40] (by rfl) rfl rfl (by (try simp only [List.map_toArray, List.map_cons, List.map_nil]); first | rfl ) ?_
    with_reducible refine (cipher_Exposed.calls k t632 t633 _ _ t634 _ _ t641 _ _ t644 t647 t650 _ ?side1 ?side2 ?side3 ?side4 ?side5 ?side6 A14.1).mono ?_
    (case side1 => repeat (first | exact (Kd.R_reads' HO636.1).2.2 ))
    (case side2 => exact (Kd.R_reads' HO636.1).2.1)
    (case side3 => repeat (first | exact (Kd.R_reads' HO643.1).2.2 ))
    (case side4 => exact (Kd.R_reads' HO643.1).2.1)
    (case side5 => repeat (first | exact (Kd.R_reads' HO646.1).2.2 ))
    (case side6 => exact (Kd.R_reads' HO646.1).2.1)
    rintro e w41 ⟨v648, rfl, ho0, hb⟩
    refine ⟨_, rfl, ?_⟩
    have n0_ := Sd.mk (Kd.R_below (by (with_reducible repeat (fail)); exact HO619.1) hb)
    have n1_ := Sd.mk (Kd.R_elder' (by (with_reducible repeat (fail)); exact HO622.1) (Kd.R_base ho0) hb)
    have n2_ := Sd.mk (Kd.R_below (by (with_reducible repeat (fail)); exact HO625.1) hb)
    have n3_ := Sd.mk (Kd.R_elder' (by (with_reducible repeat (fail)); exact HO628.1) (Kd.R_base ho0) hb)
    have n4_ := Sd.mk (Kd.R_below (by (with_reducible repeat (fail)); exact HO636.1) hb)
    have n5_ := Sd.mk (Kd.R_elder' (by (with_reducible repeat (fail)); exact HO639.1) (Kd.R_base ho0) hb)
    have n6_ := Sd.mk (Kd.R_elder' (by (with_reducible repeat (fail)); exact HO643.1) (Kd.R_base ho0) hb)
    have n7_ := Sd.mk (Kd.R_below (by (with_reducible repeat (fail)); exact HO646.1) hb)
    have n8_ := Sd.mk (Kd.R_lower (Kd.R_new' (Kd.R_new' (Kd.R_new' (Kd.R_new' ho0 (Kd.R_lt (by (with_reducible repeat (fail)); exact HO622.1))) (Kd.R_lt (by (with_reducible repeat (fail)); exact HO628.1))) (Kd.R_lt (by (with_reducible repeat (fail)); exact HO639.1))) (Kd.R_lt (by (with_reducible repeat (fail)); exact HO643.1))) (bZ (by repeat (first | (with_reducible first | exact HB.1 ) ))))
    have n9_ := Sd.mk (kB (g := gb612) (o := .cells #[.int .i64 a0_0, .int .i64 a0_1, .slice A0_2 l0_2.length c0_2, .slice A0_3 l0_3.length c0_3] 25 (0, 0)) (by (with_reducible repeat (fail)); exact BK612.1) hb)
    have n10_ := Sd.mk (kB (g := gb640) (o := .cells #[.int .i64 t632, .int .i64 t633, .slice Ao32 t634.length co32, .slice Ao35 t641.length co35] 32 (0, 0)) (by (with_reducible repeat (fail)); exact BK640.1) hb)
    have n11_ := Sd.mk (bT (by repeat (first | (with_reducible first | exact HB.1 ) )) hb)
    clear HO619
    clear HO622
    clear HO625
    clear HO628
    clear HO636
    clear HO639
    clear HO643
    clear HO646
    clear BK612
    clear BK640
    clear HB
    have HO619 := n0_
    have HO622 := n1_
    have HO625 := n2_
    have HO628 := n3_
    have HO636 := n4_
    have HO639 := n5_
    have HO643 := n6_
    have HO646 := n7_
    have HO649 := n8_
    have BK612 := n9_
    have BK640 := n10_
    have HB := n11_
    clear n0_ n1_ n2_ n3_ n4_ n5_ n6_ n7_ n8_ n9_ n10_ n11_
    (try clear hb)
    (try clear ho0)
    refine hK.out _ _ ⟨(kC BK640.1 0).trans rfl, (kC BK640.1 1).trans rfl, (kC BK640.1 2).trans rfl, (kC BK640.1 3).trans rfl⟩ (fun hHeld => ?_)
    clear hK K
    refine norm_ (a' := ?_) ?_ ?_
    rotate_left
    ·show Act.put _ (some 53) _ = _
     simp only [Act.put, List.setIfInBounds_toArray, List.set_cons_zero, List.set_cons_succ, i64_w, i32_w]
     rfl
    refine pure_ (i := 4) (N := some 49) (v := ?_) (a' := ?_) #[true, true, true, true, true, false, false, false, false] rfl rfl (any_of HT_.1 (by kernel_rfl)) (fun _ _ _ h => h) (Or.inl ⟨by rfl, ?_⟩) ?_ ?_
    rotate_left
    ·intro w'
     go_simp
     with_reducible rfl
    rotate_left
    ·simp only [Act.put, List.setIfInBounds_toArray, List.set_cons_zero, List.set_cons_succ, i64_w, i32_w]
     rfl
    refine pure_ (i := 5) (N := some 54) (v := ?_) (a' := ?_) #[true, true, true, true, true, true, false, false, false] rfl rfl (any_of HT_.1 (by kernel_rfl)) (fun _ _ _ h => h) (Or.inl ⟨by rfl, ?_⟩) ?_ ?_
    rotate_left
    ·intro w'
     go_simp
     with_reducible rfl
    rotate_left
    ·simp only [Act.put, List.setIfInBounds_toArray, List.set_cons_zero, List.set_cons_succ, i64_w, i32_w]
     rfl
    refine pure_ (i := 6) (N := some 55) (v := ?_) (a' := ?_) #[true, true, true, true, true, true, true, false, false] rfl rfl (any_of HT_.1 (by kernel_rfl)) (fun _ _ _ h => h) (Or.inl ⟨by rfl, ?_⟩) ?_ ?_
    rotate_left
    ·intro w'
     go_simp
     with_reducible rfl
    rotate_left
    ·simp only [Act.put, List.setIfInBounds_toArray, List.set_cons_zero, List.set_cons_succ, i64_w, i32_w]
     rfl
    refine pure_ (i := 7) (N := some 11) (v := ?_) (a' := ?_) #[true, true, true, true, true, true, true, true, false] rfl rfl (any_of HT_.1 (by kernel_rfl)) (fun _ _ _ h => h) (Or.inl ⟨by rfl, ?_⟩) ?_ ?_
    rotate_left
    ·intro w'
     go_simp
     with_reducible rfl
    rotate_left
    ·simp only [Act.put, List.setIfInBounds_toArray, List.set_cons_zero, List.set_cons_succ, i64_w, i32_w]
     rfl
    refine pure_ (i := 8) (N := some 12) (v := ?_) (a' := ?_) #[true, true, true, true, true, true, true, true, true] rfl rfl (any_of HT_.1 (by kernel_rfl)) (fun _ _ _ h => h) (Or.inl ⟨by rfl, ?_⟩) ?_ ?_
    rotate_left
    ·intro w'
     go_simp
     with_reducible rfl
    rotate_left
    ·simp only [Act.put, List.setIfInBounds_toArray, List.set_cons_zero, List.set_cons_succ, i64_w, i32_w]
     rfl
    refine done_ (done_of HT_.1 (by kernel_rfl)) ?_
    go_upto_region 11 with (fail)
    go_cut [64] (fun v64 wc => ∃ (kq : Nat) (x64_14 : Bool), v64 = .bool x64_14 ∧ Sd (glisterlaw04_CipherKept.j0 kq t647 x64_14 = some r) ∧ Sd (kq ≤ k) ∧ Sd (Kd.R (Kd.int .i64) 3 wc w.heap.size (fun k_ => some k_ ≠ ((.slice Ao35 t641.length co35) : Value).ownBlock) v648 t647) ∧ Sd (Kd.R k91 91 wc w.heap.size (fun _ => True) (.slice Ao32 t634.length co32) t634) ∧ Sd (Kd.R (Kd.int .i64) 3 wc w.heap.size (fun k_ => some k_ ≠ (v648 : Value).ownBlock) (.slice Ao35 t641.length co35) t641) ∧ Sd (wc.heap[gb612]? = some (.cells #[.int .i64 a0_0, .int .i64 a0_1, (.slice A0_2 l0_2.length c0_2), (.slice A0_3 l0_3.length c0_3)] 25 (0, 0))) ∧ Sd (wc.heap[gb640]? = some (.cells #[.int .i64 t632, .int .i64 t633, (.slice Ao32 t634.length co32), (.slice Ao35 t641.length co35)] 32 (0, 0))) ∧ Sd (Below w.heap.size w wc))
    case first =>
     have H := HC15.1
     clear HC15
     by_cases c42 : t650 = 0
     ·rw [if_pos c42] at H
      have c42b0 : (t650 == 0) = true := beq_iff_eq.mpr c42
      have c42b1 : (t650 != 0) = false := bne_eq_false_iff_eq.mpr c42
      clear c42
      have H' := Sd.mk H
      clear H
      obtain ⟨Ao43, co43, eo43⟩ := Kd.R_slice HO649.1
      subst eo43
      go_wp2
      go_meet
      case rel => exact ⟨_, (((t647.length : Int) != (t626.length : Int))), (by first | rfl ), H', ⟨by first | omega ⟩, ⟨by (with_reducible repeat (fail)); exact Kd.R_mono HO649.1 (fun _ hk => hk.2)⟩, ⟨by (with_reducible repeat (fail)); exact Kd.R_mono HO636.1 (fun _ hk => trivial)⟩, ⟨by (with_reducible repeat (fail)); exact Kd.R_mono HO643.1 (fun _ hk => hk.2)⟩, ⟨by (with_reducible repeat (fail)); exact BK612.1⟩, ⟨by (with_reducible repeat (fail)); exact BK640.1⟩, ⟨by repeat (first | (with_reducible first | exact HB.1 ) )⟩⟩
     ·rw [if_neg c42] at H
      have c42b0 : (t650 == 0) = false := beq_eq_false_iff_ne.mpr c42
      have c42b1 : (t650 != 0) = true := bne_iff_ne.mpr c42
      have H' := Sd.mk H
      clear H
      go_wp2
      go_meet
      case rel => exact ⟨_, (true), (by first | rfl ), H', ⟨by first | omega ⟩, ⟨by (with_reducible repeat (fail)); exact Kd.R_mono HO649.1 (fun _ hk => hk.2)⟩, ⟨by (with_reducible repeat (fail)); exact Kd.R_mono HO636.1 (fun _ hk => trivial)⟩, ⟨by (with_reducible repeat (fail)); exact Kd.R_mono HO643.1 (fun _ hk => hk.2)⟩, ⟨by (with_reducible repeat (fail)); exact BK612.1⟩, ⟨by (with_reducible repeat (fail)); exact BK640.1⟩, ⟨by repeat (first | (with_reducible first | exact HB.1 ) )⟩⟩
    case rest =>
     clear HC15
     clear c9b0 c9b1
     clear c10b0 c10b1 c10b2
     clear z_17_0 z_17_1 z_17_2 z_17_3 z_19_0 z_19_1 z_19_2 z_19_3 z_27_0 z_27_1 z_27_2 z_27_3 z_31_0 z_31_1 z_31_2 z_31_3 z_36_3 hfz31_0 hfz31_1 hfz31_2 hfz31_3 hfz36_3
     obtain ⟨kq, x64_14, rfl, HA, HJ14, HO_11, HO_641002, HO_641003, BK612, BK640, HB⟩ := hcut
     cases kq with
     | zero => exact absurd HA.1 (by simp [glisterlaw04_CipherKept.j0])
     | succ kj14 =>
      have H := HA.1
      clear HA
      simp only [glisterlaw04_CipherKept.j0] at H
      by_cases c44 : x64_14 = true
      ·subst c44
       rw [if_pos rfl] at H
       exact absurd H (by simp)
      ·replace c44 := Bool.eq_false_iff.mpr c44
       subst c44
       rw [if_neg (show ¬ (false = true) by decide)] at H
       have H' := Sd.mk H
       clear H
       go_wp2
       go_loopg [13] kj14 (fun kq v13 w' => ∃ (x13_2 : Int), v13 = .int .i64 x13_2 ∧ Sd (glisterlaw04_CipherKept.l0 kq t647 x13_2 = some r) ∧ Sd (kq ≤ kj14) ∧ Sd (Kd.R (Kd.int .i64) 3 w' w.heap.size (fun k_ => some k_ ≠ ((.slice Ao35 t641.length co35) : Value).ownBlock) v648 t647) ∧ Sd (Kd.R k91 91 w' w.heap.size (fun _ => True) (.slice Ao32 t634.length co32) t634) ∧ Sd (Kd.R (Kd.int .i64) 3 w' w.heap.size (fun k_ => some k_ ≠ (v648 : Value).ownBlock) (.slice Ao35 t641.length co35) t641) ∧ Sd (w'.heap[gb612]? = some (.cells #[.int .i64 a0_0, .int .i64 a0_1, (.slice A0_2 l0_2.length c0_2), (.slice A0_3 l0_3.length c0_3)] 25 (0, 0))) ∧ Sd (w'.heap[gb640]? = some (.cells #[.int .i64 t632, .int .i64 t633, (.slice Ao32 t634.length co32), (.slice Ao35 t641.length co35)] 32 (0, 0))) ∧ Sd (Below w.heap.size w w'))
       case atStart => exact ⟨(0), (by first | rfl ), H', ⟨Nat.le_refl _⟩, ⟨by (with_reducible repeat (fail)); exact HO_11.1⟩, ⟨by (with_reducible repeat (fail)); exact HO_641002.1⟩, ⟨by (with_reducible repeat (fail)); exact HO_641003.1⟩, ⟨by (with_reducible repeat (fail)); exact BK612.1⟩, ⟨by (with_reducible repeat (fail)); exact BK640.1⟩, ⟨by repeat (first | (with_reducible first | exact HB.1 ) )⟩⟩
       case round =>
        clear H'
        obtain ⟨x13_2, rfl, HA, HK2, HO_11, HO_641002, HO_641003, BK612, BK640, HB⟩ := hrel
        cases gk with
        | zero => exact absurd HA.1 (by simp [glisterlaw04_CipherKept.l0])
        | succ k2 =>
         have H := HA.1
         clear HA
         simp only [glisterlaw04_CipherKept.l0] at H
         by_cases c45 : x13_2 < (t647.length : Int)
         ·rw [if_pos c45] at H
          have c45b0 : decide (x13_2 < (t647.length : Int)) = true := decide_eq_true c45
          clear c45
          by_cases c46 : 0 ≤ x13_2
          ·rw [if_pos c46] at H
           have c46b0 : decide (0 ≤ x13_2) = true := decide_eq_true c46
           clear c46
           by_cases c47 : (rd t647 x13_2) = x13_2
           ·rw [if_pos c47] at H
            exact absurd H (by simp)
           ·rw [if_neg c47] at H
            have c47b0 : ((rd t647 x13_2) == x13_2) = false := beq_eq_false_iff_ne.mpr c47
            have c47b1 : ((rd t647 x13_2) != x13_2) = true := bne_iff_ne.mpr c47
            have H' := Sd.mk H
            clear H
            obtain ⟨Ao48, co48, eo48⟩ := Kd.R_slice HO_11.1
            subst eo48
            have p651 : 0 ≤ (x13_2 : Int) := of_decide_eq_true (by first | (with_reducible assumption) )
            have q651 : x13_2 < (t647.length : Int) := of_decide_eq_true (by first | (with_reducible assumption) )
            obtain ⟨ad651, e651, hx651_0⟩ := Kd.at_int (Kd.R_reads' HO_11.1).2.2 x13_2 p651 q651
            cases e651
            replace p651 := eq_true p651
            replace q651 := eq_true q651
            go_wp2
            go_roundg k2
            case measure => have := HJ14.1; have := HK2.1; omega
            case rel => exact ⟨(wrap64 (x13_2 + 1)), (by first | rfl ), H', ⟨by have := HJ14.1; have := HK2.1; omega⟩, ⟨by (with_reducible repeat (fail)); exact HO_11.1⟩, ⟨by (with_reducible repeat (fail)); exact HO_641002.1⟩, ⟨by (with_reducible repeat (fail)); exact HO_641003.1⟩, ⟨by (with_reducible repeat (fail)); exact BK612.1⟩, ⟨by (with_reducible repeat (fail)); exact BK640.1⟩, ⟨by repeat (first | (with_reducible first | exact HB.1 ) )⟩⟩
          ·rw [if_neg c46] at H
           exact absurd H (by simp)
         ·rw [if_neg c45] at H
          have c45b0 : decide (x13_2 < (t647.length : Int)) = false := decide_eq_false c45
          clear c45
          obtain ⟨t652, A490, H⟩ := Option.bind_eq_some_iff.mp H
          have A49 := Sd.mk A490
          clear A490
          obtain rfl := Option.some.inj H
          obtain ⟨Ao50, co50, eo50⟩ := Kd.R_slice HO_11.1
          subst eo50
          go_wp2_with (first | ((with_reducible refine gate_callee (f := 17) rfl ?_); refine goesL_ (some 77) rfl rfl Try.func17 (by kernel_rfl) rfl #[] rfl (by (try simp only [List.map_toArray, List.map_cons, List.map_nil]); first | done ) ?_; (with_reducible refine (glisterlaw04_awake.calls  t652 _ A49.1).mono ?_); rintro e w51 ⟨rfl, hb⟩; refine ⟨_, rfl, ?_⟩; replace HO_11 := Sd.mk (Kd.R_below (by (with_reducible repeat (fail)); exact HO_11.1) hb); replace HO_641002 := Sd.mk (Kd.R_below (by (with_reducible repeat (fail)); exact HO_641002.1) hb); replace HO_641003 := Sd.mk (Kd.R_below (by (with_reducible repeat (fail)); exact HO_641003.1) hb); replace BK612 := Sd.mk (kB (g := gb612) (o := .cells #[.int .i64 a0_0, .int .i64 a0_1, .slice A0_2 l0_2.length c0_2, .slice A0_3 l0_3.length c0_3] 25 (0, 0)) (by (with_reducible repeat (fail)); exact BK612.1) hb); replace BK640 := Sd.mk (kB (g := gb640) (o := .cells #[.int .i64 t632, .int .i64 t633, .slice Ao32 t634.length co32, .slice Ao35 t641.length co35] 32 (0, 0)) (by (with_reducible repeat (fail)); exact BK640.1) hb); replace HB := Sd.mk (bT (by repeat (first | (with_reducible first | exact HB.1 ) )) hb); (try clear hb)))
          go_ret
          exact ⟨by first | rfl , by repeat (first | (with_reducible first | exact HB.1 ) )⟩
   ·rw [if_neg c10] at H
    exact absurd H (by simp)
  ·rw [if_neg c9] at H
   have c9b0 : (t630 == 0) = false := beq_eq_false_iff_ne.mpr c9
   have c9b1 : (t630 != 0) = true := bne_iff_ne.mpr c9
   by_cases c52 : t630 = 10
   ·rw [if_pos c52] at H
    have c52b0 : (t630 == 10) = true := beq_iff_eq.mpr c52
    have c52b1 : (t630 != 10) = false := bne_eq_false_iff_eq.mpr c52
    clear c52
    obtain ⟨t631, A530, H⟩ := Option.bind_eq_some_iff.mp H
    have A53 := Sd.mk A530
    clear A530
    obtain rfl := Option.some.inj H
    go_enter Try.func10, Try.ntmps10
    go_wp2_with (first | ((with_reducible refine gD (N := 3) rfl ?_); (try (refine gG (by rfl) ?_; dsimp only)); refine xE ?hg (N := 3) ?hd (cs := #[.int .i64 a0_0, .int .i64 a0_1, .slice A0_2 l0_2.length c0_2, .slice A0_3 l0_3.length c0_3]) (t := 25) ?hr ?_; (case hd => rfl); (case hg => rfl); (case hr => first | (go_simp; done) ); intro gb612 hg w54 hbox hb; have BK612 := Sd.mk (hbox); have GW612 := Sd.mk ((by rw [hg]; exact (bZ (by repeat (first | (with_reducible first | exact HB.1 ) ))) : w.heap.size ≤ gb612)); have GE612 := Sd.mk ((by rw [hg]; exact (bZ (by repeat (first | (with_reducible first | exact HB.1 ) ))) : w.heap.size ≤ gb612)); replace HB := Sd.mk (bT (by repeat (first | (with_reducible first | exact HB.1 ) )) hb); clear hb hbox hg; have z_55_0 : w54.cell? ⟨gb612, 0, none⟩ = some (.int .i64 a0_0) := (kC BK612.1 0).trans rfl; have z_55_1 : w54.cell? ⟨gb612, 1, none⟩ = some (.int .i64 a0_1) := (kC BK612.1 1).trans rfl; have z_55_2 : w54.cell? ⟨gb612, 2, none⟩ = some (.slice A0_2 l0_2.length c0_2) := (kC BK612.1 2).trans rfl; have z_55_3 : w54.cell? ⟨gb612, 3, none⟩ = some (.slice A0_3 l0_3.length c0_3) := (kC BK612.1 3).trans rfl) | ((with_reducible refine gate_callee (f := 34) rfl ?_); refine goesL_ (some 16) rfl rfl Try.func34 (by kernel_rfl) rfl #[.agg #[.int .i64 a0_0, .int .i64 a0_1, .slice A0_2 l0_2.length c0_2, .slice A0_3 l0_3.length c0_3], .slice A1 l1.length c1] rfl (by (try simp only [List.map_toArray, List.map_cons, List.map_nil]); first | rfl ) ?_; (with_reducible refine (glisterlaw04_lossed.calls k a0_0 a0_1 _ _ l0_2 _ _ l0_3 _ _ l1 true _ ?side1 ?side2 ?side3 ?side4 ?side5 ?side6 A4.1).mono ?_); (case side1 => repeat (first | exact (Kd.C_below HR0_2.1 HB.1) )); (case side2 => exact HC0_2.1); (case side3 => repeat (first | exact (Kd.C_below HR0_3.1 HB.1) )); (case side4 => exact HC0_3.1); (case side5 => repeat (first | exact (Kd.C_below HR1.1 HB.1) )); (case side6 => exact HC1.1); rintro e w56 ⟨rfl, hb⟩; refine ⟨_, rfl, ?_⟩; replace BK612 := Sd.mk (kB (g := gb612) (o := .cells #[.int .i64 a0_0, .int .i64 a0_1, .slice A0_2 l0_2.length c0_2, .slice A0_3 l0_3.length c0_3] 25 (0, 0)) (by (with_reducible repeat (fail)); exact BK612.1) hb); replace HB := Sd.mk (bT (by repeat (first | (with_reducible first | exact HB.1 ) )) hb); (try clear hb); have z_57_0 : w56.cell? ⟨gb612, 0, none⟩ = some (.int .i64 a0_0) := (kC BK612.1 0).trans rfl; have z_57_1 : w56.cell? ⟨gb612, 1, none⟩ = some (.int .i64 a0_1) := (kC BK612.1 1).trans rfl; have z_57_2 : w56.cell? ⟨gb612, 2, none⟩ = some (.slice A0_2 l0_2.length c0_2) := (kC BK612.1 2).trans rfl; have z_57_3 : w56.cell? ⟨gb612, 3, none⟩ = some (.slice A0_3 l0_3.length c0_3) := (kC BK612.1 3).trans rfl) | ((with_reducible refine gate_callee (f := 19) rfl ?_); refine goesL_ (some 21) rfl rfl Try.func19 (by kernel_rfl) rfl #[.agg #[.int .i64 a0_0, .int .i64 a0_1, .slice A0_2 l0_2.length c0_2, .slice A0_3 l0_3.length c0_3]] rfl (by (try simp only [List.map_toArray, List.map_cons, List.map_nil]); first | rfl ) ?_; (with_reducible refine (glisterlaw04_Book.calls k a0_0 a0_1 _ _ l0_2 _ _ l0_3 t615 t616 t617 t620 _ ?side1 ?side2 ?side3 ?side4 A6.1).mono ?_); (case side1 => repeat (first | exact (Kd.C_below HR0_2.1 HB.1) )); (case side2 => exact HC0_2.1); (case side3 => repeat (first | exact (Kd.C_below HR0_3.1 HB.1) )); (case side4 => exact HC0_3.1); rintro e w58 ⟨v618, v621, rfl, ho0, ho1, hb⟩; refine ⟨_, rfl, ?_⟩; have HO619 := Sd.mk (Kd.R_lower ho0 (bZ (by repeat (first | (with_reducible first | exact HB.1 ) )))); have HO622 := Sd.mk (Kd.R_lower ho1 (bZ (by repeat (first | (with_reducible first | exact HB.1 ) )))); replace BK612 := Sd.mk (kB (g := gb612) (o := .cells #[.int .i64 a0_0, .int .i64 a0_1, .slice A0_2 l0_2.length c0_2, .slice A0_3 l0_3.length c0_3] 25 (0, 0)) (by (with_reducible repeat (fail)); exact BK612.1) hb); replace HB := Sd.mk (bT (by repeat (first | (with_reducible first | exact HB.1 ) )) hb); (try clear hb); (try clear ho0); (try clear ho1)) | ((with_reducible refine gate_callee (f := 30) rfl ?_); refine goesL_ (some 23) rfl rfl Try.func30 (by kernel_rfl) rfl #[.slice A1 l1.length c1] rfl (by (try simp only [List.map_toArray, List.map_cons, List.map_nil]); first | rfl ) ?_; (with_reducible refine (glisterlaw04_Losses.calls k _ _ l1 t623 _ ?side1 ?side2 A7.1).mono ?_); (case side1 => repeat (first | exact (Kd.C_below HR1.1 HB.1) )); (case side2 => exact HC1.1); rintro e w59 ⟨v624, rfl, ho0, hb⟩; refine ⟨_, rfl, ?_⟩; replace HO619 := Sd.mk (Kd.R_below (by (with_reducible repeat (fail)); exact HO619.1) hb); replace HO622 := Sd.mk (Kd.R_below (by (with_reducible repeat (fail)); exact HO622.1) hb); have HO625 := Sd.mk (Kd.R_lower ho0 (bZ (by repeat (first | (with_reducible first | exact HB.1 ) )))); replace BK612 := Sd.mk (kB (g := gb612) (o := .cells #[.int .i64 a0_0, .int .i64 a0_1, .slice A0_2 l0_2.length c0_2, .slice A0_3 l0_3.length c0_3] 25 (0, 0)) (by (with_reducible repeat (fail)); exact BK612.1) hb); replace HB := Sd.mk (bT (by repeat (first | (with_reducible first | exact HB.1 ) )) hb); (try clear hb); (try clear ho0); obtain ⟨Ao60, co60, eo60⟩ := Kd.R_slice HO619.1; subst eo60; obtain ⟨Ao61, co61, eo61⟩ := Kd.R_slice HO622.1; subst eo61; obtain ⟨Ao62, co62, eo62⟩ := Kd.R_slice HO625.1; subst eo62) | ((with_reducible refine gate_callee (f := 35) rfl ?_); refine goesL_ (some 27) rfl rfl Try.func35 (by kernel_rfl) rfl #[.agg #[.int .i64 t615, .int .i64 t616, .slice Ao60 t617.length co60, .slice Ao61 t620.length co61], .slice Ao62 t623.length co62, .int .i64 (Int.tmod (wrap64 (a2)) 9)] rfl (by (try simp only [List.map_toArray, List.map_cons, List.map_nil]); first | rfl ) ?_; (with_reducible refine (cipher_Plan.calls t615 t616 _ _ t617 _ _ t620 _ _ t623 (Int.tmod (wrap64 (a2)) 9) t626 t629 t630 _ ?side1 ?side2 ?side3 ?side4 ?side5 ?side6 A8.1).mono ?_); (case side1 => repeat (first | exact (Kd.R_reads' HO619.1).2.2 )); (case side2 => exact (Kd.R_reads' HO619.1).2.1); (case side3 => repeat (first | exact (Kd.R_reads' HO622.1).2.2 )); (case side4 => exact (Kd.R_reads' HO622.1).2.1); (case side5 => repeat (first | exact (Kd.R_reads' HO625.1).2.2 )); (case side6 => exact (Kd.R_reads' HO625.1).2.1); rintro e w63 ⟨v627, rfl, ho0, hb⟩; refine ⟨_, rfl, ?_⟩; replace HO619 := Sd.mk (Kd.R_below (by (with_reducible repeat (fail)); exact HO619.1) hb); replace HO625 := Sd.mk (Kd.R_below (by (with_reducible repeat (fail)); exact HO625.1) hb); have HO628 := Sd.mk (Kd.R_lower (Kd.R_new' ho0 (Kd.R_lt (by (with_reducible repeat (fail)); exact HO622.1))) (bZ (by repeat (first | (with_reducible first | exact HB.1 ) )))); replace HO622 := Sd.mk (Kd.R_elder' (by (with_reducible repeat (fail)); exact HO622.1) (Kd.R_base ho0) hb); replace BK612 := Sd.mk (kB (g := gb612) (o := .cells #[.int .i64 a0_0, .int .i64 a0_1, .slice A0_2 l0_2.length c0_2, .slice A0_3 l0_3.length c0_3] 25 (0, 0)) (by (with_reducible repeat (fail)); exact BK612.1) hb); replace HB := Sd.mk (bT (by repeat (first | (with_reducible first | exact HB.1 ) )) hb); (try clear hb); (try clear ho0)) | (go_at_call 17; (with_reducible refine (glisterlaw04_awake.calls  t631 _ A53.1).mono ?_); rintro e w64 ⟨rfl, hb⟩; replace HO619 := Sd.mk (Kd.R_below (by (with_reducible repeat (fail)); exact HO619.1) hb); replace HO622 := Sd.mk (Kd.R_below (by (with_reducible repeat (fail)); exact HO622.1) hb); replace HO625 := Sd.mk (Kd.R_below (by (with_reducible repeat (fail)); exact HO625.1) hb); replace HO628 := Sd.mk (Kd.R_below (by (with_reducible repeat (fail)); exact HO628.1) hb); replace BK612 := Sd.mk (kB (g := gb612) (o := .cells #[.int .i64 a0_0, .int .i64 a0_1, .slice A0_2 l0_2.length c0_2, .slice A0_3 l0_3.length c0_3] 25 (0, 0)) (by (with_reducible repeat (fail)); exact BK612.1) hb); replace HB := Sd.mk (bT (by repeat (first | (with_reducible first | exact HB.1 ) )) hb); (try clear hb)))
    go_ret
    exact ⟨by first | rfl , by repeat (first | (with_reducible first | exact HB.1 ) )⟩
   ·rw [if_neg c52] at H
    exact absurd H (by simp)
 ·replace c5 := Bool.eq_false_iff.mpr c5
  subst c5
  rw [if_neg (show ¬ (false = true) by decide)] at H
  obtain ⟨t614, A650, H⟩ := Option.bind_eq_some_iff.mp H
  have A65 := Sd.mk A650
  clear A650
  obtain rfl := Option.some.inj H
  go_enter Try.func10, Try.ntmps10
  go_wp2_with (first | ((with_reducible refine gD (N := 3) rfl ?_); (try (refine gG (by rfl) ?_; dsimp only)); refine xE ?hg (N := 3) ?hd (cs := #[.int .i64 a0_0, .int .i64 a0_1, .slice A0_2 l0_2.length c0_2, .slice A0_3 l0_3.length c0_3]) (t := 25) ?hr ?_; (case hd => rfl); (case hg => rfl); (case hr => first | (go_simp; done) ); intro gb612 hg w66 hbox hb; have BK612 := Sd.mk (hbox); have GW612 := Sd.mk ((by rw [hg]; exact (bZ (by repeat (first | (with_reducible first | exact HB.1 ) ))) : w.heap.size ≤ gb612)); have GE612 := Sd.mk ((by rw [hg]; exact (bZ (by repeat (first | (with_reducible first | exact HB.1 ) ))) : w.heap.size ≤ gb612)); replace HB := Sd.mk (bT (by repeat (first | (with_reducible first | exact HB.1 ) )) hb); clear hb hbox hg; have z_67_0 : w66.cell? ⟨gb612, 0, none⟩ = some (.int .i64 a0_0) := (kC BK612.1 0).trans rfl; have z_67_1 : w66.cell? ⟨gb612, 1, none⟩ = some (.int .i64 a0_1) := (kC BK612.1 1).trans rfl; have z_67_2 : w66.cell? ⟨gb612, 2, none⟩ = some (.slice A0_2 l0_2.length c0_2) := (kC BK612.1 2).trans rfl; have z_67_3 : w66.cell? ⟨gb612, 3, none⟩ = some (.slice A0_3 l0_3.length c0_3) := (kC BK612.1 3).trans rfl) | ((with_reducible refine gate_callee (f := 34) rfl ?_); refine goesL_ (some 16) rfl rfl Try.func34 (by kernel_rfl) rfl #[.agg #[.int .i64 a0_0, .int .i64 a0_1, .slice A0_2 l0_2.length c0_2, .slice A0_3 l0_3.length c0_3], .slice A1 l1.length c1] rfl (by (try simp only [List.map_toArray, List.map_cons, List.map_nil]); first | rfl ) ?_; (with_reducible refine (glisterlaw04_lossed.calls k a0_0 a0_1 _ _ l0_2 _ _ l0_3 _ _ l1 false _ ?side1 ?side2 ?side3 ?side4 ?side5 ?side6 A4.1).mono ?_); (case side1 => repeat (first | exact (Kd.C_below HR0_2.1 HB.1) )); (case side2 => exact HC0_2.1); (case side3 => repeat (first | exact (Kd.C_below HR0_3.1 HB.1) )); (case side4 => exact HC0_3.1); (case side5 => repeat (first | exact (Kd.C_below HR1.1 HB.1) )); (case side6 => exact HC1.1); rintro e w68 ⟨rfl, hb⟩; refine ⟨_, rfl, ?_⟩; replace BK612 := Sd.mk (kB (g := gb612) (o := .cells #[.int .i64 a0_0, .int .i64 a0_1, .slice A0_2 l0_2.length c0_2, .slice A0_3 l0_3.length c0_3] 25 (0, 0)) (by (with_reducible repeat (fail)); exact BK612.1) hb); replace HB := Sd.mk (bT (by repeat (first | (with_reducible first | exact HB.1 ) )) hb); (try clear hb)) | ((with_reducible refine gate_callee (f := 17) rfl ?_); refine goesL_ (some 18) rfl rfl Try.func17 (by kernel_rfl) rfl #[] rfl (by (try simp only [List.map_toArray, List.map_cons, List.map_nil]); first | done ) ?_; (with_reducible refine (glisterlaw04_awake.calls  t614 _ A65.1).mono ?_); rintro e w69 ⟨rfl, hb⟩; refine ⟨_, rfl, ?_⟩; replace BK612 := Sd.mk (kB (g := gb612) (o := .cells #[.int .i64 a0_0, .int .i64 a0_1, .slice A0_2 l0_2.length c0_2, .slice A0_3 l0_3.length c0_3] 25 (0, 0)) (by (with_reducible repeat (fail)); exact BK612.1) hb); replace HB := Sd.mk (bT (by repeat (first | (with_reducible first | exact HB.1 ) )) hb); (try clear hb)))
  go_ret
  exact ⟨by first | rfl , by repeat (first | (with_reducible first | exact HB.1 ) )⟩
end Go.Proofs.Ytnidgkmopocdkaa.P
