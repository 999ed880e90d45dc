import Derived.Test.YtnidgkmopocdkaaA4P0
import Derived.Test.YtnidgkmopocdkaaA4P2
import Derived.Test.YtnidgkmopocdkaaA4P3
import Derived.Test.YtnidgkmopocdkaaA4P4
import Derived.Test.YtnidgkmopocdkaaA4P7
import Derived.Test.YtnidgkmopocdkaaA4P14
import Derived.Test.YtnidgkmopocdkaaA4P15
import Derived.Test.YtnidgkmopocdkaaA4P17
import Derived.Test.YtnidgkmopocdkaaA4HAwake
namespace Go.Proofs.Ytnidgkmopocdkaa.P
open Go.RowKit Go.Proofs.YtnidgkmopocdkaaW.PrintWords Go.Proofs.YtnidgkmopocdkaaW.PrintLast Go.Proofs.YtnidgkmopocdkaaW.PrintMore
attribute [local go_sem] max2_int min2_int max_two min_two max_three min_three max_four min_four   -- for this text's walks alone
set_option linter.unusedVariables false
set_option linter.unusedSimpArgs false
mutual
def glisterlaw04_CipherDecodes.j0 : Nat → Int → List Int → Bool → Int → Int → List (S82) → List Int → Option (Bool)
 | 0, _, _, _, _, _, _, _ => none
 | k + 1, x1, x2, x21, x322000, x322001, x322002, x322003 => if x21 = true then ((glisterlaw04_awake.f).bind fun t323 => (some t323)) else ((glisterlaw04_Book.f k x322000 x322001 x322002 x322003).bind fun bt324 => ((glisterlaw04_list.f x2).bind fun t332 => ((cipher_Decode.f k bt324.1 bt324.2.1 bt324.2.2.1 bt324.2.2.2 x1 t332).bind fun bt335 => ((glisterlaw04_fault.f k x322000 x322001 x322002 x322003).bind fun t342 => (if t342 = 0 then ((glisterref04_In.f x1 0 (wrap64 ((x322003.length : Int) - 1))).bind fun t343 => (glisterlaw04_CipherDecodes.j1 k x1 x2 bt335.1 bt335.2.1 bt335.2.2 t342 (!t343) x322000 x322001 x322002 x322003)) else (glisterlaw04_CipherDecodes.j1 k x1 x2 bt335.1 bt335.2.1 bt335.2.2 t342 false x322000 x322001 x322002 x322003))))))
def glisterlaw04_CipherDecodes.j1 : Nat → Int → List Int → List Int → List Int → Int → Int → Bool → Int → Int → List (S82) → List Int → Option (Bool)
 | 0, _, _, _, _, _, _, _, _, _, _, _ => none
 | k + 1, x1, x2, x7, x8, x9, x10, x45, x322000, x322001, x322002, x322003 => if x45 = true then (glisterlaw04_CipherDecodes.j2 k x1 x2 x7 x8 x9 2 x322000 x322001 x322002 x322003) else (glisterlaw04_CipherDecodes.j2 k x1 x2 x7 x8 x9 x10 x322000 x322001 x322002 x322003)
def glisterlaw04_CipherDecodes.j2 : Nat → Int → List Int → List Int → List Int → Int → Int → Int → Int → List (S82) → List Int → Option (Bool)
 | 0, _, _, _, _, _, _, _, _, _, _ => none
 | k + 1, x1, x2, x7, x8, x9, x10, x322000, x322001, x322002, x322003 => if x10 = 0 then ((glisterref04_Decode.f k x322000 x322001 x322002 x322003 x1 x2).bind fun bt345 => (if x9 = bt345.2.2 then ((glisterref04_Same.f k x7 bt345.1).bind fun t352 => (if t352 = true then ((glisterref04_Same.f k x8 bt345.2.1).bind fun t353 => (if t353 = true then ((glisterlaw04_awake.f).bind fun t354 => (some t354)) else (none))) else (none))) else (none))) else (if x9 = x10 then (if (wrap64 ((x7.length : Int) + (x8.length : Int))) = 0 then ((glisterlaw04_awake.f).bind fun t344 => (some t344)) else (none)) else (none))
end
def glisterlaw04_CipherDecodes.f (k : Nat) (a0_0 : Int) (a0_1 : Int) (l0_2 : List (S82)) (l0_3 : List Int) (a1 : Int) (l2 : List Int) : Option (Bool) := (glisterlaw04_Thin.f a0_0 a0_1 l0_2 l0_3).bind fun t322 => (if t322 = true then (glisterlaw04_CipherDecodes.j0 k a1 l2 (decide ((l2.length : Int) > 15)) a0_0 a0_1 l0_2 l0_3) else (glisterlaw04_CipherDecodes.j0 k a1 l2 true a0_0 a0_1 l0_2 l0_3))
set_option maxHeartbeats 8000000 in
set_option maxRecDepth 100000 in
theorem glisterlaw04_CipherDecodes.calls (k : Nat) (a0_0 : Int) (a0_1 : Int) (A0_2 : Option Addr) (c0_2 : Nat) (l0_2 : List (S82)) (A0_3 : Option Addr) (c0_3 : Nat) (l0_3 : List Int) (a1 : Int) (A2 : Option Addr) (c2 : Nat) (l2 : List Int) (r : Bool) (w : World) (hr0_2 : Kd.C k82 w A0_2 l0_2.length l0_2) (hc0_2 : l0_2.length ≤ c0_2) (hr0_3 : Kd.C (Kd.int .i64) w A0_3 l0_3.length l0_3) (hc0_3 : l0_3.length ≤ c0_3) (hr2 : Kd.C (Kd.int .i64) w A2 l2.length l2) (hc2 : l2.length ≤ c2) (h : glisterlaw04_CipherDecodes.f k a0_0 a0_1 l0_2 l0_3 a1 l2 = some r) :
  Calls Try.prog 4 #[.agg #[.int .i64 a0_0, .int .i64 a0_1, .slice A0_2 l0_2.length c0_2, .slice A0_3 l0_3.length c0_3], .int .i64 a1, .slice A2 l2.length c2] w fun e w' => e = .returned (.bool r) ∧ Below w.heap.size w w' := by
 have hu25 := Try.underlying25
 have HR0_2 := Sd.mk hr0_2
 have HC0_2 := Sd.mk hc0_2
 clear hr0_2 hc0_2
 have HR0_3 := Sd.mk hr0_3
 have HC0_3 := Sd.mk hc0_3
 clear hr0_3 hc0_3
 have HR2 := Sd.mk hr2
 have HC2 := Sd.mk hc2
 clear hr2 hc2
 have HB := Sd.mk (Below.refl w.heap.size w)
 have H : ((glisterlaw04_Thin.f a0_0 a0_1 l0_2 l0_3).bind fun t322 => (if t322 = true then (glisterlaw04_CipherDecodes.j0 k a1 l2 (decide ((l2.length : Int) > 15)) a0_0 a0_1 l0_2 l0_3) else (glisterlaw04_CipherDecodes.j0 k a1 l2 true a0_0 a0_1 l0_2 l0_3))) = some r := h
 clear h
 have HC4 := Sd.mk H
 clear H
 go_enter Try.func4, Try.ntmps4
 go_upto_region 1 with (first | ((with_reducible refine gD (N := 3) rfl ?_); (try (refine gG (by rfl) ?_; dsimp only)); refine xE ?hg (N := 3) ?hd (cs := #[.int .i64 a0_0, .int .i64 a0_1, .slice A0_2 l0_2.length c0_2, .slice A0_3 l0_3.length c0_3]) (t := 25) ?hr ?_; (case hd => rfl); (case hg => rfl); (case hr => first | (go_simp; done) ); intro gb321 hg w5 hbox hb; have BK321 := Sd.mk (hbox); have GW321 := Sd.mk ((by rw [hg]; exact (bZ (by repeat (first | (with_reducible first | exact HB.1 ) ))) : w.heap.size ≤ gb321)); have GE321 := Sd.mk ((by rw [hg]; exact (bZ (by repeat (first | (with_reducible first | exact HB.1 ) ))) : w.heap.size ≤ gb321)); replace HB := Sd.mk (bT (by repeat (first | (with_reducible first | exact HB.1 ) )) hb); clear hb hbox hg))
 go_cut [21] (fun v21 wc => ∃ (kq : Nat) (x21_3 : Bool), v21 = .bool x21_3 ∧ Sd (glisterlaw04_CipherDecodes.j0 kq a1 l2 x21_3 a0_0 a0_1 l0_2 l0_3 = some r) ∧ Sd (kq ≤ k) ∧ Sd (wc.heap[gb321]? = some (.cells #[.int .i64 a0_0, .int .i64 a0_1, (.slice A0_2 l0_2.length c0_2), (.slice A0_3 l0_3.length c0_3)] 25 (0, 0))) ∧ Sd (Below w.heap.size w wc))
 case first =>
  have H := HC4.1
  clear HC4
  obtain ⟨t322, A60, H⟩ := Option.bind_eq_some_iff.mp H
  have A6 := Sd.mk A60
  clear A60
  by_cases c7 : t322 = true
  ·subst c7
   rw [if_pos rfl] at H
   have H' := Sd.mk H
   clear H
   have z_8_0 : w5.cell? ⟨gb321, 0, none⟩ = some (.int .i64 a0_0) := (kC BK321.1 0).trans rfl
   have z_8_1 : w5.cell? ⟨gb321, 1, none⟩ = some (.int .i64 a0_1) := (kC BK321.1 1).trans rfl
   have z_8_2 : w5.cell? ⟨gb321, 2, none⟩ = some (.slice A0_2 l0_2.length c0_2) := (kC BK321.1 2).trans rfl
   have z_8_3 : w5.cell? ⟨gb321, 3, none⟩ = some (.slice A0_3 l0_3.length c0_3) := (kC BK321.1 3).trans rfl
   go_wp2_with (first | ((with_reducible refine gate_callee (f := 16) rfl ?_); refine goesL_ (some 15) rfl rfl Try.func16 (by kernel_rfl) rfl #[.agg #[.int .i64 a0_0, .int .i64 a0_1, .slice A0_2 l0_2.length c0_2, .slice A0_3 l0_3.length c0_3]] rfl (by (try simp only [List.map_toArray, List.map_cons, List.map_nil]); first | rfl ) ?_; (with_reducible refine (glisterlaw04_Thin.calls a0_0 a0_1 _ _ l0_2 _ _ l0_3 true _ ?side1 ?side2 ?side3 ?side4 A6.1).mono ?_); (case side1 => repeat (first | exact (Kd.C_below HR0_2.1 HB.1) )); (case side2 => exact HC0_2.1); (case side3 => repeat (first | exact (Kd.C_below HR0_3.1 HB.1) )); (case side4 => exact HC0_3.1); rintro e w9 ⟨rfl, hb⟩; refine ⟨_, rfl, ?_⟩; replace BK321 := Sd.mk (kB (g := gb321) (o := .cells #[.int .i64 a0_0, .int .i64 a0_1, .slice A0_2 l0_2.length c0_2, .slice A0_3 l0_3.length c0_3] 25 (0, 0)) (by (with_reducible repeat (fail)); exact BK321.1) hb); replace HB := Sd.mk (bT (by repeat (first | (with_reducible first | exact HB.1 ) )) hb); (try clear hb)))
   go_meet
   case rel => exact ⟨_, (decide ((l2.length : Int) > 15)), (by first | rfl ), H', ⟨by first | omega ⟩, ⟨by (with_reducible repeat (fail)); exact BK321.1⟩, ⟨by repeat (first | (with_reducible first | exact HB.1 ) )⟩⟩
  ·replace c7 := Bool.eq_false_iff.mpr c7
   subst c7
   rw [if_neg (show ¬ (false = true) by decide)] at H
   have H' := Sd.mk H
   clear H
   have z_10_0 : w5.cell? ⟨gb321, 0, none⟩ = some (.int .i64 a0_0) := (kC BK321.1 0).trans rfl
   have z_10_1 : w5.cell? ⟨gb321, 1, none⟩ = some (.int .i64 a0_1) := (kC BK321.1 1).trans rfl
   have z_10_2 : w5.cell? ⟨gb321, 2, none⟩ = some (.slice A0_2 l0_2.length c0_2) := (kC BK321.1 2).trans rfl
   have z_10_3 : w5.cell? ⟨gb321, 3, none⟩ = some (.slice A0_3 l0_3.length c0_3) := (kC BK321.1 3).trans rfl
   go_wp2_with (first | ((with_reducible refine gate_callee (f := 16) rfl ?_); refine goesL_ (some 15) rfl rfl Try.func16 (by kernel_rfl) rfl #[.agg #[.int .i64 a0_0, .int .i64 a0_1, .slice A0_2 l0_2.length c0_2, .slice A0_3 l0_3.length c0_3]] rfl (by (try simp only [List.map_toArray, List.map_cons, List.map_nil]); first | rfl ) ?_; (with_reducible refine (glisterlaw04_Thin.calls a0_0 a0_1 _ _ l0_2 _ _ l0_3 false _ ?side1 ?side2 ?side3 ?side4 A6.1).mono ?_); (case side1 => repeat (first | exact (Kd.C_below HR0_2.1 HB.1) )); (case side2 => exact HC0_2.1); (case side3 => repeat (first | exact (Kd.C_below HR0_3.1 HB.1) )); (case side4 => exact HC0_3.1); rintro e w11 ⟨rfl, hb⟩; refine ⟨_, rfl, ?_⟩; replace BK321 := Sd.mk (kB (g := gb321) (o := .cells #[.int .i64 a0_0, .int .i64 a0_1, .slice A0_2 l0_2.length c0_2, .slice A0_3 l0_3.length c0_3] 25 (0, 0)) (by (with_reducible repeat (fail)); exact BK321.1) hb); replace HB := Sd.mk (bT (by repeat (first | (with_reducible first | exact HB.1 ) )) hb); (try clear hb)))
   go_meet
   case rel => exact ⟨_, (true), (by first | rfl ), H', ⟨by first | omega ⟩, ⟨by (with_reducible repeat (fail)); exact BK321.1⟩, ⟨by repeat (first | (with_reducible first | exact HB.1 ) )⟩⟩
 case rest =>
  clear HC4
  obtain ⟨kq, x21_3, rfl, HA, HJ3, BK321, HB⟩ := hcut
  cases kq with
  | zero => exact absurd HA.1 (by simp [glisterlaw04_CipherDecodes.j0])
  | succ kj3 =>
   have H := HA.1
   clear HA
   simp only [glisterlaw04_CipherDecodes.j0] at H
   by_cases c12 : x21_3 = true
   ·subst c12
    rw [if_pos rfl] at H
    obtain ⟨t323, A130, H⟩ := Option.bind_eq_some_iff.mp H
    have A13 := Sd.mk A130
    clear A130
    obtain rfl := Option.some.inj H
    go_wp2_with (first | ((with_reducible refine gate_callee (f := 17) rfl ?_); refine goesL_ (some 22) rfl rfl Try.func17 (by kernel_rfl) rfl #[] rfl (by (try simp only [List.map_toArray, List.map_cons, List.map_nil]); first | done ) ?_; (with_reducible refine (glisterlaw04_awake.calls  t323 _ A13.1).mono ?_); rintro e w14 ⟨rfl, hb⟩; refine ⟨_, rfl, ?_⟩; replace BK321 := Sd.mk (kB (g := gb321) (o := .cells #[.int .i64 a0_0, .int .i64 a0_1, .slice A0_2 l0_2.length c0_2, .slice A0_3 l0_3.length c0_3] 25 (0, 0)) (by (with_reducible repeat (fail)); exact BK321.1) hb); replace HB := Sd.mk (bT (by repeat (first | (with_reducible first | exact HB.1 ) )) hb); (try clear hb)))
    go_ret
    exact ⟨by first | rfl , by repeat (first | (with_reducible first | exact HB.1 ) )⟩
   ·replace c12 := Bool.eq_false_iff.mpr c12
    subst c12
    rw [if_neg (show ¬ (false = true) by decide)] at H
    replace H := Option.bind_eq_some_iff.mp H
    obtain ⟨⟨t324, t325, t326, t329⟩, A150, H⟩ := H
    replace H : ((glisterlaw04_list.f l2).bind fun t332 => ((cipher_Decode.f kj3 t324 t325 t326 t329 a1 t332).bind fun bt335 => ((glisterlaw04_fault.f kj3 a0_0 a0_1 l0_2 l0_3).bind fun t342 => (if t342 = 0 then ((glisterref04_In.f a1 0 (wrap64 ((l0_3.length : Int) - 1))).bind fun t343 => (glisterlaw04_CipherDecodes.j1 kj3 a1 l2 bt335.1 bt335.2.1 bt335.2.2 t342 (!t343) a0_0 a0_1 l0_2 l0_3)) else (glisterlaw04_CipherDecodes.j1 kj3 a1 l2 bt335.1 bt335.2.1 bt335.2.2 t342 false a0_0 a0_1 l0_2 l0_3))))) = some r := H
    have A15 := Sd.mk A150
    clear A150
    obtain ⟨t332, A160, H⟩ := Option.bind_eq_some_iff.mp H
    have A16 := Sd.mk A160
    clear A160
    replace H := Option.bind_eq_some_iff.mp H
    obtain ⟨⟨t335, t338, t341⟩, A170, H⟩ := H
    replace H : ((glisterlaw04_fault.f kj3 a0_0 a0_1 l0_2 l0_3).bind fun t342 => (if t342 = 0 then ((glisterref04_In.f a1 0 (wrap64 ((l0_3.length : Int) - 1))).bind fun t343 => (glisterlaw04_CipherDecodes.j1 kj3 a1 l2 t335 t338 t341 t342 (!t343) a0_0 a0_1 l0_2 l0_3)) else (glisterlaw04_CipherDecodes.j1 kj3 a1 l2 t335 t338 t341 t342 false a0_0 a0_1 l0_2 l0_3))) = some r := H
    have A17 := Sd.mk A170
    clear A170
    obtain ⟨t342, A180, H⟩ := Option.bind_eq_some_iff.mp H
    have A18 := Sd.mk A180
    clear A180
    have HC19 := Sd.mk H
    clear H
    have z_20_0 : wc.cell? ⟨gb321, 0, none⟩ = some (.int .i64 a0_0) := (kC BK321.1 0).trans rfl
    have z_20_1 : wc.cell? ⟨gb321, 1, none⟩ = some (.int .i64 a0_1) := (kC BK321.1 1).trans rfl
    have z_20_2 : wc.cell? ⟨gb321, 2, none⟩ = some (.slice A0_2 l0_2.length c0_2) := (kC BK321.1 2).trans rfl
    have z_20_3 : wc.cell? ⟨gb321, 3, none⟩ = some (.slice A0_3 l0_3.length c0_3) := (kC BK321.1 3).trans rfl
    go_upto_region 5 with (first | ((with_reducible refine gate_callee (f := 19) rfl ?_); refine goesL_ (some 25) rfl rfl Try.func19 (by kernel_rfl) rfl #[.agg #[.int .i64 a0_0, .int .i64 a0_1, .slice A0_2 l0_2.length c0_2, .slice A0_3 l0_3.length c0_3]] rfl (by (try simp only [List.map_toArray, List.map_cons, List.map_nil]); first | rfl ) ?_; (with_reducible refine (glisterlaw04_Book.calls kj3 a0_0 a0_1 _ _ l0_2 _ _ l0_3 t324 t325 t326 t329 _ ?side1 ?side2 ?side3 ?side4 A15.1).mono ?_); (case side1 => repeat (first | exact (Kd.C_below HR0_2.1 HB.1) )); (case side2 => exact HC0_2.1); (case side3 => repeat (first | exact (Kd.C_below HR0_3.1 HB.1) )); (case side4 => exact HC0_3.1); rintro e w21 ⟨v327, v330, rfl, ho0, ho1, hb⟩; refine ⟨_, rfl, ?_⟩; have HO328 := Sd.mk (Kd.R_lower ho0 (bZ (by repeat (first | (with_reducible first | exact HB.1 ) )))); have HO331 := Sd.mk (Kd.R_lower ho1 (bZ (by repeat (first | (with_reducible first | exact HB.1 ) )))); replace BK321 := Sd.mk (kB (g := gb321) (o := .cells #[.int .i64 a0_0, .int .i64 a0_1, .slice A0_2 l0_2.length c0_2, .slice A0_3 l0_3.length c0_3] 25 (0, 0)) (by (with_reducible repeat (fail)); exact BK321.1) hb); replace HB := Sd.mk (bT (by repeat (first | (with_reducible first | exact HB.1 ) )) hb); (try clear hb); (try clear ho0); (try clear ho1)) | ((with_reducible refine gate_callee (f := 21) rfl ?_); refine goesL_ (some 28) rfl rfl Try.func21 (by kernel_rfl) rfl #[.slice A2 l2.length c2] rfl (by (try simp only [List.map_toArray, List.map_cons, List.map_nil]); first | rfl ) ?_; (with_reducible refine (glisterlaw04_list.calls _ _ l2 t332 _ ?side1 ?side2 A16.1).mono ?_); (case side1 => repeat (first | exact (Kd.C_below HR2.1 HB.1) )); (case side2 => exact HC2.1); rintro e w22 ⟨v333, rfl, ho0, hb⟩; refine ⟨_, rfl, ?_⟩; replace HO328 := Sd.mk (Kd.R_below (by (with_reducible repeat (fail)); exact HO328.1) hb); have HO334 := Sd.mk (Kd.R_lower (Kd.R_new' ho0 (Kd.R_lt (by (with_reducible repeat (fail)); exact HO331.1))) (bZ (by repeat (first | (with_reducible first | exact HB.1 ) )))); replace HO331 := Sd.mk (Kd.R_elder' (by (with_reducible repeat (fail)); exact HO331.1) (Kd.R_base ho0) hb); replace BK321 := Sd.mk (kB (g := gb321) (o := .cells #[.int .i64 a0_0, .int .i64 a0_1, .slice A0_2 l0_2.length c0_2, .slice A0_3 l0_3.length c0_3] 25 (0, 0)) (by (with_reducible repeat (fail)); exact BK321.1) hb); replace HB := Sd.mk (bT (by repeat (first | (with_reducible first | exact HB.1 ) )) hb); (try clear hb); (try clear ho0); obtain ⟨Ao23, co23, eo23⟩ := Kd.R_slice HO328.1; subst eo23; obtain ⟨Ao24, co24, eo24⟩ := Kd.R_slice HO331.1; subst eo24; obtain ⟨Ao25, co25, eo25⟩ := Kd.R_slice HO334.1; subst eo25) | ((with_reducible refine gate_callee (f := 27) rfl ?_); refine goesL_ (some 29) rfl rfl Try.func27 (by kernel_rfl) rfl #[.agg #[.int .i64 t324, .int .i64 t325, .slice Ao23 t326.length co23, .slice Ao24 t329.length co24], .int .i64 a1, .slice Ao25 t332.length co25] rfl (by (try simp only [List.map_toArray, List.map_cons, List.map_nil]); first | rfl ) ?_; (with_reducible refine (cipher_Decode.calls kj3 t324 t325 _ _ t326 _ _ t329 a1 _ _ t332 t335 t338 t341 _ ?side1 ?side2 ?side3 ?side4 ?side5 ?side6 A17.1).mono ?_); (case side1 => repeat (first | exact (Kd.R_reads' HO328.1).2.2 )); (case side2 => exact (Kd.R_reads' HO328.1).2.1); (case side3 => repeat (first | exact (Kd.R_reads' HO331.1).2.2 )); (case side4 => exact (Kd.R_reads' HO331.1).2.1); (case side5 => repeat (first | exact (Kd.R_reads' HO334.1).2.2 )); (case side6 => exact (Kd.R_reads' HO334.1).2.1); rintro e w26 ⟨v336, v339, rfl, ho0, ho1, hb⟩; refine ⟨_, rfl, ?_⟩; replace HO328 := Sd.mk (Kd.R_below (by (with_reducible repeat (fail)); exact HO328.1) hb); have HO337 := Sd.mk (Kd.R_lower (Kd.R_new' (Kd.R_new' ho0 (Kd.R_lt (by (with_reducible repeat (fail)); exact HO331.1))) (Kd.R_lt (by (with_reducible repeat (fail)); exact HO334.1))) (bZ (by repeat (first | (with_reducible first | exact HB.1 ) )))); have HO340 := Sd.mk (Kd.R_lower (Kd.R_new' (Kd.R_new' ho1 (Kd.R_lt (by (with_reducible repeat (fail)); exact HO331.1))) (Kd.R_lt (by (with_reducible repeat (fail)); exact HO334.1))) (bZ (by repeat (first | (with_reducible first | exact HB.1 ) )))); replace HO331 := Sd.mk (Kd.R_mono (Kd.R_told (Kd.R_told (Kd.R_old (by (with_reducible repeat (fail)); exact HO331.1) hb) (Kd.R_base ho0)) (Kd.R_base ho1)) (fun _ h_ => h_.1)); replace HO334 := Sd.mk (Kd.R_mono (Kd.R_told (Kd.R_told (Kd.R_old (by (with_reducible repeat (fail)); exact HO334.1) hb) (Kd.R_base ho0)) (Kd.R_base ho1)) (fun _ h_ => h_.1)); replace BK321 := Sd.mk (kB (g := gb321) (o := .cells #[.int .i64 a0_0, .int .i64 a0_1, .slice A0_2 l0_2.length c0_2, .slice A0_3 l0_3.length c0_3] 25 (0, 0)) (by (with_reducible repeat (fail)); exact BK321.1) hb); replace HB := Sd.mk (bT (by repeat (first | (with_reducible first | exact HB.1 ) )) hb); (try clear hb); (try clear ho0); (try clear ho1); have z_27_0 : w26.cell? ⟨gb321, 0, none⟩ = some (.int .i64 a0_0) := (kC BK321.1 0).trans rfl; have z_27_1 : w26.cell? ⟨gb321, 1, none⟩ = some (.int .i64 a0_1) := (kC BK321.1 1).trans rfl; have z_27_2 : w26.cell? ⟨gb321, 2, none⟩ = some (.slice A0_2 l0_2.length c0_2) := (kC BK321.1 2).trans rfl; have z_27_3 : w26.cell? ⟨gb321, 3, none⟩ = some (.slice A0_3 l0_3.length c0_3) := (kC BK321.1 3).trans rfl) | ((with_reducible refine gate_callee (f := 22) rfl ?_); refine goesL_ (some 34) rfl rfl Try.func22 (by kernel_rfl) rfl #[.agg #[.int .i64 a0_0, .int .i64 a0_1, .slice A0_2 l0_2.length c0_2, .slice A0_3 l0_3.length c0_3]] rfl (by (try simp only [List.map_toArray, List.map_cons, List.map_nil]); first | rfl ) ?_; (with_reducible refine (glisterlaw04_fault.calls kj3 a0_0 a0_1 _ _ l0_2 _ _ l0_3 t342 _ ?side1 ?side2 ?side3 ?side4 A18.1).mono ?_); (case side1 => repeat (first | exact (Kd.C_below HR0_2.1 HB.1) )); (case side2 => exact HC0_2.1); (case side3 => repeat (first | exact (Kd.C_below HR0_3.1 HB.1) )); (case side4 => exact HC0_3.1); rintro e w28 ⟨rfl, hb⟩; refine ⟨_, rfl, ?_⟩; replace HO328 := Sd.mk (Kd.R_below (by (with_reducible repeat (fail)); exact HO328.1) hb); replace HO331 := Sd.mk (Kd.R_below (by (with_reducible repeat (fail)); exact HO331.1) hb); replace HO334 := Sd.mk (Kd.R_below (by (with_reducible repeat (fail)); exact HO334.1) hb); replace HO337 := Sd.mk (Kd.R_below (by (with_reducible repeat (fail)); exact HO337.1) hb); replace HO340 := Sd.mk (Kd.R_below (by (with_reducible repeat (fail)); exact HO340.1) hb); replace BK321 := Sd.mk (kB (g := gb321) (o := .cells #[.int .i64 a0_0, .int .i64 a0_1, .slice A0_2 l0_2.length c0_2, .slice A0_3 l0_3.length c0_3] 25 (0, 0)) (by (with_reducible repeat (fail)); exact BK321.1) hb); replace HB := Sd.mk (bT (by repeat (first | (with_reducible first | exact HB.1 ) )) hb); (try clear hb)))
    go_cut [45] (fun v45 wc => ∃ (kq : Nat) (x45_18 : Bool), v45 = .bool x45_18 ∧ Sd (glisterlaw04_CipherDecodes.j1 kq a1 l2 t335 t338 t341 t342 x45_18 a0_0 a0_1 l0_2 l0_3 = some r) ∧ Sd (kq ≤ kj3) ∧ Sd (Kd.R (Kd.int .i64) 3 wc w.heap.size (fun k_ => some k_ ≠ (v339 : Value).ownBlock) v336 t335) ∧ Sd (Kd.R (Kd.int .i64) 3 wc w.heap.size (fun k_ => some k_ ≠ (v336 : Value).ownBlock) v339 t338) ∧ Sd (wc.heap[gb321]? = some (.cells #[.int .i64 a0_0, .int .i64 a0_1, (.slice A0_2 l0_2.length c0_2), (.slice A0_3 l0_3.length c0_3)] 25 (0, 0))) ∧ Sd (Below w.heap.size w wc))
    case first =>
     have H := HC19.1
     clear HC19
     by_cases c29 : t342 = 0
     ·rw [if_pos c29] at H
      have c29b0 : (t342 == 0) = true := beq_iff_eq.mpr c29
      have c29b1 : (t342 != 0) = false := bne_eq_false_iff_eq.mpr c29
      clear c29
      obtain ⟨t343, A300, H⟩ := Option.bind_eq_some_iff.mp H
      have A30 := Sd.mk A300
      clear A300
      have H' := Sd.mk H
      clear H
      have z_31_0 : w28.cell? ⟨gb321, 0, none⟩ = some (.int .i64 a0_0) := (kC BK321.1 0).trans rfl
      have z_31_1 : w28.cell? ⟨gb321, 1, none⟩ = some (.int .i64 a0_1) := (kC BK321.1 1).trans rfl
      have z_31_2 : w28.cell? ⟨gb321, 2, none⟩ = some (.slice A0_2 l0_2.length c0_2) := (kC BK321.1 2).trans rfl
      have z_31_3 : w28.cell? ⟨gb321, 3, none⟩ = some (.slice A0_3 l0_3.length c0_3) := (kC BK321.1 3).trans rfl
      go_wp2_with (first | (go_at_call 23; (with_reducible refine (glisterref04_In.calls a1 0 (wrap64 ((l0_3.length : Int) - 1)) t343 _ A30.1).mono ?_); rintro e w' ⟨rfl, ⟨nd, rfl⟩⟩))
      go_meet
      case rel => exact ⟨_, (!t343), (by first | rfl ), H', ⟨by have := HJ3.1; first | omega ⟩, ⟨by (with_reducible repeat (apply Kd.R_drewN )); exact Kd.R_mono HO337.1 (fun _ hk => hk.1.1)⟩, ⟨by (with_reducible repeat (apply Kd.R_drewN )); exact Kd.R_mono HO340.1 (fun _ hk => hk.1.1)⟩, ⟨by (with_reducible repeat (refine kN ?_ _ )); exact BK321.1⟩, ⟨by repeat (first | (with_reducible first | exact HB.1 | apply bN ) )⟩⟩
     ·rw [if_neg c29] at H
      have c29b0 : (t342 == 0) = false := beq_eq_false_iff_ne.mpr c29
      have c29b1 : (t342 != 0) = true := bne_iff_ne.mpr c29
      have H' := Sd.mk H
      clear H
      go_wp2
      go_meet
      case rel => exact ⟨_, (false), (by first | rfl ), H', ⟨by have := HJ3.1; first | omega ⟩, ⟨by (with_reducible repeat (fail)); exact Kd.R_mono HO337.1 (fun _ hk => hk.1.1)⟩, ⟨by (with_reducible repeat (fail)); exact Kd.R_mono HO340.1 (fun _ hk => hk.1.1)⟩, ⟨by (with_reducible repeat (fail)); exact BK321.1⟩, ⟨by repeat (first | (with_reducible first | exact HB.1 ) )⟩⟩
    case rest =>
     clear HC19
     clear z_20_0 z_20_1 z_20_2 z_20_3 z_27_0 z_27_1 z_27_2 z_27_3
     obtain ⟨kq, x45_18, rfl, HA, HJ18, HO_7, HO_8, BK321, HB⟩ := hcut
     cases kq with
     | zero => exact absurd HA.1 (by simp [glisterlaw04_CipherDecodes.j1])
     | succ kj18 =>
      have H := HA.1
      clear HA
      simp only [glisterlaw04_CipherDecodes.j1] at H
      have HC32 := Sd.mk H
      clear H
      go_upto_if 45 with (fail)
      go_cut [10] (fun v10 wc => ∃ (kq : Nat) (x10_31 : Int), v10 = .int .i64 x10_31 ∧ Sd (glisterlaw04_CipherDecodes.j2 kq a1 l2 t335 t338 t341 x10_31 a0_0 a0_1 l0_2 l0_3 = some r) ∧ Sd (kq ≤ kj18) ∧ Sd (Kd.R (Kd.int .i64) 3 wc w.heap.size (fun k_ => some k_ ≠ (v339 : Value).ownBlock) v336 t335) ∧ Sd (Kd.R (Kd.int .i64) 3 wc w.heap.size (fun k_ => some k_ ≠ (v336 : Value).ownBlock) v339 t338) ∧ Sd (wc.heap[gb321]? = some (.cells #[.int .i64 a0_0, .int .i64 a0_1, (.slice A0_2 l0_2.length c0_2), (.slice A0_3 l0_3.length c0_3)] 25 (0, 0))) ∧ Sd (Below w.heap.size w wc))
      case first =>
       have H := HC32.1
       clear HC32
       by_cases c33 : x45_18 = true
       ·subst c33
        rw [if_pos rfl] at H
        have H' := Sd.mk H
        clear H
        go_wp2
        go_meet
        case rel => exact ⟨_, (2), (by first | rfl ), H', ⟨by have := HJ3.1; have := HJ18.1; first | omega ⟩, ⟨by (with_reducible repeat (fail)); exact HO_7.1⟩, ⟨by (with_reducible repeat (fail)); exact HO_8.1⟩, ⟨by (with_reducible repeat (fail)); exact BK321.1⟩, ⟨by repeat (first | (with_reducible first | exact HB.1 ) )⟩⟩
       ·replace c33 := Bool.eq_false_iff.mpr c33
        subst c33
        rw [if_neg (show ¬ (false = true) by decide)] at H
        have H' := Sd.mk H
        clear H
        go_wp2
        go_meet
        case rel => exact ⟨_, (t342), (by first | rfl ), H', ⟨by have := HJ3.1; have := HJ18.1; first | omega ⟩, ⟨by (with_reducible repeat (fail)); exact HO_7.1⟩, ⟨by (with_reducible repeat (fail)); exact HO_8.1⟩, ⟨by (with_reducible repeat (fail)); exact BK321.1⟩, ⟨by repeat (first | (with_reducible first | exact HB.1 ) )⟩⟩
      case rest =>
       clear HC32
       obtain ⟨kq, x10_31, rfl, HA, HJ31, HO_7, HO_8, BK321, HB⟩ := hcut
       cases kq with
       | zero => exact absurd HA.1 (by simp [glisterlaw04_CipherDecodes.j2])
       | succ kj31 =>
        have H := HA.1
        clear HA
        simp only [glisterlaw04_CipherDecodes.j2] at H
        by_cases c34 : x10_31 = 0
        ·rw [if_pos c34] at H
         have c34b0 : (x10_31 == 0) = true := beq_iff_eq.mpr c34
         have c34b1 : (x10_31 != 0) = false := bne_eq_false_iff_eq.mpr c34
         clear c34
         replace H := Option.bind_eq_some_iff.mp H
         obtain ⟨⟨t345, t348, t351⟩, A350, H⟩ := H
         replace H : (if t341 = t351 then ((glisterref04_Same.f kj31 t335 t345).bind fun t352 => (if t352 = true then ((glisterref04_Same.f kj31 t338 t348).bind fun t353 => (if t353 = true then ((glisterlaw04_awake.f).bind fun t354 => (some t354)) else (none))) else (none))) else (none)) = some r := H
         have A35 := Sd.mk A350
         clear A350
         by_cases c36 : t341 = t351
         ·rw [if_pos c36] at H
          have c36b0 : (t341 == t351) = true := beq_iff_eq.mpr c36
          have c36b1 : (t341 != t351) = false := bne_eq_false_iff_eq.mpr c36
          clear c36
          obtain ⟨t352, A370, H⟩ := Option.bind_eq_some_iff.mp H
          have A37 := Sd.mk A370
          clear A370
          by_cases c38 : t352 = true
          ·subst c38
           rw [if_pos rfl] at H
           obtain ⟨t353, A390, H⟩ := Option.bind_eq_some_iff.mp H
           have A39 := Sd.mk A390
           clear A390
           by_cases c40 : t353 = true
           ·subst c40
            rw [if_pos rfl] at H
            obtain ⟨t354, A410, H⟩ := Option.bind_eq_some_iff.mp H
            have A41 := Sd.mk A410
            clear A410
            obtain rfl := Option.some.inj H
            have z_42_0 : wc.cell? ⟨gb321, 0, none⟩ = some (.int .i64 a0_0) := (kC BK321.1 0).trans rfl
            have z_42_1 : wc.cell? ⟨gb321, 1, none⟩ = some (.int .i64 a0_1) := (kC BK321.1 1).trans rfl
            have z_42_2 : wc.cell? ⟨gb321, 2, none⟩ = some (.slice A0_2 l0_2.length c0_2) := (kC BK321.1 2).trans rfl
            have z_42_3 : wc.cell? ⟨gb321, 3, none⟩ = some (.slice A0_3 l0_3.length c0_3) := (kC BK321.1 3).trans rfl
            go_wp2_with (first | ((with_reducible refine gate_callee (f := 28) rfl ?_); refine goesL_ (some 66) rfl rfl Try.func28 (by kernel_rfl) rfl #[.agg #[.int .i64 a0_0, .int .i64 a0_1, .slice A0_2 l0_2.length c0_2, .slice A0_3 l0_3.length c0_3], .int .i64 a1, .slice A2 l2.length c2] rfl (by (try simp only [List.map_toArray, List.map_cons, List.map_nil]); first | rfl ) ?_; (with_reducible refine (glisterref04_Decode.calls kj31 a0_0 a0_1 _ _ l0_2 _ _ l0_3 a1 _ _ l2 t345 t348 t351 _ ?side1 ?side2 ?side3 ?side4 ?side5 ?side6 A35.1).mono ?_); (case side1 => repeat (first | exact (Kd.C_below HR0_2.1 HB.1) )); (case side2 => exact HC0_2.1); (case side3 => repeat (first | exact (Kd.C_below HR0_3.1 HB.1) )); (case side4 => exact HC0_3.1); (case side5 => repeat (first | exact (Kd.C_below HR2.1 HB.1) )); (case side6 => exact HC2.1); rintro e w43 ⟨v346, v349, rfl, ho0, ho1, hb⟩; refine ⟨_, rfl, ?_⟩; have HO347 := Sd.mk (Kd.R_lower (Kd.R_new' (Kd.R_new' ho0 (Kd.R_lt (by (with_reducible repeat (fail)); exact HO_7.1))) (Kd.R_lt (by (with_reducible repeat (fail)); exact HO_8.1))) (bZ (by repeat (first | (with_reducible first | exact HB.1 ) )))); have HO350 := Sd.mk (Kd.R_lower (Kd.R_new' (Kd.R_new' ho1 (Kd.R_lt (by (with_reducible repeat (fail)); exact HO_7.1))) (Kd.R_lt (by (with_reducible repeat (fail)); exact HO_8.1))) (bZ (by repeat (first | (with_reducible first | exact HB.1 ) )))); replace HO_7 := Sd.mk (Kd.R_mono (Kd.R_told (Kd.R_told (Kd.R_old (by (with_reducible repeat (fail)); exact HO_7.1) hb) (Kd.R_base ho0)) (Kd.R_base ho1)) (fun _ h_ => h_.1)); replace HO_8 := Sd.mk (Kd.R_mono (Kd.R_told (Kd.R_told (Kd.R_old (by (with_reducible repeat (fail)); exact HO_8.1) hb) (Kd.R_base ho0)) (Kd.R_base ho1)) (fun _ h_ => h_.1)); replace BK321 := Sd.mk (kB (g := gb321) (o := .cells #[.int .i64 a0_0, .int .i64 a0_1, .slice A0_2 l0_2.length c0_2, .slice A0_3 l0_3.length c0_3] 25 (0, 0)) (by (with_reducible repeat (fail)); exact BK321.1) hb); replace HB := Sd.mk (bT (by repeat (first | (with_reducible first | exact HB.1 ) )) hb); (try clear hb); (try clear ho0); (try clear ho1); obtain ⟨Ao44, co44, eo44⟩ := Kd.R_slice HO_7.1; subst eo44; obtain ⟨Ao45, co45, eo45⟩ := Kd.R_slice HO347.1; subst eo45) | (go_at_call 25; (with_reducible refine (glisterref04_Same.calls kj31 _ _ t335 _ _ t345 true _ ?side1 ?side2 ?side3 ?side4 A37.1).mono ?_); (case side1 => repeat (first | exact (Kd.R_reads' HO_7.1).2.2 )); (case side2 => exact (Kd.R_reads' HO_7.1).2.1); (case side3 => repeat (first | exact (Kd.R_reads' HO347.1).2.2 )); (case side4 => exact (Kd.R_reads' HO347.1).2.1); rintro e w' ⟨rfl, ⟨nd, rfl⟩⟩; obtain ⟨Ao46, co46, eo46⟩ := Kd.R_slice HO_8.1; subst eo46; obtain ⟨Ao47, co47, eo47⟩ := Kd.R_slice HO350.1; subst eo47) | (go_at_call 25; (with_reducible refine (glisterref04_Same.calls kj31 _ _ t338 _ _ t348 true _ ?side1 ?side2 ?side3 ?side4 A39.1).mono ?_); (case side1 => repeat (first | exact (Kd.R_reads' HO_8.1).2.2 )); (case side2 => exact (Kd.R_reads' HO_8.1).2.1); (case side3 => repeat (first | exact (Kd.R_reads' HO350.1).2.2 )); (case side4 => exact (Kd.R_reads' HO350.1).2.1); rintro e w' ⟨rfl, ⟨nd, rfl⟩⟩) | (go_at_call 17; (with_reducible refine (glisterlaw04_awake.calls  t354 _ A41.1).mono ?_); rintro e w48 ⟨rfl, hb⟩; replace HO_7 := Sd.mk (Kd.R_below (by (with_reducible repeat (apply Kd.R_drewN )); exact HO_7.1) hb); replace HO_8 := Sd.mk (Kd.R_below (by (with_reducible repeat (apply Kd.R_drewN )); exact HO_8.1) hb); replace HO347 := Sd.mk (Kd.R_below (by (with_reducible repeat (apply Kd.R_drewN )); exact HO347.1) hb); replace HO350 := Sd.mk (Kd.R_below (by (with_reducible repeat (apply Kd.R_drewN )); exact HO350.1) hb); replace BK321 := Sd.mk (kB (g := gb321) (o := .cells #[.int .i64 a0_0, .int .i64 a0_1, .slice A0_2 l0_2.length c0_2, .slice A0_3 l0_3.length c0_3] 25 (0, 0)) (by (with_reducible repeat (refine kN ?_ _ )); exact BK321.1) hb); replace HB := Sd.mk (bT (by repeat (first | (with_reducible first | exact HB.1 | apply bN ) )) hb); (try clear hb)))
            go_ret
            exact ⟨by first | rfl , by repeat (first | (with_reducible first | exact HB.1 ) )⟩
           ·replace c40 := Bool.eq_false_iff.mpr c40
            subst c40
            rw [if_neg (show ¬ (false = true) by decide)] at H
            exact absurd H (by simp)
          ·replace c38 := Bool.eq_false_iff.mpr c38
           subst c38
           rw [if_neg (show ¬ (false = true) by decide)] at H
           exact absurd H (by simp)
         ·rw [if_neg c36] at H
          exact absurd H (by simp)
        ·rw [if_neg c34] at H
         have c34b0 : (x10_31 == 0) = false := beq_eq_false_iff_ne.mpr c34
         have c34b1 : (x10_31 != 0) = true := bne_iff_ne.mpr c34
         by_cases c49 : t341 = x10_31
         ·rw [if_pos c49] at H
          have c49b0 : (t341 == x10_31) = true := beq_iff_eq.mpr c49
          have c49b1 : (t341 != x10_31) = false := bne_eq_false_iff_eq.mpr c49
          clear c49
          by_cases c50 : (wrap64 ((t335.length : Int) + (t338.length : Int))) = 0
          ·rw [if_pos c50] at H
           have c50b0 : ((wrap64 ((t335.length : Int) + (t338.length : Int))) == 0) = true := beq_iff_eq.mpr c50
           have c50b1 : ((wrap64 ((t335.length : Int) + (t338.length : Int))) != 0) = false := bne_eq_false_iff_eq.mpr c50
           clear c50
           obtain ⟨t344, A510, H⟩ := Option.bind_eq_some_iff.mp H
           have A51 := Sd.mk A510
           clear A510
           obtain rfl := Option.some.inj H
           obtain ⟨Ao52, co52, eo52⟩ := Kd.R_slice HO_7.1
           subst eo52
           obtain ⟨Ao53, co53, eo53⟩ := Kd.R_slice HO_8.1
           subst eo53
           go_wp2_with (first | (go_at_call 17; (with_reducible refine (glisterlaw04_awake.calls  t344 _ A51.1).mono ?_); rintro e w54 ⟨rfl, hb⟩; replace HO_7 := Sd.mk (Kd.R_below (by (with_reducible repeat (fail)); exact HO_7.1) hb); replace HO_8 := Sd.mk (Kd.R_below (by (with_reducible repeat (fail)); exact HO_8.1) hb); replace BK321 := Sd.mk (kB (g := gb321) (o := .cells #[.int .i64 a0_0, .int .i64 a0_1, .slice A0_2 l0_2.length c0_2, .slice A0_3 l0_3.length c0_3] 25 (0, 0)) (by (with_reducible repeat (fail)); exact BK321.1) hb); replace HB := Sd.mk (bT (by repeat (first | (with_reducible first | exact HB.1 ) )) hb); (try clear hb)))
           go_ret
           exact ⟨by first | rfl , by repeat (first | (with_reducible first | exact HB.1 ) )⟩
          ·rw [if_neg c50] at H
           exact absurd H (by simp)
         ·rw [if_neg c49] at H
          exact absurd H (by simp)
end Go.Proofs.Ytnidgkmopocdkaa.P
