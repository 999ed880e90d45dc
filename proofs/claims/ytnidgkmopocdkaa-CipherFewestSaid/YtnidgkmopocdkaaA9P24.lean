import Derived.Test.YtnidgkmopocdkaaA9P0
import Derived.Test.YtnidgkmopocdkaaA9P3
import Derived.Test.YtnidgkmopocdkaaA9P4
import Derived.Test.YtnidgkmopocdkaaA9P8
import Derived.Test.YtnidgkmopocdkaaA9P9
import Derived.Test.YtnidgkmopocdkaaA9P17
import Derived.Test.YtnidgkmopocdkaaA9HAwake
import Derived.Test.YtnidgkmopocdkaaA9HPlan
import Derived.Test.YtnidgkmopocdkaaA9HProve
import Derived.Test.YtnidgkmopocdkaaA9HRight
namespace Go.Proofs.Ytnidgkmopocdkaa.P
open Go.RowKit Go.Proofs.YtnidgkmopocdkaaW.PrintWords Go.Proofs.YtnidgkmopocdkaaW.PrintLast Go.Proofs.YtnidgkmopocdkaaW.PrintMore
attribute [local go_sem] max2_int min2_int max_two min_two max_three min_three max_four min_four   -- for this text's walks alone
set_option linter.unusedVariables false
set_option linter.unusedSimpArgs false
mutual
def glisterlaw04_CipherFewest.l0 : Nat → List (S58) → List Int → Int → List Int → Int → Int → List Int → Int → Int → Int → List (S82) → List Int → Option (Bool)
 | 0, _, _, _, _, _, _, _, _, _, _, _, _ => none
 | k + 1, x1, x3, x9, x10, x11, x12, x13, x14, x660000, x660001, x660002, x660003 => if x14 < (x660003.length : Int) then (glisterlaw04_CipherFewest.j1 k x1 x3 x9 x10 x11 x12 x13 x14 (decide ((x3.length : Int) > 0)) x660000 x660001 x660002 x660003) else (glisterlaw04_CipherFewest.j1 k x1 x3 x9 x10 x11 x12 x13 x14 false x660000 x660001 x660002 x660003)
def glisterlaw04_CipherFewest.j1 : Nat → List (S58) → List Int → Int → List Int → Int → Int → List Int → Int → Bool → Int → Int → List (S82) → List Int → Option (Bool)
 | 0, _, _, _, _, _, _, _, _, _, _, _, _, _ => none
 | k + 1, x1, x3, x9, x10, x11, x12, x13, x14, x45, x660000, x660001, x660002, x660003 => if x45 = true then (if (x3.length : Int) = 0 then (none) else (if 0 ≤ (Int.tmod x14 (x3.length : Int)) then (if (Int.tmod x14 (x3.length : Int)) < (x3.length : Int) then (if x14 > 0 then (if (wrap64 (rd x3 (Int.tmod x14 (x3.length : Int)))) ≥ 128 then (if 0 ≤ (wrap64 (x14 - 1)) then (if (wrap64 (x14 - 1)) < (x13.length : Int) then (if x13.length < 17592186044416 then (glisterlaw04_CipherFewest.l0 k x1 x3 x9 x10 x11 x12 (x13 ++ [rd x13 (wrap64 (x14 - 1))]) (wrap64 (x14 + 1)) x660000 x660001 x660002 x660003) else (none)) else (none)) else (none)) else (if (x660002.length : Int) = 0 then (none) else (if x13.length < 17592186044416 then (glisterlaw04_CipherFewest.l0 k x1 x3 x9 x10 x11 x12 (x13 ++ [Int.tmod (wrap64 (rd x3 (Int.tmod x14 (x3.length : Int)))) (x660002.length : Int)]) (wrap64 (x14 + 1)) x660000 x660001 x660002 x660003) else (none)))) else (if (x660002.length : Int) = 0 then (none) else (if x13.length < 17592186044416 then (glisterlaw04_CipherFewest.l0 k x1 x3 x9 x10 x11 x12 (x13 ++ [Int.tmod (wrap64 (rd x3 (Int.tmod x14 (x3.length : Int)))) (x660002.length : Int)]) (wrap64 (x14 + 1)) x660000 x660001 x660002 x660003) else (none)))) else (none)) else (none))) else ((glisterref04_IsRight.f x660000 x660001 x660002 x660003 x1 x9 x13).bind fun t689 => (if x12 = 0 then ((glisterref04_IsRight.f x660000 x660001 x660002 x660003 x1 x9 x10).bind fun t691 => (if t691 = true then ((glisterref04_Changes.f k x10).bind fun t692 => (if t692 = x11 then ((glisterlaw04_Book.f k x660000 x660001 x660002 x660003).bind fun bt693 => ((glisterlaw04_Losses.f k x1).bind fun t701 => ((glisterlaw04_list.f x10).bind fun t704 => ((cipher_ProvePlan.f bt693.1 bt693.2.1 bt693.2.2.1 bt693.2.2.2 t701 x9 t704 x11).bind fun t707 => (if t707 = true then ((glisterlaw04_Book.f k x660000 x660001 x660002 x660003).bind fun bt708 => ((glisterlaw04_Losses.f k x1).bind fun t716 => ((glisterlaw04_list.f x10).bind fun t719 => ((cipher_ProvePlan.f bt708.1 bt708.2.1 bt708.2.2.1 bt708.2.2.2 t716 x9 t719 (wrap64 (x11 - 1))).bind fun t722 => (glisterlaw04_CipherFewest.j2 k x10 x11 x13 t689 t722))))) else (glisterlaw04_CipherFewest.j2 k x10 x11 x13 t689 true)))))) else (glisterlaw04_CipherFewest.j2 k x10 x11 x13 t689 true))) else (glisterlaw04_CipherFewest.j2 k x10 x11 x13 t689 true))) else (if x12 = 10 then (if t689 = true then (none) else ((glisterlaw04_awake.f).bind fun t690 => (some t690))) else (none))))
def glisterlaw04_CipherFewest.j2 : Nat → List Int → Int → List Int → Bool → Bool → Option (Bool)
 | 0, _, _, _, _, _ => none
 | k + 1, x10, x11, x13, x16, x129 => if x129 = true then (none) else ((glisterref04_Changes.f k x13).bind fun t723 => (if x16 = true then (if t723 > x11 then ((glisterlaw04_awake.f).bind fun t724 => (some t724)) else (if t723 = x11 then ((glisterlaw04_before.f k x13 x10).bind fun t725 => (if t725 = true then (none) else ((glisterlaw04_awake.f).bind fun t726 => (some t726)))) else (none))) else ((glisterlaw04_awake.f).bind fun t727 => (some t727))))
end
def glisterlaw04_CipherFewest.f (k : Nat) (a0_0 : Int) (a0_1 : Int) (l0_2 : List (S82)) (l0_3 : List Int) (l1 : List (S58)) (a2 : Int) (l3 : List Int) : Option (Bool) := (glisterlaw04_lossed.f k a0_0 a0_1 l0_2 l0_3 l1).bind fun t660 => (if t660 = true then ((glisterlaw04_Book.f k a0_0 a0_1 l0_2 l0_3).bind fun bt662 => ((glisterlaw04_Losses.f k l1).bind fun t670 => ((cipher_Plan.f bt662.1 bt662.2.1 bt662.2.2.1 bt662.2.2.2 t670 (Int.tmod (wrap64 (a2)) 9)).bind fun bt673 => (glisterlaw04_CipherFewest.l0 k l1 l3 (Int.tmod (wrap64 (a2)) 9) bt673.1 bt673.2.1 bt673.2.2 ([] : List Int) 0 a0_0 a0_1 l0_2 l0_3)))) else ((glisterlaw04_awake.f).bind fun t661 => (some t661)))
set_option maxHeartbeats 8000000 in
set_option maxRecDepth 100000 in
theorem glisterlaw04_CipherFewest.calls (k : Nat) (a0_0 : Int) (a0_1 : Int) (A0_2 : Option Addr) (c0_2 : Nat) (l0_2 : List (S82)) (A0_3 : Option Addr) (c0_3 : Nat) (l0_3 : List Int) (A1 : Option Addr) (c1 : Nat) (l1 : List (S58)) (a2 : Int) (A3 : Option Addr) (c3 : Nat) (l3 : List Int) (r : Bool) (w : World) (hr0_2 : Kd.C k82 w A0_2 l0_2.length l0_2) (hc0_2 : l0_2.length ≤ c0_2) (hr0_3 : Kd.C (Kd.int .i64) w A0_3 l0_3.length l0_3) (hc0_3 : l0_3.length ≤ c0_3) (hr1 : Kd.C k58 w A1 l1.length l1) (hc1 : l1.length ≤ c1) (hr3 : Kd.C (Kd.int .u8) w A3 l3.length l3) (hc3 : l3.length ≤ c3) (h : glisterlaw04_CipherFewest.f k a0_0 a0_1 l0_2 l0_3 l1 a2 l3 = some r) :
  Calls Try.prog 11 #[.agg #[.int .i64 a0_0, .int .i64 a0_1, .slice A0_2 l0_2.length c0_2, .slice A0_3 l0_3.length c0_3], .slice A1 l1.length c1, .int .u8 a2, .slice A3 l3.length c3] w fun e w' => e = .returned (.bool r) ∧ Below w.heap.size w w' := by
 have hu25 := Try.underlying25
 have HR0_2 := Sd.mk hr0_2
 have HC0_2 := Sd.mk hc0_2
 clear hr0_2 hc0_2
 have HR0_3 := Sd.mk hr0_3
 have HC0_3 := Sd.mk hc0_3
 clear hr0_3 hc0_3
 have HR1 := Sd.mk hr1
 have HC1 := Sd.mk hc1
 clear hr1 hc1
 have HR3 := Sd.mk hr3
 have HC3 := Sd.mk hc3
 clear hr3 hc3
 have HB := Sd.mk (Below.refl w.heap.size w)
 have H : ((glisterlaw04_lossed.f k a0_0 a0_1 l0_2 l0_3 l1).bind fun t660 => (if t660 = true then ((glisterlaw04_Book.f k a0_0 a0_1 l0_2 l0_3).bind fun bt662 => ((glisterlaw04_Losses.f k l1).bind fun t670 => ((cipher_Plan.f bt662.1 bt662.2.1 bt662.2.2.1 bt662.2.2.2 t670 (Int.tmod (wrap64 (a2)) 9)).bind fun bt673 => (glisterlaw04_CipherFewest.l0 k l1 l3 (Int.tmod (wrap64 (a2)) 9) bt673.1 bt673.2.1 bt673.2.2 ([] : List Int) 0 a0_0 a0_1 l0_2 l0_3)))) else ((glisterlaw04_awake.f).bind fun t661 => (some t661)))) = some r := h
 clear h
 obtain ⟨t660, A50, H⟩ := Option.bind_eq_some_iff.mp H
 have A5 := Sd.mk A50
 clear A50
 by_cases c6 : t660 = true
 ·subst c6
  rw [if_pos rfl] at H
  replace H := Option.bind_eq_some_iff.mp H
  obtain ⟨⟨t662, t663, t664, t667⟩, A70, H⟩ := H
  replace H : ((glisterlaw04_Losses.f k l1).bind fun t670 => ((cipher_Plan.f t662 t663 t664 t667 t670 (Int.tmod (wrap64 (a2)) 9)).bind fun bt673 => (glisterlaw04_CipherFewest.l0 k l1 l3 (Int.tmod (wrap64 (a2)) 9) bt673.1 bt673.2.1 bt673.2.2 ([] : List Int) 0 a0_0 a0_1 l0_2 l0_3))) = some r := H
  have A7 := Sd.mk A70
  clear A70
  obtain ⟨t670, A80, H⟩ := Option.bind_eq_some_iff.mp H
  have A8 := Sd.mk A80
  clear A80
  replace H := Option.bind_eq_some_iff.mp H
  obtain ⟨⟨t673, t676, t677⟩, A90, H⟩ := H
  replace H : (glisterlaw04_CipherFewest.l0 k l1 l3 (Int.tmod (wrap64 (a2)) 9) t673 t676 t677 ([] : List Int) 0 a0_0 a0_1 l0_2 l0_3) = some r := H
  have A9 := Sd.mk A90
  clear A90
  have H' := Sd.mk H
  clear H
  go_enter Try.func11, Try.ntmps11
  go_wp2_with (first | ((with_reducible refine gD (N := 4) rfl ?_); (try (refine gG (by rfl) ?_; dsimp only)); refine xE ?hg (N := 4) ?hd (cs := #[.int .i64 a0_0, .int .i64 a0_1, .slice A0_2 l0_2.length c0_2, .slice A0_3 l0_3.length c0_3]) (t := 25) ?hr ?_; (case hd => rfl); (case hg => rfl); (case hr => first | (go_simp; done) ); intro gb659 hg w10 hbox hb; have BK659 := Sd.mk (hbox); have GW659 := Sd.mk ((by rw [hg]; exact (bZ (by repeat (first | (with_reducible first | exact HB.1 ) ))) : w.heap.size ≤ gb659)); have GE659 := Sd.mk ((by rw [hg]; exact (bZ (by repeat (first | (with_reducible first | exact HB.1 ) ))) : w.heap.size ≤ gb659)); replace HB := Sd.mk (bT (by repeat (first | (with_reducible first | exact HB.1 ) )) hb); clear hb hbox hg; have z_11_0 : w10.cell? ⟨gb659, 0, none⟩ = some (.int .i64 a0_0) := (kC BK659.1 0).trans rfl; have z_11_1 : w10.cell? ⟨gb659, 1, none⟩ = some (.int .i64 a0_1) := (kC BK659.1 1).trans rfl; have z_11_2 : w10.cell? ⟨gb659, 2, none⟩ = some (.slice A0_2 l0_2.length c0_2) := (kC BK659.1 2).trans rfl; have z_11_3 : w10.cell? ⟨gb659, 3, none⟩ = some (.slice A0_3 l0_3.length c0_3) := (kC BK659.1 3).trans rfl) | ((with_reducible refine gate_callee (f := 34) rfl ?_); refine goesL_ (some 20) rfl rfl Try.func34 (by kernel_rfl) rfl #[.agg #[.int .i64 a0_0, .int .i64 a0_1, .slice A0_2 l0_2.length c0_2, .slice A0_3 l0_3.length c0_3], .slice A1 l1.length c1] rfl (by (try simp only [List.map_toArray, List.map_cons, List.map_nil]); first | rfl ) ?_; (with_reducible refine (glisterlaw04_lossed.calls k a0_0 a0_1 _ _ l0_2 _ _ l0_3 _ _ l1 true _ ?side1 ?side2 ?side3 ?side4 ?side5 ?side6 A5.1).mono ?_); (case side1 => repeat (first | exact (Kd.C_below HR0_2.1 HB.1) )); (case side2 => exact HC0_2.1); (case side3 => repeat (first | exact (Kd.C_below HR0_3.1 HB.1) )); (case side4 => exact HC0_3.1); (case side5 => repeat (first | exact (Kd.C_below HR1.1 HB.1) )); (case side6 => exact HC1.1); rintro e w12 ⟨rfl, hb⟩; refine ⟨_, rfl, ?_⟩; replace BK659 := Sd.mk (kB (g := gb659) (o := .cells #[.int .i64 a0_0, .int .i64 a0_1, .slice A0_2 l0_2.length c0_2, .slice A0_3 l0_3.length c0_3] 25 (0, 0)) (by (with_reducible repeat (fail)); exact BK659.1) hb); replace HB := Sd.mk (bT (by repeat (first | (with_reducible first | exact HB.1 ) )) hb); (try clear hb); have z_13_0 : w12.cell? ⟨gb659, 0, none⟩ = some (.int .i64 a0_0) := (kC BK659.1 0).trans rfl; have z_13_1 : w12.cell? ⟨gb659, 1, none⟩ = some (.int .i64 a0_1) := (kC BK659.1 1).trans rfl; have z_13_2 : w12.cell? ⟨gb659, 2, none⟩ = some (.slice A0_2 l0_2.length c0_2) := (kC BK659.1 2).trans rfl; have z_13_3 : w12.cell? ⟨gb659, 3, none⟩ = some (.slice A0_3 l0_3.length c0_3) := (kC BK659.1 3).trans rfl) | ((with_reducible refine gate_callee (f := 19) rfl ?_); refine goesL_ (some 28) rfl rfl Try.func19 (by kernel_rfl) rfl #[.agg #[.int .i64 a0_0, .int .i64 a0_1, .slice A0_2 l0_2.length c0_2, .slice A0_3 l0_3.length c0_3]] rfl (by (try simp only [List.map_toArray, List.map_cons, List.map_nil]); first | rfl ) ?_; (with_reducible refine (glisterlaw04_Book.calls k a0_0 a0_1 _ _ l0_2 _ _ l0_3 t662 t663 t664 t667 _ ?side1 ?side2 ?side3 ?side4 A7.1).mono ?_); (case side1 => repeat (first | exact (Kd.C_below HR0_2.1 HB.1) )); (case side2 => exact HC0_2.1); (case side3 => repeat (first | exact (Kd.C_below HR0_3.1 HB.1) )); (case side4 => exact HC0_3.1); rintro e w14 ⟨v665, v668, rfl, ho0, ho1, hb⟩; refine ⟨_, rfl, ?_⟩; have HO666 := Sd.mk (Kd.R_lower ho0 (bZ (by repeat (first | (with_reducible first | exact HB.1 ) )))); have HO669 := Sd.mk (Kd.R_lower ho1 (bZ (by repeat (first | (with_reducible first | exact HB.1 ) )))); replace BK659 := Sd.mk (kB (g := gb659) (o := .cells #[.int .i64 a0_0, .int .i64 a0_1, .slice A0_2 l0_2.length c0_2, .slice A0_3 l0_3.length c0_3] 25 (0, 0)) (by (with_reducible repeat (fail)); exact BK659.1) hb); replace HB := Sd.mk (bT (by repeat (first | (with_reducible first | exact HB.1 ) )) hb); (try clear hb); (try clear ho0); (try clear ho1)) | ((with_reducible refine gate_callee (f := 30) rfl ?_); refine goesL_ (some 30) rfl rfl Try.func30 (by kernel_rfl) rfl #[.slice A1 l1.length c1] rfl (by (try simp only [List.map_toArray, List.map_cons, List.map_nil]); first | rfl ) ?_; (with_reducible refine (glisterlaw04_Losses.calls k _ _ l1 t670 _ ?side1 ?side2 A8.1).mono ?_); (case side1 => repeat (first | exact (Kd.C_below HR1.1 HB.1) )); (case side2 => exact HC1.1); rintro e w15 ⟨v671, rfl, ho0, hb⟩; refine ⟨_, rfl, ?_⟩; replace HO666 := Sd.mk (Kd.R_below (by (with_reducible repeat (fail)); exact HO666.1) hb); replace HO669 := Sd.mk (Kd.R_below (by (with_reducible repeat (fail)); exact HO669.1) hb); have HO672 := Sd.mk (Kd.R_lower ho0 (bZ (by repeat (first | (with_reducible first | exact HB.1 ) )))); replace BK659 := Sd.mk (kB (g := gb659) (o := .cells #[.int .i64 a0_0, .int .i64 a0_1, .slice A0_2 l0_2.length c0_2, .slice A0_3 l0_3.length c0_3] 25 (0, 0)) (by (with_reducible repeat (fail)); exact BK659.1) hb); replace HB := Sd.mk (bT (by repeat (first | (with_reducible first | exact HB.1 ) )) hb); (try clear hb); (try clear ho0); obtain ⟨Ao16, co16, eo16⟩ := Kd.R_slice HO666.1; subst eo16; obtain ⟨Ao17, co17, eo17⟩ := Kd.R_slice HO669.1; subst eo17; obtain ⟨Ao18, co18, eo18⟩ := Kd.R_slice HO672.1; subst eo18) | ((with_reducible refine gate_callee (f := 35) rfl ?_); refine goesL_ (some 32) rfl rfl Try.func35 (by kernel_rfl) rfl #[.agg #[.int .i64 t662, .int .i64 t663, .slice Ao16 t664.length co16, .slice Ao17 t667.length co17], .slice Ao18 t670.length co18, .int .i64 (Int.tmod (wrap64 (a2)) 9)] rfl (by (try simp only [List.map_toArray, List.map_cons, List.map_nil]); first | rfl ) ?_; (with_reducible refine (cipher_Plan.calls t662 t663 _ _ t664 _ _ t667 _ _ t670 (Int.tmod (wrap64 (a2)) 9) t673 t676 t677 _ ?side1 ?side2 ?side3 ?side4 ?side5 ?side6 A9.1).mono ?_); (case side1 => repeat (first | exact (Kd.R_reads' HO666.1).2.2 )); (case side2 => exact (Kd.R_reads' HO666.1).2.1); (case side3 => repeat (first | exact (Kd.R_reads' HO669.1).2.2 )); (case side4 => exact (Kd.R_reads' HO669.1).2.1); (case side5 => repeat (first | exact (Kd.R_reads' HO672.1).2.2 )); (case side6 => exact (Kd.R_reads' HO672.1).2.1); rintro e w19 ⟨v674, rfl, ho0, hb⟩; refine ⟨_, rfl, ?_⟩; replace HO666 := Sd.mk (Kd.R_below (by (with_reducible repeat (fail)); exact HO666.1) hb); replace HO672 := Sd.mk (Kd.R_below (by (with_reducible repeat (fail)); exact HO672.1) hb); have HO675 := Sd.mk (Kd.R_lower (Kd.R_new' ho0 (Kd.R_lt (by (with_reducible repeat (fail)); exact HO669.1))) (bZ (by repeat (first | (with_reducible first | exact HB.1 ) )))); replace HO669 := Sd.mk (Kd.R_elder' (by (with_reducible repeat (fail)); exact HO669.1) (Kd.R_base ho0) hb); replace BK659 := Sd.mk (kB (g := gb659) (o := .cells #[.int .i64 a0_0, .int .i64 a0_1, .slice A0_2 l0_2.length c0_2, .slice A0_3 l0_3.length c0_3] 25 (0, 0)) (by (with_reducible repeat (fail)); exact BK659.1) hb); replace HB := Sd.mk (bT (by repeat (first | (with_reducible first | exact HB.1 ) )) hb); (try clear hb); (try clear ho0)))
  go_loopg [13, 14] k (fun kq v13 v14 w' => ∃ (x13_1 : List Int) (x14_1 : Int), v14 = .int .i64 x14_1 ∧ Sd (glisterlaw04_CipherFewest.l0 kq l1 l3 (Int.tmod (wrap64 (a2)) 9) t673 t676 t677 x13_1 x14_1 a0_0 a0_1 l0_2 l0_3 = some r) ∧ Sd (kq ≤ k) ∧ Sd (Kd.R (Kd.int .i64) 3 w' w.heap.size (fun k_ => some k_ ≠ (v13 : Value).ownBlock) v674 t673) ∧ Sd (Kd.R (Kd.int .i64) 3 w' w.heap.size (fun k_ => some k_ ≠ (v674 : Value).ownBlock) v13 x13_1) ∧ Sd (w'.heap[gb659]? = some (.cells #[.int .i64 a0_0, .int .i64 a0_1, (.slice A0_2 l0_2.length c0_2), (.slice A0_3 l0_3.length c0_3)] 25 (0, 0))) ∧ Sd (Below w.heap.size w w'))
  case atStart => exact ⟨(([] : List Int)), (0), (by first | rfl ), H', ⟨Nat.le_refl _⟩, ⟨by (with_reducible repeat (fail)); exact Kd.R_mono HO675.1 (fun _ hk => (by simp [Value.ownBlock]))⟩, ⟨by first | exact Kd.R_nil _ _ _ _ _ ⟩, ⟨by (with_reducible repeat (fail)); exact BK659.1⟩, ⟨by repeat (first | (with_reducible first | exact HB.1 ) )⟩⟩
  case round =>
   clear H'
   clear z_11_0 z_11_1 z_11_2 z_11_3 z_13_0 z_13_1 z_13_2 z_13_3
   obtain ⟨x13_1, x14_1, rfl, HA, HK1, HO_10, HO_13, BK659, HB⟩ := hrel
   cases gk with
   | zero => exact absurd HA.1 (by simp [glisterlaw04_CipherFewest.l0])
   | succ k1 =>
    have H := HA.1
    clear HA
    simp only [glisterlaw04_CipherFewest.l0] at H
    have HC20 := Sd.mk H
    clear H
    go_upto_region 7 with (fail)
    go_cut [45] (fun v45 wc => ∃ (kq : Nat) (x45_19 : Bool), v45 = .bool x45_19 ∧ Sd (glisterlaw04_CipherFewest.j1 kq l1 l3 (Int.tmod (wrap64 (a2)) 9) t673 t676 t677 x13_1 x14_1 x45_19 a0_0 a0_1 l0_2 l0_3 = some r) ∧ Sd (kq ≤ k1) ∧ Sd (Kd.R (Kd.int .i64) 3 wc w.heap.size (fun k_ => some k_ ≠ (u13 : Value).ownBlock) v674 t673) ∧ Sd (Kd.R (Kd.int .i64) 3 wc w.heap.size (fun k_ => some k_ ≠ (v674 : Value).ownBlock) u13 x13_1) ∧ Sd (wc.heap[gb659]? = some (.cells #[.int .i64 a0_0, .int .i64 a0_1, (.slice A0_2 l0_2.length c0_2), (.slice A0_3 l0_3.length c0_3)] 25 (0, 0))) ∧ Sd (Below w.heap.size w wc))
    case first =>
     have H := HC20.1
     clear HC20
     by_cases c21 : x14_1 < (l0_3.length : Int)
     ·rw [if_pos c21] at H
      have c21b0 : decide (x14_1 < (l0_3.length : Int)) = true := decide_eq_true c21
      clear c21
      have H' := Sd.mk H
      clear H
      have z_22_3 : wr.cell? ⟨gb659, 3, none⟩ = some (.slice A0_3 l0_3.length c0_3) := (kC BK659.1 3).trans rfl
      go_wp2
      go_meet
      case rel => exact ⟨_, (decide ((l3.length : Int) > 0)), (by first | (simp; done) ), H', ⟨by have := HK1.1; first | omega ⟩, ⟨by (with_reducible repeat (fail)); exact HO_10.1⟩, ⟨by (with_reducible repeat (fail)); exact HO_13.1⟩, ⟨by (with_reducible repeat (fail)); exact BK659.1⟩, ⟨by repeat (first | (with_reducible first | exact HB.1 ) )⟩⟩
     ·rw [if_neg c21] at H
      have c21b0 : decide (x14_1 < (l0_3.length : Int)) = false := decide_eq_false c21
      clear c21
      have H' := Sd.mk H
      clear H
      have z_23_3 : wr.cell? ⟨gb659, 3, none⟩ = some (.slice A0_3 l0_3.length c0_3) := (kC BK659.1 3).trans rfl
      go_wp2
      go_meet
      case rel => exact ⟨_, (false), (by first | rfl ), H', ⟨by have := HK1.1; first | omega ⟩, ⟨by (with_reducible repeat (fail)); exact HO_10.1⟩, ⟨by (with_reducible repeat (fail)); exact HO_13.1⟩, ⟨by (with_reducible repeat (fail)); exact BK659.1⟩, ⟨by repeat (first | (with_reducible first | exact HB.1 ) )⟩⟩
    case rest =>
     clear HC20
     obtain ⟨kq, x45_19, rfl, HA, HJ19, HO_10, HO_13, BK659, HB⟩ := hcut
     cases kq with
     | zero => exact absurd HA.1 (by simp [glisterlaw04_CipherFewest.j1])
     | succ kj19 =>
      have H := HA.1
      clear HA
      simp only [glisterlaw04_CipherFewest.j1] at H
      by_cases c24 : x45_19 = true
      ·subst c24
       rw [if_pos rfl] at H
       by_cases c25 : (l3.length : Int) = 0
       ·rw [if_pos c25] at H
        exact absurd H (by simp)
       ·rw [if_neg c25] at H
        have c25b0 : ((l3.length : Int) == 0) = false := beq_eq_false_iff_ne.mpr c25
        have c25b1 : ((l3.length : Int) != 0) = true := bne_iff_ne.mpr c25
        have c25b2 : ¬ (l3 = []) := fun h_ => c25 (by rw [h_]; rfl)
        obtain ⟨ji26, hji26⟩ : ∃ j_ : Int, (Int.tmod x14_1 (l3.length : Int)) = j_ := ⟨_, rfl⟩
        replace H : (if 0 ≤ (ji26) then (if (ji26) < (l3.length : Int) then (if x14_1 > 0 then (if (wrap64 (rd l3 (ji26))) ≥ 128 then (if 0 ≤ (wrap64 (x14_1 - 1)) then (if (wrap64 (x14_1 - 1)) < (x13_1.length : Int) then (if x13_1.length < 17592186044416 then (glisterlaw04_CipherFewest.l0 kj19 l1 l3 (Int.tmod (wrap64 (a2)) 9) t673 t676 t677 (x13_1 ++ [rd x13_1 (wrap64 (x14_1 - 1))]) (wrap64 (x14_1 + 1)) a0_0 a0_1 l0_2 l0_3) else (none)) else (none)) else (none)) else (if (l0_2.length : Int) = 0 then (none) else (if x13_1.length < 17592186044416 then (glisterlaw04_CipherFewest.l0 kj19 l1 l3 (Int.tmod (wrap64 (a2)) 9) t673 t676 t677 (x13_1 ++ [Int.tmod (wrap64 (rd l3 (ji26))) (l0_2.length : Int)]) (wrap64 (x14_1 + 1)) a0_0 a0_1 l0_2 l0_3) else (none)))) else (if (l0_2.length : Int) = 0 then (none) else (if x13_1.length < 17592186044416 then (glisterlaw04_CipherFewest.l0 kj19 l1 l3 (Int.tmod (wrap64 (a2)) 9) t673 t676 t677 (x13_1 ++ [Int.tmod (wrap64 (rd l3 (ji26))) (l0_2.length : Int)]) (wrap64 (x14_1 + 1)) a0_0 a0_1 l0_2 l0_3) else (none)))) else (none)) else (none)) = some r := by first | (rw [hji26] at H; exact H) 
        by_cases c27 : 0 ≤ (ji26)
        ·rw [if_pos c27] at H
         have c27b0 : decide (0 ≤ (ji26)) = true := decide_eq_true c27
         clear c27
         by_cases c28 : (ji26) < (l3.length : Int)
         ·rw [if_pos c28] at H
          have c28b0 : decide ((ji26) < (l3.length : Int)) = true := decide_eq_true c28
          clear c28
          by_cases c29 : x14_1 > 0
          ·rw [if_pos c29] at H
           have c29b0 : decide (0 < x14_1) = true := decide_eq_true c29
           clear c29
           by_cases c30 : (wrap64 (rd l3 (ji26))) ≥ 128
           ·rw [if_pos c30] at H
            have c30b0 : decide (128 ≤ (wrap64 (rd l3 (ji26)))) = true := decide_eq_true c30
            clear c30
            obtain ⟨ji31, hji31⟩ : ∃ j_ : Int, (wrap64 (x14_1 - 1)) = j_ := ⟨_, rfl⟩
            replace H : (if 0 ≤ (ji31) then (if (ji31) < (x13_1.length : Int) then (if x13_1.length < 17592186044416 then (glisterlaw04_CipherFewest.l0 kj19 l1 l3 (Int.tmod (wrap64 (a2)) 9) t673 t676 t677 (x13_1 ++ [rd x13_1 (ji31)]) (wrap64 (x14_1 + 1)) a0_0 a0_1 l0_2 l0_3) else (none)) else (none)) else (none)) = some r := by first | (rw [hji31] at H; exact H) 
            have hji31w : (IntKind.i64.wrap (x14_1 - 1)) = ji31 := (i64_w _).trans hji31
            by_cases c32 : 0 ≤ (ji31)
            ·rw [if_pos c32] at H
             have c32b0 : decide (0 ≤ (ji31)) = true := decide_eq_true c32
             clear c32
             by_cases c33 : (ji31) < (x13_1.length : Int)
             ·rw [if_pos c33] at H
              have c33b0 : decide ((ji31) < (x13_1.length : Int)) = true := decide_eq_true c33
              clear c33
              by_cases c34 : x13_1.length < 17592186044416
              ·rw [if_pos c34] at H
               have LMc34 := Sd.mk c34
               clear c34
               obtain ⟨y680, hy680⟩ : ∃ y_ : List Int, y_ = (x13_1 ++ [rd x13_1 (ji31)]) := ⟨_, rfl⟩
               replace H : (glisterlaw04_CipherFewest.l0 kj19 l1 l3 (Int.tmod (wrap64 (a2)) 9) t673 t676 t677 y680 (wrap64 (x14_1 + 1)) a0_0 a0_1 l0_2 l0_3) = some r := by first | (rw [hy680]; with_reducible exact H) 
               have Ny680 := Sd.mk hy680
               clear hy680
               have H' := Sd.mk H
               clear H
               have p678 : 0 ≤ ((ji26) : Int) := of_decide_eq_true (by first | (with_reducible assumption) )
               have q678 : (ji26) < (l3.length : Int) := of_decide_eq_true (by first | (with_reducible assumption) )
               obtain ⟨ad678, e678, hx678_0⟩ := Kd.at_int HR3.1 (ji26) p678 q678
               cases e678
               replace hx678_0 := (HB.1.cell (World.block_lt_of_cell? w _ hx678_0)).trans hx678_0
               replace p678 := eq_true p678
               replace q678 := eq_true q678
               obtain ⟨Ao35, co35, eo35⟩ := Kd.R_slice HO_13.1
               subst eo35
               have p679 : 0 ≤ ((ji31) : Int) := of_decide_eq_true (by first | (with_reducible assumption) )
               have q679 : (ji31) < (x13_1.length : Int) := of_decide_eq_true (by first | (with_reducible assumption) )
               obtain ⟨ad679, e679, hx679_0⟩ := Kd.at_int (Kd.R_reads' HO_13.1).2.2 (ji31) p679 q679
               cases e679
               replace p679 := eq_true p679
               replace q679 := eq_true q679
               go_wp2_with (first | ((with_reducible refine gate_builtin (b := .append) (xs := #[.tmp 62, .tmp 68]) rfl ?_); (try (refine gG (by rfl) ?_; dsimp only)); at_builtin; refine Kd.R_append (Kd.int .i64) (w0 := w) w.heap.size rfl (.tmp 62) (.tmp 68) 23 3 (.int .i64 0) 8 rfl Try.underlying23 info3 rfl (by decide) (by omega) (.slice (some ad679) x13_1.length co35) x13_1 (rd x13_1 (ji31)) [.int .i64 (rd x13_1 (ji31))] (fun k_ => some k_ ≠ (v674 : Value).ownBlock) (fun _ => False) rfl rfl ?aP (fun _ hk => hk.elim) ?aF ?aO ?aB ?aS ?aL ?_; (case aP => exact rfl); (case aB => exact (by repeat (first | (with_reducible first | exact HB.1 ) ))); (case aF => exact (fun k_ hk => Kd.fresh' (Kd.R_lt (by (with_reducible repeat (fail)); exact HO_10.1)) k_ hk)); (case aO => exact (by (with_reducible repeat (fail)); exact HO_13.1)); (case aS => exact (bZ (by repeat (first | (with_reducible first | exact HB.1 ) )))); (case aL => have := LMc34.1; omega); intro v681 w36 ho hb hg hat; rw [← Ny680.1] at ho; replace HO_10 := Sd.mk (Kd.R_after (ok := (fun _ => True)) (by (with_reducible repeat (fail)); exact Kd.R_mono HO_10.1 (fun _ hk => ⟨trivial, hk⟩)) hg hat); replace BK659 := Sd.mk (blk_grown (g := gb659) (o := .cells #[.int .i64 a0_0, .int .i64 a0_1, .slice A0_2 l0_2.length c0_2, .slice A0_3 l0_3.length c0_3] 25 (0, 0)) (by (with_reducible repeat (fail)); exact BK659.1) hg (Kd.R_ne HO_13.1 BK659.1 (by decide))); replace HB := Sd.mk (hb); have HO682 := Sd.mk (ho); clear HO_13; clear ho hb hg hat))
               go_roundg kj19
               case measure => have := HK1.1; have := HJ19.1; omega
               case rel => exact ⟨(y680), (wrap64 (x14_1 + 1)), (by first | rfl ), H', ⟨by have := HK1.1; have := HJ19.1; omega⟩, ⟨by (with_reducible repeat (fail)); exact Kd.R_mono HO_10.1 (fun _ hk => hk.2)⟩, ⟨by (with_reducible repeat (fail)); exact HO682.1⟩, ⟨by (with_reducible repeat (fail)); exact BK659.1⟩, ⟨by repeat (first | (with_reducible first | exact HB.1 ) )⟩⟩
              ·rw [if_neg c34] at H
               exact absurd H (by simp)
             ·rw [if_neg c33] at H
              exact absurd H (by simp)
            ·rw [if_neg c32] at H
             exact absurd H (by simp)
           ·rw [if_neg c30] at H
            have c30b0 : decide (128 ≤ (wrap64 (rd l3 (ji26)))) = false := decide_eq_false c30
            clear c30
            by_cases c37 : (l0_2.length : Int) = 0
            ·rw [if_pos c37] at H
             exact absurd H (by simp)
            ·rw [if_neg c37] at H
             have c37b0 : ((l0_2.length : Int) == 0) = false := beq_eq_false_iff_ne.mpr c37
             have c37b1 : ((l0_2.length : Int) != 0) = true := bne_iff_ne.mpr c37
             have c37b2 : ¬ (l0_2 = []) := fun h_ => c37 (by rw [h_]; rfl)
             by_cases c38 : x13_1.length < 17592186044416
             ·rw [if_pos c38] at H
              have LMc38 := Sd.mk c38
              clear c38
              obtain ⟨y683, hy683⟩ : ∃ y_ : List Int, y_ = (x13_1 ++ [Int.tmod (wrap64 (rd l3 (ji26))) (l0_2.length : Int)]) := ⟨_, rfl⟩
              replace H : (glisterlaw04_CipherFewest.l0 kj19 l1 l3 (Int.tmod (wrap64 (a2)) 9) t673 t676 t677 y683 (wrap64 (x14_1 + 1)) a0_0 a0_1 l0_2 l0_3) = some r := by first | (rw [hy683]; with_reducible exact H) 
              have Ny683 := Sd.mk hy683
              clear hy683
              have H' := Sd.mk H
              clear H
              have p678 : 0 ≤ ((ji26) : Int) := of_decide_eq_true (by first | (with_reducible assumption) )
              have q678 : (ji26) < (l3.length : Int) := of_decide_eq_true (by first | (with_reducible assumption) )
              obtain ⟨ad678, e678, hx678_0⟩ := Kd.at_int HR3.1 (ji26) p678 q678
              cases e678
              replace hx678_0 := (HB.1.cell (World.block_lt_of_cell? w _ hx678_0)).trans hx678_0
              replace p678 := eq_true p678
              replace q678 := eq_true q678
              have z_39_2 : wc.cell? ⟨gb659, 2, none⟩ = some (.slice A0_2 l0_2.length c0_2) := (kC BK659.1 2).trans rfl
              go_wp2_with (first | ((with_reducible refine gate_builtin (b := .append) (xs := #[.tmp 70, .tmp 76]) rfl ?_); (try (refine gG (by rfl) ?_; dsimp only)); at_builtin; refine Kd.R_append (Kd.int .i64) (w0 := w) w.heap.size rfl (.tmp 70) (.tmp 76) 23 3 (.int .i64 0) 8 rfl Try.underlying23 info3 rfl (by decide) (by omega) u13 x13_1 (Int.tmod (wrap64 (rd l3 (ji26))) (l0_2.length : Int)) [.int .i64 (Int.tmod (wrap64 (rd l3 (ji26))) (l0_2.length : Int))] (fun k_ => some k_ ≠ (v674 : Value).ownBlock) (fun _ => False) rfl rfl ?aP (fun _ hk => hk.elim) ?aF ?aO ?aB ?aS ?aL ?_; (case aP => exact rfl); (case aB => exact (by repeat (first | (with_reducible first | exact HB.1 ) ))); (case aF => exact (fun k_ hk => Kd.fresh' (Kd.R_lt (by (with_reducible repeat (fail)); exact HO_10.1)) k_ hk)); (case aO => exact (by (with_reducible repeat (fail)); exact HO_13.1)); (case aS => exact (bZ (by repeat (first | (with_reducible first | exact HB.1 ) )))); (case aL => have := LMc38.1; omega); intro v684 w40 ho hb hg hat; rw [← Ny683.1] at ho; replace HO_10 := Sd.mk (Kd.R_after (ok := (fun _ => True)) (by (with_reducible repeat (fail)); exact Kd.R_mono HO_10.1 (fun _ hk => ⟨trivial, hk⟩)) hg hat); replace BK659 := Sd.mk (blk_grown (g := gb659) (o := .cells #[.int .i64 a0_0, .int .i64 a0_1, .slice A0_2 l0_2.length c0_2, .slice A0_3 l0_3.length c0_3] 25 (0, 0)) (by (with_reducible repeat (fail)); exact BK659.1) hg (Kd.R_ne HO_13.1 BK659.1 (by decide))); replace HB := Sd.mk (hb); have HO685 := Sd.mk (ho); clear HO_13; clear ho hb hg hat))
              go_roundg kj19
              case measure => have := HK1.1; have := HJ19.1; omega
              case rel => exact ⟨(y683), (wrap64 (x14_1 + 1)), (by first | rfl ), H', ⟨by have := HK1.1; have := HJ19.1; omega⟩, ⟨by (with_reducible repeat (fail)); exact Kd.R_mono HO_10.1 (fun _ hk => hk.2)⟩, ⟨by (with_reducible repeat (fail)); exact HO685.1⟩, ⟨by (with_reducible repeat (fail)); exact BK659.1⟩, ⟨by repeat (first | (with_reducible first | exact HB.1 ) )⟩⟩
             ·rw [if_neg c38] at H
              exact absurd H (by simp)
          ·rw [if_neg c29] at H
           have c29b0 : decide (0 < x14_1) = false := decide_eq_false c29
           clear c29
           by_cases c41 : (l0_2.length : Int) = 0
           ·rw [if_pos c41] at H
            exact absurd H (by simp)
           ·rw [if_neg c41] at H
            have c41b0 : ((l0_2.length : Int) == 0) = false := beq_eq_false_iff_ne.mpr c41
            have c41b1 : ((l0_2.length : Int) != 0) = true := bne_iff_ne.mpr c41
            have c41b2 : ¬ (l0_2 = []) := fun h_ => c41 (by rw [h_]; rfl)
            by_cases c42 : x13_1.length < 17592186044416
            ·rw [if_pos c42] at H
             have LMc42 := Sd.mk c42
             clear c42
             obtain ⟨y686, hy686⟩ : ∃ y_ : List Int, y_ = (x13_1 ++ [Int.tmod (wrap64 (rd l3 (ji26))) (l0_2.length : Int)]) := ⟨_, rfl⟩
             replace H : (glisterlaw04_CipherFewest.l0 kj19 l1 l3 (Int.tmod (wrap64 (a2)) 9) t673 t676 t677 y686 (wrap64 (x14_1 + 1)) a0_0 a0_1 l0_2 l0_3) = some r := by first | (rw [hy686]; with_reducible exact H) 
             have Ny686 := Sd.mk hy686
             clear hy686
             have H' := Sd.mk H
             clear H
             have p678 : 0 ≤ ((ji26) : Int) := of_decide_eq_true (by first | (with_reducible assumption) )
             have q678 : (ji26) < (l3.length : Int) := of_decide_eq_true (by first | (with_reducible assumption) )
             obtain ⟨ad678, e678, hx678_0⟩ := Kd.at_int HR3.1 (ji26) p678 q678
             cases e678
             replace hx678_0 := (HB.1.cell (World.block_lt_of_cell? w _ hx678_0)).trans hx678_0
             replace p678 := eq_true p678
             replace q678 := eq_true q678
             have z_43_2 : wc.cell? ⟨gb659, 2, none⟩ = some (.slice A0_2 l0_2.length c0_2) := (kC BK659.1 2).trans rfl
             go_wp2_with (first | ((with_reducible refine gate_builtin (b := .append) (xs := #[.tmp 70, .tmp 76]) rfl ?_); (try (refine gG (by rfl) ?_; dsimp only)); at_builtin; refine Kd.R_append (Kd.int .i64) (w0 := w) w.heap.size rfl (.tmp 70) (.tmp 76) 23 3 (.int .i64 0) 8 rfl Try.underlying23 info3 rfl (by decide) (by omega) u13 x13_1 (Int.tmod (wrap64 (rd l3 (ji26))) (l0_2.length : Int)) [.int .i64 (Int.tmod (wrap64 (rd l3 (ji26))) (l0_2.length : Int))] (fun k_ => some k_ ≠ (v674 : Value).ownBlock) (fun _ => False) rfl rfl ?aP (fun _ hk => hk.elim) ?aF ?aO ?aB ?aS ?aL ?_; (case aP => exact rfl); (case aB => exact (by repeat (first | (with_reducible first | exact HB.1 ) ))); (case aF => exact (fun k_ hk => Kd.fresh' (Kd.R_lt (by (with_reducible repeat (fail)); exact HO_10.1)) k_ hk)); (case aO => exact (by (with_reducible repeat (fail)); exact HO_13.1)); (case aS => exact (bZ (by repeat (first | (with_reducible first | exact HB.1 ) )))); (case aL => have := LMc42.1; omega); intro v687 w44 ho hb hg hat; rw [← Ny686.1] at ho; replace HO_10 := Sd.mk (Kd.R_after (ok := (fun _ => True)) (by (with_reducible repeat (fail)); exact Kd.R_mono HO_10.1 (fun _ hk => ⟨trivial, hk⟩)) hg hat); replace BK659 := Sd.mk (blk_grown (g := gb659) (o := .cells #[.int .i64 a0_0, .int .i64 a0_1, .slice A0_2 l0_2.length c0_2, .slice A0_3 l0_3.length c0_3] 25 (0, 0)) (by (with_reducible repeat (fail)); exact BK659.1) hg (Kd.R_ne HO_13.1 BK659.1 (by decide))); replace HB := Sd.mk (hb); have HO688 := Sd.mk (ho); clear HO_13; clear ho hb hg hat))
             go_roundg kj19
             case measure => have := HK1.1; have := HJ19.1; omega
             case rel => exact ⟨(y686), (wrap64 (x14_1 + 1)), (by first | rfl ), H', ⟨by have := HK1.1; have := HJ19.1; omega⟩, ⟨by (with_reducible repeat (fail)); exact Kd.R_mono HO_10.1 (fun _ hk => hk.2)⟩, ⟨by (with_reducible repeat (fail)); exact HO688.1⟩, ⟨by (with_reducible repeat (fail)); exact BK659.1⟩, ⟨by repeat (first | (with_reducible first | exact HB.1 ) )⟩⟩
            ·rw [if_neg c42] at H
             exact absurd H (by simp)
         ·rw [if_neg c28] at H
          exact absurd H (by simp)
        ·rw [if_neg c27] at H
         exact absurd H (by simp)
      ·replace c24 := Bool.eq_false_iff.mpr c24
       subst c24
       rw [if_neg (show ¬ (false = true) by decide)] at H
       obtain ⟨t689, A450, H⟩ := Option.bind_eq_some_iff.mp H
       have A45 := Sd.mk A450
       clear A450
       by_cases c46 : t677 = 0
       ·rw [if_pos c46] at H
        have c46b0 : (t677 == 0) = true := beq_iff_eq.mpr c46
        have c46b1 : (t677 != 0) = false := bne_eq_false_iff_eq.mpr c46
        clear c46
        have HC47 := Sd.mk H
        clear H
        have z_48_0 : wc.cell? ⟨gb659, 0, none⟩ = some (.int .i64 a0_0) := (kC BK659.1 0).trans rfl
        have z_48_1 : wc.cell? ⟨gb659, 1, none⟩ = some (.int .i64 a0_1) := (kC BK659.1 1).trans rfl
        have z_48_2 : wc.cell? ⟨gb659, 2, none⟩ = some (.slice A0_2 l0_2.length c0_2) := (kC BK659.1 2).trans rfl
        have z_48_3 : wc.cell? ⟨gb659, 3, none⟩ = some (.slice A0_3 l0_3.length c0_3) := (kC BK659.1 3).trans rfl
        obtain ⟨Ao49, co49, eo49⟩ := Kd.R_slice HO_13.1
        subst eo49
        go_upto_region 16 with (first | ((with_reducible refine gate_callee (f := 36) rfl ?_); refine goesL_ (some 82) rfl rfl Try.func36 (by kernel_rfl) rfl #[.agg #[.int .i64 a0_0, .int .i64 a0_1, .slice A0_2 l0_2.length c0_2, .slice A0_3 l0_3.length c0_3], .slice A1 l1.length c1, .int .i64 (Int.tmod (wrap64 (a2)) 9), .slice Ao49 x13_1.length co49] rfl (by (try simp only [List.map_toArray, List.map_cons, List.map_nil]); first | rfl ) ?_; (with_reducible refine (glisterref04_IsRight.calls a0_0 a0_1 _ _ l0_2 _ _ l0_3 _ _ l1 (Int.tmod (wrap64 (a2)) 9) _ _ x13_1 t689 _ ?side1 ?side2 ?side3 ?side4 ?side5 ?side6 ?side7 ?side8 A45.1).mono ?_); (case side1 => repeat (first | exact (Kd.C_below HR0_2.1 HB.1) )); (case side2 => exact HC0_2.1); (case side3 => repeat (first | exact (Kd.C_below HR0_3.1 HB.1) )); (case side4 => exact HC0_3.1); (case side5 => repeat (first | exact (Kd.C_below HR1.1 HB.1) )); (case side6 => exact HC1.1); (case side7 => repeat (first | exact (Kd.R_reads' HO_13.1).2.2 )); (case side8 => exact (Kd.R_reads' HO_13.1).2.1); rintro e w50 ⟨rfl, hb⟩; refine ⟨_, rfl, ?_⟩; replace HO_10 := Sd.mk (Kd.R_below (by (with_reducible repeat (fail)); exact HO_10.1) hb); replace HO_13 := Sd.mk (Kd.R_below (by (with_reducible repeat (fail)); exact HO_13.1) hb); replace BK659 := Sd.mk (kB (g := gb659) (o := .cells #[.int .i64 a0_0, .int .i64 a0_1, .slice A0_2 l0_2.length c0_2, .slice A0_3 l0_3.length c0_3] 25 (0, 0)) (by (with_reducible repeat (fail)); exact BK659.1) hb); replace HB := Sd.mk (bT (by repeat (first | (with_reducible first | exact HB.1 ) )) hb); (try clear hb)))
        go_cut [129] (fun v129 wc => ∃ (kq : Nat) (x129_46 : Bool), v129 = .bool x129_46 ∧ Sd (glisterlaw04_CipherFewest.j2 kq t673 t676 x13_1 t689 x129_46 = some r) ∧ Sd (kq ≤ kj19) ∧ Sd (Kd.R (Kd.int .i64) 3 wc w.heap.size (fun k_ => some k_ ≠ ((.slice Ao49 x13_1.length co49) : Value).ownBlock) v674 t673) ∧ Sd (Kd.R (Kd.int .i64) 3 wc w.heap.size (fun k_ => some k_ ≠ (v674 : Value).ownBlock) (.slice Ao49 x13_1.length co49) x13_1) ∧ Sd (wc.heap[gb659]? = some (.cells #[.int .i64 a0_0, .int .i64 a0_1, (.slice A0_2 l0_2.length c0_2), (.slice A0_3 l0_3.length c0_3)] 25 (0, 0))) ∧ Sd (Below w.heap.size w wc))
        case first =>
         have H := HC47.1
         clear HC47
         obtain ⟨t691, A510, H⟩ := Option.bind_eq_some_iff.mp H
         have A51 := Sd.mk A510
         clear A510
         by_cases c52 : t691 = true
         ·subst c52
          rw [if_pos rfl] at H
          obtain ⟨t692, A530, H⟩ := Option.bind_eq_some_iff.mp H
          have A53 := Sd.mk A530
          clear A530
          by_cases c54 : t692 = t676
          ·rw [if_pos c54] at H
           have c54b0 : (t692 == t676) = true := beq_iff_eq.mpr c54
           have c54b1 : (t692 != t676) = false := bne_eq_false_iff_eq.mpr c54
           clear c54
           replace H := Option.bind_eq_some_iff.mp H
           obtain ⟨⟨t693, t694, t695, t698⟩, A550, H⟩ := H
           replace H : ((glisterlaw04_Losses.f kj19 l1).bind fun t701 => ((glisterlaw04_list.f t673).bind fun t704 => ((cipher_ProvePlan.f t693 t694 t695 t698 t701 (Int.tmod (wrap64 (a2)) 9) t704 t676).bind fun t707 => (if t707 = true then ((glisterlaw04_Book.f kj19 a0_0 a0_1 l0_2 l0_3).bind fun bt708 => ((glisterlaw04_Losses.f kj19 l1).bind fun t716 => ((glisterlaw04_list.f t673).bind fun t719 => ((cipher_ProvePlan.f bt708.1 bt708.2.1 bt708.2.2.1 bt708.2.2.2 t716 (Int.tmod (wrap64 (a2)) 9) t719 (wrap64 (t676 - 1))).bind fun t722 => (glisterlaw04_CipherFewest.j2 kj19 t673 t676 x13_1 t689 t722))))) else (glisterlaw04_CipherFewest.j2 kj19 t673 t676 x13_1 t689 true))))) = some r := H
           have A55 := Sd.mk A550
           clear A550
           obtain ⟨t701, A560, H⟩ := Option.bind_eq_some_iff.mp H
           have A56 := Sd.mk A560
           clear A560
           obtain ⟨t704, A570, H⟩ := Option.bind_eq_some_iff.mp H
           have A57 := Sd.mk A570
           clear A570
           obtain ⟨t707, A580, H⟩ := Option.bind_eq_some_iff.mp H
           have A58 := Sd.mk A580
           clear A580
           by_cases c59 : t707 = true
           ·subst c59
            rw [if_pos rfl] at H
            replace H := Option.bind_eq_some_iff.mp H
            obtain ⟨⟨t708, t709, t710, t713⟩, A600, H⟩ := H
            replace H : ((glisterlaw04_Losses.f kj19 l1).bind fun t716 => ((glisterlaw04_list.f t673).bind fun t719 => ((cipher_ProvePlan.f t708 t709 t710 t713 t716 (Int.tmod (wrap64 (a2)) 9) t719 (wrap64 (t676 - 1))).bind fun t722 => (glisterlaw04_CipherFewest.j2 kj19 t673 t676 x13_1 t689 t722)))) = some r := H
            have A60 := Sd.mk A600
            clear A600
            obtain ⟨t716, A610, H⟩ := Option.bind_eq_some_iff.mp H
            have A61 := Sd.mk A610
            clear A610
            obtain ⟨t719, A620, H⟩ := Option.bind_eq_some_iff.mp H
            have A62 := Sd.mk A620
            clear A620
            obtain ⟨t722, A630, H⟩ := Option.bind_eq_some_iff.mp H
            have A63 := Sd.mk A630
            clear A630
            have H' := Sd.mk H
            clear H
            have z_64_0 : w50.cell? ⟨gb659, 0, none⟩ = some (.int .i64 a0_0) := (kC BK659.1 0).trans rfl
            have z_64_1 : w50.cell? ⟨gb659, 1, none⟩ = some (.int .i64 a0_1) := (kC BK659.1 1).trans rfl
            have z_64_2 : w50.cell? ⟨gb659, 2, none⟩ = some (.slice A0_2 l0_2.length c0_2) := (kC BK659.1 2).trans rfl
            have z_64_3 : w50.cell? ⟨gb659, 3, none⟩ = some (.slice A0_3 l0_3.length c0_3) := (kC BK659.1 3).trans rfl
            obtain ⟨Ao65, co65, eo65⟩ := Kd.R_slice HO_10.1
            subst eo65
            go_wp2_with (first | ((with_reducible refine gate_callee (f := 36) rfl ?_); refine goesL_ (some 98) rfl rfl Try.func36 (by kernel_rfl) rfl #[.agg #[.int .i64 a0_0, .int .i64 a0_1, .slice A0_2 l0_2.length c0_2, .slice A0_3 l0_3.length c0_3], .slice A1 l1.length c1, .int .i64 (Int.tmod (wrap64 (a2)) 9), .slice Ao65 t673.length co65] rfl (by (try simp only [List.map_toArray, List.map_cons, List.map_nil]); first | rfl ) ?_; (with_reducible refine (glisterref04_IsRight.calls a0_0 a0_1 _ _ l0_2 _ _ l0_3 _ _ l1 (Int.tmod (wrap64 (a2)) 9) _ _ t673 true _ ?side1 ?side2 ?side3 ?side4 ?side5 ?side6 ?side7 ?side8 A51.1).mono ?_); (case side1 => repeat (first | exact (Kd.C_below HR0_2.1 HB.1) )); (case side2 => exact HC0_2.1); (case side3 => repeat (first | exact (Kd.C_below HR0_3.1 HB.1) )); (case side4 => exact HC0_3.1); (case side5 => repeat (first | exact (Kd.C_below HR1.1 HB.1) )); (case side6 => exact HC1.1); (case side7 => repeat (first | exact (Kd.R_reads' HO_10.1).2.2 )); (case side8 => exact (Kd.R_reads' HO_10.1).2.1); rintro e w66 ⟨rfl, hb⟩; refine ⟨_, rfl, ?_⟩; replace HO_10 := Sd.mk (Kd.R_below (by (with_reducible repeat (fail)); exact HO_10.1) hb); replace HO_13 := Sd.mk (Kd.R_below (by (with_reducible repeat (fail)); exact HO_13.1) hb); replace BK659 := Sd.mk (kB (g := gb659) (o := .cells #[.int .i64 a0_0, .int .i64 a0_1, .slice A0_2 l0_2.length c0_2, .slice A0_3 l0_3.length c0_3] 25 (0, 0)) (by (with_reducible repeat (fail)); exact BK659.1) hb); replace HB := Sd.mk (bT (by repeat (first | (with_reducible first | exact HB.1 ) )) hb); (try clear hb)) | (go_at_call 37; (with_reducible refine (glisterref04_Changes.calls kj19 _ _ t673 t692 _ ?side1 ?side2 A53.1).mono ?_); (case side1 => repeat (first | exact (Kd.R_reads' HO_10.1).2.2 )); (case side2 => exact (Kd.R_reads' HO_10.1).2.1); rintro e w' ⟨rfl, ⟨nd, rfl⟩⟩; have z_67_0 : w66.cell? ⟨gb659, 0, none⟩ = some (.int .i64 a0_0) := (kC BK659.1 0).trans rfl; have z_67_1 : w66.cell? ⟨gb659, 1, none⟩ = some (.int .i64 a0_1) := (kC BK659.1 1).trans rfl; have z_67_2 : w66.cell? ⟨gb659, 2, none⟩ = some (.slice A0_2 l0_2.length c0_2) := (kC BK659.1 2).trans rfl; have z_67_3 : w66.cell? ⟨gb659, 3, none⟩ = some (.slice A0_3 l0_3.length c0_3) := (kC BK659.1 3).trans rfl) | (go_at_call 19; (with_reducible refine (glisterlaw04_Book.calls kj19 a0_0 a0_1 _ _ l0_2 _ _ l0_3 t693 t694 t695 t698 _ ?side1 ?side2 ?side3 ?side4 A55.1).mono ?_); (case side1 => repeat (first | exact (Kd.C_below HR0_2.1 (by repeat (first | (with_reducible first | exact HB.1 | apply bN ) ))) )); (case side2 => exact HC0_2.1); (case side3 => repeat (first | exact (Kd.C_below HR0_3.1 (by repeat (first | (with_reducible first | exact HB.1 | apply bN ) ))) )); (case side4 => exact HC0_3.1); rintro e w68 ⟨v696, v699, rfl, ho0, ho1, hb⟩; have HO697 := Sd.mk (Kd.R_lower ho0 (bZ (by repeat (first | (with_reducible first | exact HB.1 | apply bN ) )))); have HO700 := Sd.mk (Kd.R_lower (Kd.R_new' (Kd.R_new' ho1 (Kd.R_lt (by (with_reducible repeat (apply Kd.R_drewN )); exact HO_10.1))) (Kd.R_lt (by (with_reducible repeat (apply Kd.R_drewN )); exact HO_13.1))) (bZ (by repeat (first | (with_reducible first | exact HB.1 | apply bN ) )))); replace HO_10 := Sd.mk (Kd.R_elder' (by (with_reducible repeat (apply Kd.R_drewN )); exact HO_10.1) (Kd.R_base ho1) hb); replace HO_13 := Sd.mk (Kd.R_elder' (by (with_reducible repeat (apply Kd.R_drewN )); exact HO_13.1) (Kd.R_base ho1) hb); replace BK659 := Sd.mk (kB (g := gb659) (o := .cells #[.int .i64 a0_0, .int .i64 a0_1, .slice A0_2 l0_2.length c0_2, .slice A0_3 l0_3.length c0_3] 25 (0, 0)) (by (with_reducible repeat (refine kN ?_ _ )); exact BK659.1) hb); replace HB := Sd.mk (bT (by repeat (first | (with_reducible first | exact HB.1 | apply bN ) )) hb); (try clear hb); (try clear ho0); (try clear ho1); (try clear A55)) | (go_at_call 30; (with_reducible refine (glisterlaw04_Losses.calls kj19 _ _ l1 t701 _ ?side1 ?side2 A56.1).mono ?_); (case side1 => repeat (first | exact (Kd.C_below HR1.1 HB.1) )); (case side2 => exact HC1.1); rintro e w69 ⟨v702, rfl, ho0, hb⟩; replace HO_10 := Sd.mk (Kd.R_below (by (with_reducible repeat (fail)); exact HO_10.1) hb); replace HO_13 := Sd.mk (Kd.R_below (by (with_reducible repeat (fail)); exact HO_13.1) hb); replace HO697 := Sd.mk (Kd.R_below (by (with_reducible repeat (fail)); exact HO697.1) hb); replace HO700 := Sd.mk (Kd.R_below (by (with_reducible repeat (fail)); exact HO700.1) hb); have HO703 := Sd.mk (Kd.R_lower ho0 (bZ (by repeat (first | (with_reducible first | exact HB.1 ) )))); replace BK659 := Sd.mk (kB (g := gb659) (o := .cells #[.int .i64 a0_0, .int .i64 a0_1, .slice A0_2 l0_2.length c0_2, .slice A0_3 l0_3.length c0_3] 25 (0, 0)) (by (with_reducible repeat (fail)); exact BK659.1) hb); replace HB := Sd.mk (bT (by repeat (first | (with_reducible first | exact HB.1 ) )) hb); (try clear hb); (try clear ho0); (try clear A56)) | (go_at_call 21; (with_reducible refine (glisterlaw04_list.calls _ _ t673 t704 _ ?side1 ?side2 A57.1).mono ?_); (case side1 => repeat (first | exact (Kd.R_reads' HO_10.1).2.2 )); (case side2 => exact (Kd.R_reads' HO_10.1).2.1); rintro e w70 ⟨v705, rfl, ho0, hb⟩; replace HO697 := Sd.mk (Kd.R_below (by (with_reducible repeat (fail)); exact HO697.1) hb); replace HO703 := Sd.mk (Kd.R_below (by (with_reducible repeat (fail)); exact HO703.1) hb); have HO706 := Sd.mk (Kd.R_lower (Kd.R_new' (Kd.R_new' (Kd.R_new' ho0 (Kd.R_lt (by (with_reducible repeat (fail)); exact HO_10.1))) (Kd.R_lt (by (with_reducible repeat (fail)); exact HO_13.1))) (Kd.R_lt (by (with_reducible repeat (fail)); exact HO700.1))) (bZ (by repeat (first | (with_reducible first | exact HB.1 ) )))); replace HO_10 := Sd.mk (Kd.R_elder' (by (with_reducible repeat (fail)); exact HO_10.1) (Kd.R_base ho0) hb); replace HO_13 := Sd.mk (Kd.R_elder' (by (with_reducible repeat (fail)); exact HO_13.1) (Kd.R_base ho0) hb); replace HO700 := Sd.mk (Kd.R_elder' (by (with_reducible repeat (fail)); exact HO700.1) (Kd.R_base ho0) hb); replace BK659 := Sd.mk (kB (g := gb659) (o := .cells #[.int .i64 a0_0, .int .i64 a0_1, .slice A0_2 l0_2.length c0_2, .slice A0_3 l0_3.length c0_3] 25 (0, 0)) (by (with_reducible repeat (fail)); exact BK659.1) hb); replace HB := Sd.mk (bT (by repeat (first | (with_reducible first | exact HB.1 ) )) hb); (try clear hb); (try clear ho0); obtain ⟨Ao71, co71, eo71⟩ := Kd.R_slice HO697.1; subst eo71; obtain ⟨Ao72, co72, eo72⟩ := Kd.R_slice HO700.1; subst eo72; obtain ⟨Ao73, co73, eo73⟩ := Kd.R_slice HO703.1; subst eo73; obtain ⟨Ao74, co74, eo74⟩ := Kd.R_slice HO706.1; subst eo74; (try clear A57)) | (go_at_call 38; (with_reducible refine (cipher_ProvePlan.calls t693 t694 _ _ t695 _ _ t698 _ _ t701 (Int.tmod (wrap64 (a2)) 9) _ _ t704 t676 true _ ?side1 ?side2 ?side3 ?side4 ?side5 ?side6 ?side7 ?side8 A58.1).mono ?_); (case side1 => repeat (first | exact (Kd.R_reads' HO697.1).2.2 )); (case side2 => exact (Kd.R_reads' HO697.1).2.1); (case side3 => repeat (first | exact (Kd.R_reads' HO700.1).2.2 )); (case side4 => exact (Kd.R_reads' HO700.1).2.1); (case side5 => repeat (first | exact (Kd.R_reads' HO703.1).2.2 )); (case side6 => exact (Kd.R_reads' HO703.1).2.1); (case side7 => repeat (first | exact (Kd.R_reads' HO706.1).2.2 )); (case side8 => exact (Kd.R_reads' HO706.1).2.1); rintro e w75 ⟨rfl, hb⟩; replace HO_10 := Sd.mk (Kd.R_below (by (with_reducible repeat (fail)); exact HO_10.1) hb); replace HO_13 := Sd.mk (Kd.R_below (by (with_reducible repeat (fail)); exact HO_13.1) hb); replace HO697 := Sd.mk (Kd.R_below (by (with_reducible repeat (fail)); exact HO697.1) hb); replace HO700 := Sd.mk (Kd.R_below (by (with_reducible repeat (fail)); exact HO700.1) hb); replace HO703 := Sd.mk (Kd.R_below (by (with_reducible repeat (fail)); exact HO703.1) hb); replace HO706 := Sd.mk (Kd.R_below (by (with_reducible repeat (fail)); exact HO706.1) hb); replace BK659 := Sd.mk (kB (g := gb659) (o := .cells #[.int .i64 a0_0, .int .i64 a0_1, .slice A0_2 l0_2.length c0_2, .slice A0_3 l0_3.length c0_3] 25 (0, 0)) (by (with_reducible repeat (fail)); exact BK659.1) hb); replace HB := Sd.mk (bT (by repeat (first | (with_reducible first | exact HB.1 ) )) hb); (try clear hb); have z_76_0 : w75.cell? ⟨gb659, 0, none⟩ = some (.int .i64 a0_0) := (kC BK659.1 0).trans rfl; have z_76_1 : w75.cell? ⟨gb659, 1, none⟩ = some (.int .i64 a0_1) := (kC BK659.1 1).trans rfl; have z_76_2 : w75.cell? ⟨gb659, 2, none⟩ = some (.slice A0_2 l0_2.length c0_2) := (kC BK659.1 2).trans rfl; have z_76_3 : w75.cell? ⟨gb659, 3, none⟩ = some (.slice A0_3 l0_3.length c0_3) := (kC BK659.1 3).trans rfl; (try clear A58)) | (go_at_call 19; (with_reducible refine (glisterlaw04_Book.calls kj19 a0_0 a0_1 _ _ l0_2 _ _ l0_3 t708 t709 t710 t713 _ ?side1 ?side2 ?side3 ?side4 A60.1).mono ?_); (case side1 => repeat (first | exact (Kd.C_below HR0_2.1 HB.1) )); (case side2 => exact HC0_2.1); (case side3 => repeat (first | exact (Kd.C_below HR0_3.1 HB.1) )); (case side4 => exact HC0_3.1); rintro e w77 ⟨v711, v714, rfl, ho0, ho1, hb⟩; replace HO703 := Sd.mk (Kd.R_below (by (with_reducible repeat (fail)); exact HO703.1) hb); have HO712 := Sd.mk (Kd.R_lower (Kd.R_new' ho0 (Kd.R_lt (by (with_reducible repeat (fail)); exact HO697.1))) (bZ (by repeat (first | (with_reducible first | exact HB.1 ) )))); replace HO697 := Sd.mk (Kd.R_elder' (by (with_reducible repeat (fail)); exact HO697.1) (Kd.R_base ho0) hb); have HO715 := Sd.mk (Kd.R_lower (Kd.R_new' (Kd.R_new' (Kd.R_new' (Kd.R_new' ho1 (Kd.R_lt (by (with_reducible repeat (fail)); exact HO_10.1))) (Kd.R_lt (by (with_reducible repeat (fail)); exact HO_13.1))) (Kd.R_lt (by (with_reducible repeat (fail)); exact HO700.1))) (Kd.R_lt (by (with_reducible repeat (fail)); exact HO706.1))) (bZ (by repeat (first | (with_reducible first | exact HB.1 ) )))); replace HO_10 := Sd.mk (Kd.R_elder' (by (with_reducible repeat (fail)); exact HO_10.1) (Kd.R_base ho1) hb); replace HO_13 := Sd.mk (Kd.R_elder' (by (with_reducible repeat (fail)); exact HO_13.1) (Kd.R_base ho1) hb); replace HO700 := Sd.mk (Kd.R_elder' (by (with_reducible repeat (fail)); exact HO700.1) (Kd.R_base ho1) hb); replace HO706 := Sd.mk (Kd.R_elder' (by (with_reducible repeat (fail)); exact HO706.1) (Kd.R_base ho1) hb); replace BK659 := Sd.mk (kB (g := gb659) (o := .cells #[.int .i64 a0_0, .int .i64 a0_1, .slice A0_2 l0_2.length c0_2, .slice A0_3 l0_3.length c0_3] 25 (0, 0)) (by (with_reducible repeat (fail)); exact BK659.1) hb); replace HB := Sd.mk (bT (by repeat (first | (with_reducible first | exact HB.1 ) )) hb); (try clear hb); (try clear ho0); (try clear ho1); (try clear A60)) | (go_at_call 30; (with_reducible refine (glisterlaw04_Losses.calls kj19 _ _ l1 t716 _ ?side1 ?side2 A61.1).mono ?_); (case side1 => repeat (first | exact (Kd.C_below HR1.1 HB.1) )); (case side2 => exact HC1.1); rintro e w78 ⟨v717, rfl, ho0, hb⟩; replace HO_10 := Sd.mk (Kd.R_below (by (with_reducible repeat (fail)); exact HO_10.1) hb); replace HO_13 := Sd.mk (Kd.R_below (by (with_reducible repeat (fail)); exact HO_13.1) hb); replace HO697 := Sd.mk (Kd.R_below (by (with_reducible repeat (fail)); exact HO697.1) hb); replace HO700 := Sd.mk (Kd.R_below (by (with_reducible repeat (fail)); exact HO700.1) hb); replace HO706 := Sd.mk (Kd.R_below (by (with_reducible repeat (fail)); exact HO706.1) hb); replace HO712 := Sd.mk (Kd.R_below (by (with_reducible repeat (fail)); exact HO712.1) hb); replace HO715 := Sd.mk (Kd.R_below (by (with_reducible repeat (fail)); exact HO715.1) hb); have HO718 := Sd.mk (Kd.R_lower (Kd.R_new' ho0 (Kd.R_lt (by (with_reducible repeat (fail)); exact HO703.1))) (bZ (by repeat (first | (with_reducible first | exact HB.1 ) )))); replace HO703 := Sd.mk (Kd.R_elder' (by (with_reducible repeat (fail)); exact HO703.1) (Kd.R_base ho0) hb); replace BK659 := Sd.mk (kB (g := gb659) (o := .cells #[.int .i64 a0_0, .int .i64 a0_1, .slice A0_2 l0_2.length c0_2, .slice A0_3 l0_3.length c0_3] 25 (0, 0)) (by (with_reducible repeat (fail)); exact BK659.1) hb); replace HB := Sd.mk (bT (by repeat (first | (with_reducible first | exact HB.1 ) )) hb); (try clear hb); (try clear ho0); (try clear A61)) | (go_at_call 21; (with_reducible refine (glisterlaw04_list.calls _ _ t673 t719 _ ?side1 ?side2 A62.1).mono ?_); (case side1 => repeat (first | exact (Kd.R_reads' HO_10.1).2.2 )); (case side2 => exact (Kd.R_reads' HO_10.1).2.1); rintro e w79 ⟨v720, rfl, ho0, hb⟩; replace HO697 := Sd.mk (Kd.R_below (by (with_reducible repeat (fail)); exact HO697.1) hb); replace HO703 := Sd.mk (Kd.R_below (by (with_reducible repeat (fail)); exact HO703.1) hb); replace HO712 := Sd.mk (Kd.R_below (by (with_reducible repeat (fail)); exact HO712.1) hb); replace HO718 := Sd.mk (Kd.R_below (by (with_reducible repeat (fail)); exact HO718.1) hb); have HO721 := Sd.mk (Kd.R_lower (Kd.R_new' (Kd.R_new' (Kd.R_new' (Kd.R_new' (Kd.R_new' ho0 (Kd.R_lt (by (with_reducible repeat (fail)); exact HO_10.1))) (Kd.R_lt (by (with_reducible repeat (fail)); exact HO_13.1))) (Kd.R_lt (by (with_reducible repeat (fail)); exact HO700.1))) (Kd.R_lt (by (with_reducible repeat (fail)); exact HO706.1))) (Kd.R_lt (by (with_reducible repeat (fail)); exact HO715.1))) (bZ (by repeat (first | (with_reducible first | exact HB.1 ) )))); replace HO_10 := Sd.mk (Kd.R_elder' (by (with_reducible repeat (fail)); exact HO_10.1) (Kd.R_base ho0) hb); replace HO_13 := Sd.mk (Kd.R_elder' (by (with_reducible repeat (fail)); exact HO_13.1) (Kd.R_base ho0) hb); replace HO700 := Sd.mk (Kd.R_elder' (by (with_reducible repeat (fail)); exact HO700.1) (Kd.R_base ho0) hb); replace HO706 := Sd.mk (Kd.R_elder' (by (with_reducible repeat (fail)); exact HO706.1) (Kd.R_base ho0) hb); replace HO715 := Sd.mk (Kd.R_elder' (by (with_reducible repeat (fail)); exact HO715.1) (Kd.R_base ho0) hb); replace BK659 := Sd.mk (kB (g := gb659) (o := .cells #[.int .i64 a0_0, .int .i64 a0_1, .slice A0_2 l0_2.length c0_2, .slice A0_3 l0_3.length c0_3] 25 (0, 0)) (by (with_reducible repeat (fail)); exact BK659.1) hb); replace HB := Sd.mk (bT (by repeat (first | (with_reducible first | exact HB.1 ) )) hb); (try clear hb); (try clear ho0); obtain ⟨Ao80, co80, eo80⟩ := Kd.R_slice HO712.1; subst eo80; obtain ⟨Ao81, co81, eo81⟩ := Kd.R_slice HO715.1; subst eo81; obtain ⟨Ao82, co82, eo82⟩ := Kd.R_slice HO718.1; subst eo82; obtain ⟨Ao83, co83, eo83⟩ := Kd.R_slice HO721.1; subst eo83; (try clear A62)) | (go_at_call 38; (with_reducible refine (cipher_ProvePlan.calls t708 t709 _ _ t710 _ _ t713 _ _ t716 (Int.tmod (wrap64 (a2)) 9) _ _ t719 (wrap64 (t676 - 1)) t722 _ ?side1 ?side2 ?side3 ?side4 ?side5 ?side6 ?side7 ?side8 A63.1).mono ?_); (case side1 => repeat (first | exact (Kd.R_reads' HO712.1).2.2 )); (case side2 => exact (Kd.R_reads' HO712.1).2.1); (case side3 => repeat (first | exact (Kd.R_reads' HO715.1).2.2 )); (case side4 => exact (Kd.R_reads' HO715.1).2.1); (case side5 => repeat (first | exact (Kd.R_reads' HO718.1).2.2 )); (case side6 => exact (Kd.R_reads' HO718.1).2.1); (case side7 => repeat (first | exact (Kd.R_reads' HO721.1).2.2 )); (case side8 => exact (Kd.R_reads' HO721.1).2.1); rintro e w84 ⟨rfl, hb⟩; replace HO_10 := Sd.mk (Kd.R_below (by (with_reducible repeat (fail)); exact HO_10.1) hb); replace HO_13 := Sd.mk (Kd.R_below (by (with_reducible repeat (fail)); exact HO_13.1) hb); replace HO697 := Sd.mk (Kd.R_below (by (with_reducible repeat (fail)); exact HO697.1) hb); replace HO700 := Sd.mk (Kd.R_below (by (with_reducible repeat (fail)); exact HO700.1) hb); replace HO703 := Sd.mk (Kd.R_below (by (with_reducible repeat (fail)); exact HO703.1) hb); replace HO706 := Sd.mk (Kd.R_below (by (with_reducible repeat (fail)); exact HO706.1) hb); replace HO712 := Sd.mk (Kd.R_below (by (with_reducible repeat (fail)); exact HO712.1) hb); replace HO715 := Sd.mk (Kd.R_below (by (with_reducible repeat (fail)); exact HO715.1) hb); replace HO718 := Sd.mk (Kd.R_below (by (with_reducible repeat (fail)); exact HO718.1) hb); replace HO721 := Sd.mk (Kd.R_below (by (with_reducible repeat (fail)); exact HO721.1) hb); replace BK659 := Sd.mk (kB (g := gb659) (o := .cells #[.int .i64 a0_0, .int .i64 a0_1, .slice A0_2 l0_2.length c0_2, .slice A0_3 l0_3.length c0_3] 25 (0, 0)) (by (with_reducible repeat (fail)); exact BK659.1) hb); replace HB := Sd.mk (bT (by repeat (first | (with_reducible first | exact HB.1 ) )) hb); (try clear hb); (try clear A63)))
            go_meet
            case rel => exact ⟨_, (t722), (by first | rfl ), H', ⟨by have := HK1.1; have := HJ19.1; first | omega ⟩, ⟨by (with_reducible repeat (fail)); exact Kd.R_mono HO_10.1 (fun _ hk => hk.1.1.1.1)⟩, ⟨by (with_reducible repeat (fail)); exact Kd.R_mono HO_13.1 (fun _ hk => hk.1.1.1.1)⟩, ⟨by (with_reducible repeat (fail)); exact BK659.1⟩, ⟨by repeat (first | (with_reducible first | exact HB.1 ) )⟩⟩
           ·replace c59 := Bool.eq_false_iff.mpr c59
            subst c59
            rw [if_neg (show ¬ (false = true) by decide)] at H
            have H' := Sd.mk H
            clear H
            have z_85_0 : w50.cell? ⟨gb659, 0, none⟩ = some (.int .i64 a0_0) := (kC BK659.1 0).trans rfl
            have z_85_1 : w50.cell? ⟨gb659, 1, none⟩ = some (.int .i64 a0_1) := (kC BK659.1 1).trans rfl
            have z_85_2 : w50.cell? ⟨gb659, 2, none⟩ = some (.slice A0_2 l0_2.length c0_2) := (kC BK659.1 2).trans rfl
            have z_85_3 : w50.cell? ⟨gb659, 3, none⟩ = some (.slice A0_3 l0_3.length c0_3) := (kC BK659.1 3).trans rfl
            obtain ⟨Ao86, co86, eo86⟩ := Kd.R_slice HO_10.1
            subst eo86
            go_wp2_with (first | ((with_reducible refine gate_callee (f := 36) rfl ?_); refine goesL_ (some 98) rfl rfl Try.func36 (by kernel_rfl) rfl #[.agg #[.int .i64 a0_0, .int .i64 a0_1, .slice A0_2 l0_2.length c0_2, .slice A0_3 l0_3.length c0_3], .slice A1 l1.length c1, .int .i64 (Int.tmod (wrap64 (a2)) 9), .slice Ao86 t673.length co86] rfl (by (try simp only [List.map_toArray, List.map_cons, List.map_nil]); first | rfl ) ?_; (with_reducible refine (glisterref04_IsRight.calls a0_0 a0_1 _ _ l0_2 _ _ l0_3 _ _ l1 (Int.tmod (wrap64 (a2)) 9) _ _ t673 true _ ?side1 ?side2 ?side3 ?side4 ?side5 ?side6 ?side7 ?side8 A51.1).mono ?_); (case side1 => repeat (first | exact (Kd.C_below HR0_2.1 HB.1) )); (case side2 => exact HC0_2.1); (case side3 => repeat (first | exact (Kd.C_below HR0_3.1 HB.1) )); (case side4 => exact HC0_3.1); (case side5 => repeat (first | exact (Kd.C_below HR1.1 HB.1) )); (case side6 => exact HC1.1); (case side7 => repeat (first | exact (Kd.R_reads' HO_10.1).2.2 )); (case side8 => exact (Kd.R_reads' HO_10.1).2.1); rintro e w87 ⟨rfl, hb⟩; refine ⟨_, rfl, ?_⟩; replace HO_10 := Sd.mk (Kd.R_below (by (with_reducible repeat (fail)); exact HO_10.1) hb); replace HO_13 := Sd.mk (Kd.R_below (by (with_reducible repeat (fail)); exact HO_13.1) hb); replace BK659 := Sd.mk (kB (g := gb659) (o := .cells #[.int .i64 a0_0, .int .i64 a0_1, .slice A0_2 l0_2.length c0_2, .slice A0_3 l0_3.length c0_3] 25 (0, 0)) (by (with_reducible repeat (fail)); exact BK659.1) hb); replace HB := Sd.mk (bT (by repeat (first | (with_reducible first | exact HB.1 ) )) hb); (try clear hb)) | (go_at_call 37; (with_reducible refine (glisterref04_Changes.calls kj19 _ _ t673 t692 _ ?side1 ?side2 A53.1).mono ?_); (case side1 => repeat (first | exact (Kd.R_reads' HO_10.1).2.2 )); (case side2 => exact (Kd.R_reads' HO_10.1).2.1); rintro e w' ⟨rfl, ⟨nd, rfl⟩⟩; have z_88_0 : w87.cell? ⟨gb659, 0, none⟩ = some (.int .i64 a0_0) := (kC BK659.1 0).trans rfl; have z_88_1 : w87.cell? ⟨gb659, 1, none⟩ = some (.int .i64 a0_1) := (kC BK659.1 1).trans rfl; have z_88_2 : w87.cell? ⟨gb659, 2, none⟩ = some (.slice A0_2 l0_2.length c0_2) := (kC BK659.1 2).trans rfl; have z_88_3 : w87.cell? ⟨gb659, 3, none⟩ = some (.slice A0_3 l0_3.length c0_3) := (kC BK659.1 3).trans rfl) | (go_at_call 19; (with_reducible refine (glisterlaw04_Book.calls kj19 a0_0 a0_1 _ _ l0_2 _ _ l0_3 t693 t694 t695 t698 _ ?side1 ?side2 ?side3 ?side4 A55.1).mono ?_); (case side1 => repeat (first | exact (Kd.C_below HR0_2.1 (by repeat (first | (with_reducible first | exact HB.1 | apply bN ) ))) )); (case side2 => exact HC0_2.1); (case side3 => repeat (first | exact (Kd.C_below HR0_3.1 (by repeat (first | (with_reducible first | exact HB.1 | apply bN ) ))) )); (case side4 => exact HC0_3.1); rintro e w89 ⟨v696, v699, rfl, ho0, ho1, hb⟩; have HO697 := Sd.mk (Kd.R_lower ho0 (bZ (by repeat (first | (with_reducible first | exact HB.1 | apply bN ) )))); have HO700 := Sd.mk (Kd.R_lower (Kd.R_new' (Kd.R_new' ho1 (Kd.R_lt (by (with_reducible repeat (apply Kd.R_drewN )); exact HO_10.1))) (Kd.R_lt (by (with_reducible repeat (apply Kd.R_drewN )); exact HO_13.1))) (bZ (by repeat (first | (with_reducible first | exact HB.1 | apply bN ) )))); replace HO_10 := Sd.mk (Kd.R_elder' (by (with_reducible repeat (apply Kd.R_drewN )); exact HO_10.1) (Kd.R_base ho1) hb); replace HO_13 := Sd.mk (Kd.R_elder' (by (with_reducible repeat (apply Kd.R_drewN )); exact HO_13.1) (Kd.R_base ho1) hb); replace BK659 := Sd.mk (kB (g := gb659) (o := .cells #[.int .i64 a0_0, .int .i64 a0_1, .slice A0_2 l0_2.length c0_2, .slice A0_3 l0_3.length c0_3] 25 (0, 0)) (by (with_reducible repeat (refine kN ?_ _ )); exact BK659.1) hb); replace HB := Sd.mk (bT (by repeat (first | (with_reducible first | exact HB.1 | apply bN ) )) hb); (try clear hb); (try clear ho0); (try clear ho1)) | (go_at_call 30; (with_reducible refine (glisterlaw04_Losses.calls kj19 _ _ l1 t701 _ ?side1 ?side2 A56.1).mono ?_); (case side1 => repeat (first | exact (Kd.C_below HR1.1 HB.1) )); (case side2 => exact HC1.1); rintro e w90 ⟨v702, rfl, ho0, hb⟩; replace HO_10 := Sd.mk (Kd.R_below (by (with_reducible repeat (fail)); exact HO_10.1) hb); replace HO_13 := Sd.mk (Kd.R_below (by (with_reducible repeat (fail)); exact HO_13.1) hb); replace HO697 := Sd.mk (Kd.R_below (by (with_reducible repeat (fail)); exact HO697.1) hb); replace HO700 := Sd.mk (Kd.R_below (by (with_reducible repeat (fail)); exact HO700.1) hb); have HO703 := Sd.mk (Kd.R_lower ho0 (bZ (by repeat (first | (with_reducible first | exact HB.1 ) )))); replace BK659 := Sd.mk (kB (g := gb659) (o := .cells #[.int .i64 a0_0, .int .i64 a0_1, .slice A0_2 l0_2.length c0_2, .slice A0_3 l0_3.length c0_3] 25 (0, 0)) (by (with_reducible repeat (fail)); exact BK659.1) hb); replace HB := Sd.mk (bT (by repeat (first | (with_reducible first | exact HB.1 ) )) hb); (try clear hb); (try clear ho0)) | (go_at_call 21; (with_reducible refine (glisterlaw04_list.calls _ _ t673 t704 _ ?side1 ?side2 A57.1).mono ?_); (case side1 => repeat (first | exact (Kd.R_reads' HO_10.1).2.2 )); (case side2 => exact (Kd.R_reads' HO_10.1).2.1); rintro e w91 ⟨v705, rfl, ho0, hb⟩; replace HO697 := Sd.mk (Kd.R_below (by (with_reducible repeat (fail)); exact HO697.1) hb); replace HO703 := Sd.mk (Kd.R_below (by (with_reducible repeat (fail)); exact HO703.1) hb); have HO706 := Sd.mk (Kd.R_lower (Kd.R_new' (Kd.R_new' (Kd.R_new' ho0 (Kd.R_lt (by (with_reducible repeat (fail)); exact HO_10.1))) (Kd.R_lt (by (with_reducible repeat (fail)); exact HO_13.1))) (Kd.R_lt (by (with_reducible repeat (fail)); exact HO700.1))) (bZ (by repeat (first | (with_reducible first | exact HB.1 ) )))); replace HO_10 := Sd.mk (Kd.R_elder' (by (with_reducible repeat (fail)); exact HO_10.1) (Kd.R_base ho0) hb); replace HO_13 := Sd.mk (Kd.R_elder' (by (with_reducible repeat (fail)); exact HO_13.1) (Kd.R_base ho0) hb); replace HO700 := Sd.mk (Kd.R_elder' (by (with_reducible repeat (fail)); exact HO700.1) (Kd.R_base ho0) hb); replace BK659 := Sd.mk (kB (g := gb659) (o := .cells #[.int .i64 a0_0, .int .i64 a0_1, .slice A0_2 l0_2.length c0_2, .slice A0_3 l0_3.length c0_3] 25 (0, 0)) (by (with_reducible repeat (fail)); exact BK659.1) hb); replace HB := Sd.mk (bT (by repeat (first | (with_reducible first | exact HB.1 ) )) hb); (try clear hb); (try clear ho0); obtain ⟨Ao92, co92, eo92⟩ := Kd.R_slice HO697.1; subst eo92; obtain ⟨Ao93, co93, eo93⟩ := Kd.R_slice HO700.1; subst eo93; obtain ⟨Ao94, co94, eo94⟩ := Kd.R_slice HO703.1; subst eo94; obtain ⟨Ao95, co95, eo95⟩ := Kd.R_slice HO706.1; subst eo95) | (go_at_call 38; (with_reducible refine (cipher_ProvePlan.calls t693 t694 _ _ t695 _ _ t698 _ _ t701 (Int.tmod (wrap64 (a2)) 9) _ _ t704 t676 false _ ?side1 ?side2 ?side3 ?side4 ?side5 ?side6 ?side7 ?side8 A58.1).mono ?_); (case side1 => repeat (first | exact (Kd.R_reads' HO697.1).2.2 )); (case side2 => exact (Kd.R_reads' HO697.1).2.1); (case side3 => repeat (first | exact (Kd.R_reads' HO700.1).2.2 )); (case side4 => exact (Kd.R_reads' HO700.1).2.1); (case side5 => repeat (first | exact (Kd.R_reads' HO703.1).2.2 )); (case side6 => exact (Kd.R_reads' HO703.1).2.1); (case side7 => repeat (first | exact (Kd.R_reads' HO706.1).2.2 )); (case side8 => exact (Kd.R_reads' HO706.1).2.1); rintro e w96 ⟨rfl, hb⟩; replace HO_10 := Sd.mk (Kd.R_below (by (with_reducible repeat (fail)); exact HO_10.1) hb); replace HO_13 := Sd.mk (Kd.R_below (by (with_reducible repeat (fail)); exact HO_13.1) hb); replace HO697 := Sd.mk (Kd.R_below (by (with_reducible repeat (fail)); exact HO697.1) hb); replace HO700 := Sd.mk (Kd.R_below (by (with_reducible repeat (fail)); exact HO700.1) hb); replace HO703 := Sd.mk (Kd.R_below (by (with_reducible repeat (fail)); exact HO703.1) hb); replace HO706 := Sd.mk (Kd.R_below (by (with_reducible repeat (fail)); exact HO706.1) hb); replace BK659 := Sd.mk (kB (g := gb659) (o := .cells #[.int .i64 a0_0, .int .i64 a0_1, .slice A0_2 l0_2.length c0_2, .slice A0_3 l0_3.length c0_3] 25 (0, 0)) (by (with_reducible repeat (fail)); exact BK659.1) hb); replace HB := Sd.mk (bT (by repeat (first | (with_reducible first | exact HB.1 ) )) hb); (try clear hb)))
            go_meet
            case rel => exact ⟨_, (true), (by first | rfl ), H', ⟨by have := HK1.1; have := HJ19.1; first | omega ⟩, ⟨by (with_reducible repeat (fail)); exact Kd.R_mono HO_10.1 (fun _ hk => hk.1.1)⟩, ⟨by (with_reducible repeat (fail)); exact Kd.R_mono HO_13.1 (fun _ hk => hk.1.1)⟩, ⟨by (with_reducible repeat (fail)); exact BK659.1⟩, ⟨by repeat (first | (with_reducible first | exact HB.1 ) )⟩⟩
          ·rw [if_neg c54] at H
           have c54b0 : (t692 == t676) = false := beq_eq_false_iff_ne.mpr c54
           have c54b1 : (t692 != t676) = true := bne_iff_ne.mpr c54
           have H' := Sd.mk H
           clear H
           have z_97_0 : w50.cell? ⟨gb659, 0, none⟩ = some (.int .i64 a0_0) := (kC BK659.1 0).trans rfl
           have z_97_1 : w50.cell? ⟨gb659, 1, none⟩ = some (.int .i64 a0_1) := (kC BK659.1 1).trans rfl
           have z_97_2 : w50.cell? ⟨gb659, 2, none⟩ = some (.slice A0_2 l0_2.length c0_2) := (kC BK659.1 2).trans rfl
           have z_97_3 : w50.cell? ⟨gb659, 3, none⟩ = some (.slice A0_3 l0_3.length c0_3) := (kC BK659.1 3).trans rfl
           obtain ⟨Ao98, co98, eo98⟩ := Kd.R_slice HO_10.1
           subst eo98
           go_wp2_with (first | ((with_reducible refine gate_callee (f := 36) rfl ?_); refine goesL_ (some 98) rfl rfl Try.func36 (by kernel_rfl) rfl #[.agg #[.int .i64 a0_0, .int .i64 a0_1, .slice A0_2 l0_2.length c0_2, .slice A0_3 l0_3.length c0_3], .slice A1 l1.length c1, .int .i64 (Int.tmod (wrap64 (a2)) 9), .slice Ao98 t673.length co98] rfl (by (try simp only [List.map_toArray, List.map_cons, List.map_nil]); first | rfl ) ?_; (with_reducible refine (glisterref04_IsRight.calls a0_0 a0_1 _ _ l0_2 _ _ l0_3 _ _ l1 (Int.tmod (wrap64 (a2)) 9) _ _ t673 true _ ?side1 ?side2 ?side3 ?side4 ?side5 ?side6 ?side7 ?side8 A51.1).mono ?_); (case side1 => repeat (first | exact (Kd.C_below HR0_2.1 HB.1) )); (case side2 => exact HC0_2.1); (case side3 => repeat (first | exact (Kd.C_below HR0_3.1 HB.1) )); (case side4 => exact HC0_3.1); (case side5 => repeat (first | exact (Kd.C_below HR1.1 HB.1) )); (case side6 => exact HC1.1); (case side7 => repeat (first | exact (Kd.R_reads' HO_10.1).2.2 )); (case side8 => exact (Kd.R_reads' HO_10.1).2.1); rintro e w99 ⟨rfl, hb⟩; refine ⟨_, rfl, ?_⟩; replace HO_10 := Sd.mk (Kd.R_below (by (with_reducible repeat (fail)); exact HO_10.1) hb); replace HO_13 := Sd.mk (Kd.R_below (by (with_reducible repeat (fail)); exact HO_13.1) hb); replace BK659 := Sd.mk (kB (g := gb659) (o := .cells #[.int .i64 a0_0, .int .i64 a0_1, .slice A0_2 l0_2.length c0_2, .slice A0_3 l0_3.length c0_3] 25 (0, 0)) (by (with_reducible repeat (fail)); exact BK659.1) hb); replace HB := Sd.mk (bT (by repeat (first | (with_reducible first | exact HB.1 ) )) hb); (try clear hb)) | (go_at_call 37; (with_reducible refine (glisterref04_Changes.calls kj19 _ _ t673 t692 _ ?side1 ?side2 A53.1).mono ?_); (case side1 => repeat (first | exact (Kd.R_reads' HO_10.1).2.2 )); (case side2 => exact (Kd.R_reads' HO_10.1).2.1); rintro e w' ⟨rfl, ⟨nd, rfl⟩⟩))
           go_meet
           case rel => exact ⟨_, (true), (by first | rfl ), H', ⟨by have := HK1.1; have := HJ19.1; first | omega ⟩, ⟨by (with_reducible repeat (apply Kd.R_drewN )); exact HO_10.1⟩, ⟨by (with_reducible repeat (apply Kd.R_drewN )); exact HO_13.1⟩, ⟨by (with_reducible repeat (refine kN ?_ _ )); exact BK659.1⟩, ⟨by repeat (first | (with_reducible first | exact HB.1 | apply bN ) )⟩⟩
         ·replace c52 := Bool.eq_false_iff.mpr c52
          subst c52
          rw [if_neg (show ¬ (false = true) by decide)] at H
          have H' := Sd.mk H
          clear H
          have z_100_0 : w50.cell? ⟨gb659, 0, none⟩ = some (.int .i64 a0_0) := (kC BK659.1 0).trans rfl
          have z_100_1 : w50.cell? ⟨gb659, 1, none⟩ = some (.int .i64 a0_1) := (kC BK659.1 1).trans rfl
          have z_100_2 : w50.cell? ⟨gb659, 2, none⟩ = some (.slice A0_2 l0_2.length c0_2) := (kC BK659.1 2).trans rfl
          have z_100_3 : w50.cell? ⟨gb659, 3, none⟩ = some (.slice A0_3 l0_3.length c0_3) := (kC BK659.1 3).trans rfl
          obtain ⟨Ao101, co101, eo101⟩ := Kd.R_slice HO_10.1
          subst eo101
          go_wp2_with (first | ((with_reducible refine gate_callee (f := 36) rfl ?_); refine goesL_ (some 98) rfl rfl Try.func36 (by kernel_rfl) rfl #[.agg #[.int .i64 a0_0, .int .i64 a0_1, .slice A0_2 l0_2.length c0_2, .slice A0_3 l0_3.length c0_3], .slice A1 l1.length c1, .int .i64 (Int.tmod (wrap64 (a2)) 9), .slice Ao101 t673.length co101] rfl (by (try simp only [List.map_toArray, List.map_cons, List.map_nil]); first | rfl ) ?_; (with_reducible refine (glisterref04_IsRight.calls a0_0 a0_1 _ _ l0_2 _ _ l0_3 _ _ l1 (Int.tmod (wrap64 (a2)) 9) _ _ t673 false _ ?side1 ?side2 ?side3 ?side4 ?side5 ?side6 ?side7 ?side8 A51.1).mono ?_); (case side1 => repeat (first | exact (Kd.C_below HR0_2.1 HB.1) )); (case side2 => exact HC0_2.1); (case side3 => repeat (first | exact (Kd.C_below HR0_3.1 HB.1) )); (case side4 => exact HC0_3.1); (case side5 => repeat (first | exact (Kd.C_below HR1.1 HB.1) )); (case side6 => exact HC1.1); (case side7 => repeat (first | exact (Kd.R_reads' HO_10.1).2.2 )); (case side8 => exact (Kd.R_reads' HO_10.1).2.1); rintro e w102 ⟨rfl, hb⟩; refine ⟨_, rfl, ?_⟩; replace HO_10 := Sd.mk (Kd.R_below (by (with_reducible repeat (fail)); exact HO_10.1) hb); replace HO_13 := Sd.mk (Kd.R_below (by (with_reducible repeat (fail)); exact HO_13.1) hb); replace BK659 := Sd.mk (kB (g := gb659) (o := .cells #[.int .i64 a0_0, .int .i64 a0_1, .slice A0_2 l0_2.length c0_2, .slice A0_3 l0_3.length c0_3] 25 (0, 0)) (by (with_reducible repeat (fail)); exact BK659.1) hb); replace HB := Sd.mk (bT (by repeat (first | (with_reducible first | exact HB.1 ) )) hb); (try clear hb)))
          go_meet
          case rel => exact ⟨_, (true), (by first | rfl ), H', ⟨by have := HK1.1; have := HJ19.1; first | omega ⟩, ⟨by (with_reducible repeat (fail)); exact HO_10.1⟩, ⟨by (with_reducible repeat (fail)); exact HO_13.1⟩, ⟨by (with_reducible repeat (fail)); exact BK659.1⟩, ⟨by repeat (first | (with_reducible first | exact HB.1 ) )⟩⟩
        case rest =>
         clear HC47
         clear c46b0 c46b1
         clear z_48_0 z_48_1 z_48_2 z_48_3
         obtain ⟨kq, x129_46, rfl, HA, HJ46, HO_10, HO_13, BK659, HB⟩ := hcut
         cases kq with
         | zero => exact absurd HA.1 (by simp [glisterlaw04_CipherFewest.j2])
         | succ kj46 =>
          have H := HA.1
          clear HA
          simp only [glisterlaw04_CipherFewest.j2] at H
          by_cases c103 : x129_46 = true
          ·subst c103
           rw [if_pos rfl] at H
           exact absurd H (by simp)
          ·replace c103 := Bool.eq_false_iff.mpr c103
           subst c103
           rw [if_neg (show ¬ (false = true) by decide)] at H
           obtain ⟨t723, A1040, H⟩ := Option.bind_eq_some_iff.mp H
           have A104 := Sd.mk A1040
           clear A1040
           by_cases c105 : t689 = true
           ·subst c105
            rw [if_pos rfl] at H
            by_cases c106 : t723 > t676
            ·rw [if_pos c106] at H
             have c106b0 : decide (t676 < t723) = true := decide_eq_true c106
             clear c106
             obtain ⟨t724, A1070, H⟩ := Option.bind_eq_some_iff.mp H
             have A107 := Sd.mk A1070
             clear A1070
             obtain rfl := Option.some.inj H
             go_wp2_with (first | ((with_reducible refine gate_callee (f := 37) rfl ?_); refine goesL_ (some 131) rfl rfl Try.func37 (by kernel_rfl) rfl #[.slice Ao49 x13_1.length co49] rfl (by (try simp only [List.map_toArray, List.map_cons, List.map_nil]); first | rfl ) ?_; (with_reducible refine (glisterref04_Changes.calls kj46 _ _ x13_1 t723 _ ?side1 ?side2 A104.1).mono ?_); (case side1 => repeat (first | exact (Kd.R_reads' HO_13.1).2.2 )); (case side2 => exact (Kd.R_reads' HO_13.1).2.1); rintro e w' ⟨rfl, ⟨nd, rfl⟩⟩; refine ⟨_, rfl, ?_⟩) | (go_at_call 17; (with_reducible refine (glisterlaw04_awake.calls  t724 _ A107.1).mono ?_); rintro e w108 ⟨rfl, hb⟩; replace HO_10 := Sd.mk (Kd.R_below (by (with_reducible repeat (apply Kd.R_drewN )); exact HO_10.1) hb); replace HO_13 := Sd.mk (Kd.R_below (by (with_reducible repeat (apply Kd.R_drewN )); exact HO_13.1) hb); replace BK659 := Sd.mk (kB (g := gb659) (o := .cells #[.int .i64 a0_0, .int .i64 a0_1, .slice A0_2 l0_2.length c0_2, .slice A0_3 l0_3.length c0_3] 25 (0, 0)) (by (with_reducible repeat (refine kN ?_ _ )); exact BK659.1) hb); replace HB := Sd.mk (bT (by repeat (first | (with_reducible first | exact HB.1 | apply bN ) )) hb); (try clear hb)))
             go_ret
             exact ⟨by first | rfl , by repeat (first | (with_reducible first | exact HB.1 ) )⟩
            ·rw [if_neg c106] at H
             have c106b0 : decide (t676 < t723) = false := decide_eq_false c106
             clear c106
             by_cases c109 : t723 = t676
             ·rw [if_pos c109] at H
              have c109b0 : (t723 == t676) = true := beq_iff_eq.mpr c109
              have c109b1 : (t723 != t676) = false := bne_eq_false_iff_eq.mpr c109
              clear c109
              obtain ⟨t725, A1100, H⟩ := Option.bind_eq_some_iff.mp H
              have A110 := Sd.mk A1100
              clear A1100
              by_cases c111 : t725 = true
              ·subst c111
               rw [if_pos rfl] at H
               exact absurd H (by simp)
              ·replace c111 := Bool.eq_false_iff.mpr c111
               subst c111
               rw [if_neg (show ¬ (false = true) by decide)] at H
               obtain ⟨t726, A1120, H⟩ := Option.bind_eq_some_iff.mp H
               have A112 := Sd.mk A1120
               clear A1120
               obtain rfl := Option.some.inj H
               go_wp2_with (first | ((with_reducible refine gate_callee (f := 37) rfl ?_); refine goesL_ (some 131) rfl rfl Try.func37 (by kernel_rfl) rfl #[.slice Ao49 x13_1.length co49] rfl (by (try simp only [List.map_toArray, List.map_cons, List.map_nil]); first | rfl ) ?_; (with_reducible refine (glisterref04_Changes.calls kj46 _ _ x13_1 t723 _ ?side1 ?side2 A104.1).mono ?_); (case side1 => repeat (first | exact (Kd.R_reads' HO_13.1).2.2 )); (case side2 => exact (Kd.R_reads' HO_13.1).2.1); rintro e w' ⟨rfl, ⟨nd, rfl⟩⟩; refine ⟨_, rfl, ?_⟩; obtain ⟨Ao113, co113, eo113⟩ := Kd.R_slice HO_10.1; subst eo113) | (go_at_call 39; (with_reducible refine (glisterlaw04_before.calls kj46 _ _ x13_1 _ _ t673 false _ ?side1 ?side2 ?side3 ?side4 A110.1).mono ?_); (case side1 => repeat (first | exact (Kd.R_reads' HO_13.1).2.2 )); (case side2 => exact (Kd.R_reads' HO_13.1).2.1); (case side3 => repeat (first | exact (Kd.R_reads' HO_10.1).2.2 )); (case side4 => exact (Kd.R_reads' HO_10.1).2.1); rintro e w' ⟨rfl, ⟨nd, rfl⟩⟩) | (go_at_call 17; (with_reducible refine (glisterlaw04_awake.calls  t726 _ A112.1).mono ?_); rintro e w114 ⟨rfl, hb⟩; replace HO_10 := Sd.mk (Kd.R_below (by (with_reducible repeat (apply Kd.R_drewN )); exact HO_10.1) hb); replace HO_13 := Sd.mk (Kd.R_below (by (with_reducible repeat (apply Kd.R_drewN )); exact HO_13.1) hb); replace BK659 := Sd.mk (kB (g := gb659) (o := .cells #[.int .i64 a0_0, .int .i64 a0_1, .slice A0_2 l0_2.length c0_2, .slice A0_3 l0_3.length c0_3] 25 (0, 0)) (by (with_reducible repeat (refine kN ?_ _ )); exact BK659.1) hb); replace HB := Sd.mk (bT (by repeat (first | (with_reducible first | exact HB.1 | apply bN ) )) hb); (try clear hb)))
               go_ret
               exact ⟨by first | rfl , by repeat (first | (with_reducible first | exact HB.1 ) )⟩
             ·rw [if_neg c109] at H
              exact absurd H (by simp)
           ·replace c105 := Bool.eq_false_iff.mpr c105
            subst c105
            rw [if_neg (show ¬ (false = true) by decide)] at H
            obtain ⟨t727, A1150, H⟩ := Option.bind_eq_some_iff.mp H
            have A115 := Sd.mk A1150
            clear A1150
            obtain rfl := Option.some.inj H
            go_wp2_with (first | ((with_reducible refine gate_callee (f := 37) rfl ?_); refine goesL_ (some 131) rfl rfl Try.func37 (by kernel_rfl) rfl #[.slice Ao49 x13_1.length co49] rfl (by (try simp only [List.map_toArray, List.map_cons, List.map_nil]); first | rfl ) ?_; (with_reducible refine (glisterref04_Changes.calls kj46 _ _ x13_1 t723 _ ?side1 ?side2 A104.1).mono ?_); (case side1 => repeat (first | exact (Kd.R_reads' HO_13.1).2.2 )); (case side2 => exact (Kd.R_reads' HO_13.1).2.1); rintro e w' ⟨rfl, ⟨nd, rfl⟩⟩; refine ⟨_, rfl, ?_⟩) | (go_at_call 17; (with_reducible refine (glisterlaw04_awake.calls  t727 _ A115.1).mono ?_); rintro e w116 ⟨rfl, hb⟩; replace HO_10 := Sd.mk (Kd.R_below (by (with_reducible repeat (apply Kd.R_drewN )); exact HO_10.1) hb); replace HO_13 := Sd.mk (Kd.R_below (by (with_reducible repeat (apply Kd.R_drewN )); exact HO_13.1) hb); replace BK659 := Sd.mk (kB (g := gb659) (o := .cells #[.int .i64 a0_0, .int .i64 a0_1, .slice A0_2 l0_2.length c0_2, .slice A0_3 l0_3.length c0_3] 25 (0, 0)) (by (with_reducible repeat (refine kN ?_ _ )); exact BK659.1) hb); replace HB := Sd.mk (bT (by repeat (first | (with_reducible first | exact HB.1 | apply bN ) )) hb); (try clear hb)))
            go_ret
            exact ⟨by first | rfl , by repeat (first | (with_reducible first | exact HB.1 ) )⟩
       ·rw [if_neg c46] at H
        have c46b0 : (t677 == 0) = false := beq_eq_false_iff_ne.mpr c46
        have c46b1 : (t677 != 0) = true := bne_iff_ne.mpr c46
        by_cases c117 : t677 = 10
        ·rw [if_pos c117] at H
         have c117b0 : (t677 == 10) = true := beq_iff_eq.mpr c117
         have c117b1 : (t677 != 10) = false := bne_eq_false_iff_eq.mpr c117
         clear c117
         by_cases c118 : t689 = true
         ·subst c118
          rw [if_pos rfl] at H
          exact absurd H (by simp)
         ·replace c118 := Bool.eq_false_iff.mpr c118
          subst c118
          rw [if_neg (show ¬ (false = true) by decide)] at H
          obtain ⟨t690, A1190, H⟩ := Option.bind_eq_some_iff.mp H
          have A119 := Sd.mk A1190
          clear A1190
          obtain rfl := Option.some.inj H
          have z_120_0 : wc.cell? ⟨gb659, 0, none⟩ = some (.int .i64 a0_0) := (kC BK659.1 0).trans rfl
          have z_120_1 : wc.cell? ⟨gb659, 1, none⟩ = some (.int .i64 a0_1) := (kC BK659.1 1).trans rfl
          have z_120_2 : wc.cell? ⟨gb659, 2, none⟩ = some (.slice A0_2 l0_2.length c0_2) := (kC BK659.1 2).trans rfl
          have z_120_3 : wc.cell? ⟨gb659, 3, none⟩ = some (.slice A0_3 l0_3.length c0_3) := (kC BK659.1 3).trans rfl
          obtain ⟨Ao121, co121, eo121⟩ := Kd.R_slice HO_13.1
          subst eo121
          go_wp2_with (first | ((with_reducible refine gate_callee (f := 36) rfl ?_); refine goesL_ (some 82) rfl rfl Try.func36 (by kernel_rfl) rfl #[.agg #[.int .i64 a0_0, .int .i64 a0_1, .slice A0_2 l0_2.length c0_2, .slice A0_3 l0_3.length c0_3], .slice A1 l1.length c1, .int .i64 (Int.tmod (wrap64 (a2)) 9), .slice Ao121 x13_1.length co121] rfl (by (try simp only [List.map_toArray, List.map_cons, List.map_nil]); first | rfl ) ?_; (with_reducible refine (glisterref04_IsRight.calls a0_0 a0_1 _ _ l0_2 _ _ l0_3 _ _ l1 (Int.tmod (wrap64 (a2)) 9) _ _ x13_1 false _ ?side1 ?side2 ?side3 ?side4 ?side5 ?side6 ?side7 ?side8 A45.1).mono ?_); (case side1 => repeat (first | exact (Kd.C_below HR0_2.1 HB.1) )); (case side2 => exact HC0_2.1); (case side3 => repeat (first | exact (Kd.C_below HR0_3.1 HB.1) )); (case side4 => exact HC0_3.1); (case side5 => repeat (first | exact (Kd.C_below HR1.1 HB.1) )); (case side6 => exact HC1.1); (case side7 => repeat (first | exact (Kd.R_reads' HO_13.1).2.2 )); (case side8 => exact (Kd.R_reads' HO_13.1).2.1); rintro e w122 ⟨rfl, hb⟩; refine ⟨_, rfl, ?_⟩; replace HO_10 := Sd.mk (Kd.R_below (by (with_reducible repeat (fail)); exact HO_10.1) hb); replace HO_13 := Sd.mk (Kd.R_below (by (with_reducible repeat (fail)); exact HO_13.1) hb); replace BK659 := Sd.mk (kB (g := gb659) (o := .cells #[.int .i64 a0_0, .int .i64 a0_1, .slice A0_2 l0_2.length c0_2, .slice A0_3 l0_3.length c0_3] 25 (0, 0)) (by (with_reducible repeat (fail)); exact BK659.1) hb); replace HB := Sd.mk (bT (by repeat (first | (with_reducible first | exact HB.1 ) )) hb); (try clear hb)) | (go_at_call 17; (with_reducible refine (glisterlaw04_awake.calls  t690 _ A119.1).mono ?_); rintro e w123 ⟨rfl, hb⟩; replace HO_10 := Sd.mk (Kd.R_below (by (with_reducible repeat (fail)); exact HO_10.1) hb); replace HO_13 := Sd.mk (Kd.R_below (by (with_reducible repeat (fail)); exact HO_13.1) hb); replace BK659 := Sd.mk (kB (g := gb659) (o := .cells #[.int .i64 a0_0, .int .i64 a0_1, .slice A0_2 l0_2.length c0_2, .slice A0_3 l0_3.length c0_3] 25 (0, 0)) (by (with_reducible repeat (fail)); exact BK659.1) hb); replace HB := Sd.mk (bT (by repeat (first | (with_reducible first | exact HB.1 ) )) hb); (try clear hb)))
          go_ret
          exact ⟨by first | rfl , by repeat (first | (with_reducible first | exact HB.1 ) )⟩
        ·rw [if_neg c117] at H
         exact absurd H (by simp)
 ·replace c6 := Bool.eq_false_iff.mpr c6
  subst c6
  rw [if_neg (show ¬ (false = true) by decide)] at H
  obtain ⟨t661, A1240, H⟩ := Option.bind_eq_some_iff.mp H
  have A124 := Sd.mk A1240
  clear A1240
  obtain rfl := Option.some.inj H
  go_enter Try.func11, Try.ntmps11
  go_wp2_with (first | ((with_reducible refine gD (N := 4) rfl ?_); (try (refine gG (by rfl) ?_; dsimp only)); refine xE ?hg (N := 4) ?hd (cs := #[.int .i64 a0_0, .int .i64 a0_1, .slice A0_2 l0_2.length c0_2, .slice A0_3 l0_3.length c0_3]) (t := 25) ?hr ?_; (case hd => rfl); (case hg => rfl); (case hr => first | (go_simp; done) ); intro gb659 hg w125 hbox hb; have BK659 := Sd.mk (hbox); have GW659 := Sd.mk ((by rw [hg]; exact (bZ (by repeat (first | (with_reducible first | exact HB.1 ) ))) : w.heap.size ≤ gb659)); have GE659 := Sd.mk ((by rw [hg]; exact (bZ (by repeat (first | (with_reducible first | exact HB.1 ) ))) : w.heap.size ≤ gb659)); replace HB := Sd.mk (bT (by repeat (first | (with_reducible first | exact HB.1 ) )) hb); clear hb hbox hg; have z_126_0 : w125.cell? ⟨gb659, 0, none⟩ = some (.int .i64 a0_0) := (kC BK659.1 0).trans rfl; have z_126_1 : w125.cell? ⟨gb659, 1, none⟩ = some (.int .i64 a0_1) := (kC BK659.1 1).trans rfl; have z_126_2 : w125.cell? ⟨gb659, 2, none⟩ = some (.slice A0_2 l0_2.length c0_2) := (kC BK659.1 2).trans rfl; have z_126_3 : w125.cell? ⟨gb659, 3, none⟩ = some (.slice A0_3 l0_3.length c0_3) := (kC BK659.1 3).trans rfl) | ((with_reducible refine gate_callee (f := 34) rfl ?_); refine goesL_ (some 20) rfl rfl Try.func34 (by kernel_rfl) rfl #[.agg #[.int .i64 a0_0, .int .i64 a0_1, .slice A0_2 l0_2.length c0_2, .slice A0_3 l0_3.length c0_3], .slice A1 l1.length c1] rfl (by (try simp only [List.map_toArray, List.map_cons, List.map_nil]); first | rfl ) ?_; (with_reducible refine (glisterlaw04_lossed.calls k a0_0 a0_1 _ _ l0_2 _ _ l0_3 _ _ l1 false _ ?side1 ?side2 ?side3 ?side4 ?side5 ?side6 A5.1).mono ?_); (case side1 => repeat (first | exact (Kd.C_below HR0_2.1 HB.1) )); (case side2 => exact HC0_2.1); (case side3 => repeat (first | exact (Kd.C_below HR0_3.1 HB.1) )); (case side4 => exact HC0_3.1); (case side5 => repeat (first | exact (Kd.C_below HR1.1 HB.1) )); (case side6 => exact HC1.1); rintro e w127 ⟨rfl, hb⟩; refine ⟨_, rfl, ?_⟩; replace BK659 := Sd.mk (kB (g := gb659) (o := .cells #[.int .i64 a0_0, .int .i64 a0_1, .slice A0_2 l0_2.length c0_2, .slice A0_3 l0_3.length c0_3] 25 (0, 0)) (by (with_reducible repeat (fail)); exact BK659.1) hb); replace HB := Sd.mk (bT (by repeat (first | (with_reducible first | exact HB.1 ) )) hb); (try clear hb)) | ((with_reducible refine gate_callee (f := 17) rfl ?_); refine goesL_ (some 22) rfl rfl Try.func17 (by kernel_rfl) rfl #[] rfl (by (try simp only [List.map_toArray, List.map_cons, List.map_nil]); first | done ) ?_; (with_reducible refine (glisterlaw04_awake.calls  t661 _ A124.1).mono ?_); rintro e w128 ⟨rfl, hb⟩; refine ⟨_, rfl, ?_⟩; replace BK659 := Sd.mk (kB (g := gb659) (o := .cells #[.int .i64 a0_0, .int .i64 a0_1, .slice A0_2 l0_2.length c0_2, .slice A0_3 l0_3.length c0_3] 25 (0, 0)) (by (with_reducible repeat (fail)); exact BK659.1) hb); replace HB := Sd.mk (bT (by repeat (first | (with_reducible first | exact HB.1 ) )) hb); (try clear hb)))
  go_ret
  exact ⟨by first | rfl , by repeat (first | (with_reducible first | exact HB.1 ) )⟩
end Go.Proofs.Ytnidgkmopocdkaa.P
