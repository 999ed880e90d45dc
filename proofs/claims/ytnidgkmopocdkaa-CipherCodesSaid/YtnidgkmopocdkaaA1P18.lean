import Derived.Test.YtnidgkmopocdkaaA1P0
import Derived.Test.YtnidgkmopocdkaaA1P2
import Derived.Test.YtnidgkmopocdkaaA1P3
import Derived.Test.YtnidgkmopocdkaaA1P4
import Derived.Test.YtnidgkmopocdkaaA1P5
import Derived.Test.YtnidgkmopocdkaaA1P13
import Derived.Test.YtnidgkmopocdkaaA1P17
import Derived.Test.YtnidgkmopocdkaaA1HAwake
import Derived.Test.YtnidgkmopocdkaaA1HCheck
namespace Go.Proofs.Ytnidgkmopocdkaa.P
open Go.RowKit Go.Proofs.YtnidgkmopocdkaaW.PrintWords Go.Proofs.YtnidgkmopocdkaaW.PrintLast Go.Proofs.YtnidgkmopocdkaaW.PrintMore
attribute [local go_sem] max2_int min2_int max_two min_two max_three min_three max_four min_four   -- for this text's walks alone
set_option linter.unusedVariables false
set_option linter.unusedSimpArgs false
mutual
def glisterlaw04_CipherCodes.j0 : Nat → Int → List Int → Bool → Int → Int → List (S82) → List Int → Option (Bool)
 | 0, _, _, _, _, _, _, _ => none
 | k + 1, x1, x2, x18, x266000, x266001, x266002, x266003 => if x18 = true then ((glisterlaw04_awake.f).bind fun t267 => (some t267)) else ((glisterlaw04_Book.f k x266000 x266001 x266002 x266003).bind fun bt268 => ((cipher_CheckBook.f bt268.1 bt268.2.1 bt268.2.2.1 bt268.2.2.2).bind fun t276 => ((glisterlaw04_Book.f k x266000 x266001 x266002 x266003).bind fun bt277 => ((glisterlaw04_list.f x2).bind fun t285 => ((cipher_Code.f k bt277.1 bt277.2.1 bt277.2.2.1 bt277.2.2.2 x1 t285).bind fun bt288 => ((glisterlaw04_fault.f k x266000 x266001 x266002 x266003).bind fun t292 => (if t276 = t292 then (if t292 = 0 then ((glisterref04_In.f x1 0 (wrap64 ((x266003.length : Int) - 1))).bind fun t293 => (if t293 = true then (if (x2.length : Int) > 10 then (glisterlaw04_CipherCodes.j1 k x1 x2 bt288.1 bt288.2 3 x266000 x266001 x266002 x266003) else ((glisterref04_Plain.f k x266000 x266001 x266002 x266003 x2).bind fun t294 => (if t294 = true then (glisterlaw04_CipherCodes.j1 k x1 x2 bt288.1 bt288.2 t292 x266000 x266001 x266002 x266003) else (glisterlaw04_CipherCodes.j1 k x1 x2 bt288.1 bt288.2 2 x266000 x266001 x266002 x266003)))) else (glisterlaw04_CipherCodes.j1 k x1 x2 bt288.1 bt288.2 2 x266000 x266001 x266002 x266003))) else (glisterlaw04_CipherCodes.j1 k x1 x2 bt288.1 bt288.2 t292 x266000 x266001 x266002 x266003)) else (none))))))))
def glisterlaw04_CipherCodes.j1 : Nat → Int → List Int → List Int → Int → Int → Int → Int → List (S82) → List Int → Option (Bool)
 | 0, _, _, _, _, _, _, _, _, _ => none
 | k + 1, x1, x2, x8, x9, x10, x266000, x266001, x266002, x266003 => if x10 = 0 then (if x9 = 0 then ((glisterref04_Code.f k x266000 x266001 x266002 x266003 x1 x2).bind fun t295 => ((glisterref04_Same.f k x8 t295).bind fun t298 => (if t298 = true then ((glisterlaw04_awake.f).bind fun t299 => (some t299)) else (none)))) else (none)) else (if x9 = x10 then (if (x8.length : Int) = 0 then ((glisterlaw04_awake.f).bind fun t300 => (some t300)) else (none)) else (none))
end
def glisterlaw04_CipherCodes.f (k : Nat) (a0_0 : Int) (a0_1 : Int) (l0_2 : List (S82)) (l0_3 : List Int) (a1 : Int) (l2 : List Int) : Option (Bool) := (glisterlaw04_Thin.f a0_0 a0_1 l0_2 l0_3).bind fun t266 => (if t266 = true then (glisterlaw04_CipherCodes.j0 k a1 l2 (decide ((l2.length : Int) > 13)) a0_0 a0_1 l0_2 l0_3) else (glisterlaw04_CipherCodes.j0 k a1 l2 true a0_0 a0_1 l0_2 l0_3))
set_option maxHeartbeats 8000000 in
set_option maxRecDepth 100000 in
theorem glisterlaw04_CipherCodes.calls (k : Nat) (a0_0 : Int) (a0_1 : Int) (A0_2 : Option Addr) (c0_2 : Nat) (l0_2 : List (S82)) (A0_3 : Option Addr) (c0_3 : Nat) (l0_3 : List Int) (a1 : Int) (A2 : Option Addr) (c2 : Nat) (l2 : List Int) (r : Bool) (w : World) (hr0_2 : Kd.C k82 w A0_2 l0_2.length l0_2) (hc0_2 : l0_2.length ≤ c0_2) (hr0_3 : Kd.C (Kd.int .i64) w A0_3 l0_3.length l0_3) (hc0_3 : l0_3.length ≤ c0_3) (hr2 : Kd.C (Kd.int .i64) w A2 l2.length l2) (hc2 : l2.length ≤ c2) (h : glisterlaw04_CipherCodes.f k a0_0 a0_1 l0_2 l0_3 a1 l2 = some r) :
  Calls Try.prog 3 #[.agg #[.int .i64 a0_0, .int .i64 a0_1, .slice A0_2 l0_2.length c0_2, .slice A0_3 l0_3.length c0_3], .int .i64 a1, .slice A2 l2.length c2] w fun e w' => e = .returned (.bool r) ∧ Below w.heap.size w w' := by
 have hu25 := Try.underlying25
 have HR0_2 := Sd.mk hr0_2
 have HC0_2 := Sd.mk hc0_2
 clear hr0_2 hc0_2
 have HR0_3 := Sd.mk hr0_3
 have HC0_3 := Sd.mk hc0_3
 clear hr0_3 hc0_3
 have HR2 := Sd.mk hr2
 have HC2 := Sd.mk hc2
 clear hr2 hc2
 have HB := Sd.mk (Below.refl w.heap.size w)
 have H : ((glisterlaw04_Thin.f a0_0 a0_1 l0_2 l0_3).bind fun t266 => (if t266 = true then (glisterlaw04_CipherCodes.j0 k a1 l2 (decide ((l2.length : Int) > 13)) a0_0 a0_1 l0_2 l0_3) else (glisterlaw04_CipherCodes.j0 k a1 l2 true a0_0 a0_1 l0_2 l0_3))) = some r := h
 clear h
 have HC4 := Sd.mk H
 clear H
 go_enter Try.func3, Try.ntmps3
 go_upto_region 1 with (first | ((with_reducible refine gD (N := 3) rfl ?_); (try (refine gG (by rfl) ?_; dsimp only)); refine xE ?hg (N := 3) ?hd (cs := #[.int .i64 a0_0, .int .i64 a0_1, .slice A0_2 l0_2.length c0_2, .slice A0_3 l0_3.length c0_3]) (t := 25) ?hr ?_; (case hd => rfl); (case hg => rfl); (case hr => first | (go_simp; done) | (go_simp; rfl)); intro gb265 hg w5 hbox hb; have n0_ := Sd.mk (bT (by repeat first | exact HB.1 | apply bA | apply bN | apply bD) hb); have n1_ := Sd.mk (hbox); have n2_ := Sd.mk ((by rw [hg]; exact (bZ (by repeat first | exact HB.1 | apply bA | apply bN | apply bD)) : w.heap.size ≤ gb265)); have n3_ := Sd.mk ((by rw [hg]; exact (bZ (by repeat first | exact HB.1 | apply bA | apply bN | apply bD)) : w.heap.size ≤ gb265)); clear HB; have HB := n0_; have BK265 := n1_; have GW265 := n2_; have GE265 := n3_; clear n0_ n1_ n2_ n3_; clear hb hbox hg))
 (try simp only [Act.put, List.setIfInBounds_toArray, List.set_cons_zero, List.set_cons_succ])
 go_cut [18] (fun v18 wc => ∃ (kq : Nat) (x18_3 : Bool), v18 = .bool x18_3 ∧ Sd (glisterlaw04_CipherCodes.j0 kq a1 l2 x18_3 a0_0 a0_1 l0_2 l0_3 = some r) ∧ Sd (kq ≤ k) ∧ Sd (wc.heap[gb265]? = some (.cells #[.int .i64 a0_0, .int .i64 a0_1, (.slice A0_2 l0_2.length c0_2), (.slice A0_3 l0_3.length c0_3)] 25 (0, 0))) ∧ Sd (Below w.heap.size w wc))
 case first =>
  have H := HC4.1
  clear HC4
  replace H := Option.bind_eq_some_iff.mp H
  obtain ⟨t266, A60, H⟩ := H
  replace H : (if t266 = true then (glisterlaw04_CipherCodes.j0 k a1 l2 (decide ((l2.length : Int) > 13)) a0_0 a0_1 l0_2 l0_3) else (glisterlaw04_CipherCodes.j0 k a1 l2 true a0_0 a0_1 l0_2 l0_3)) = some r := H
  have A6 := Sd.mk A60
  clear A60
  by_cases c7 : t266 = true
  ·subst c7
   have H1 : (glisterlaw04_CipherCodes.j0 k a1 l2 (decide ((l2.length : Int) > 13)) a0_0 a0_1 l0_2 l0_3) = some r := by rw [if_pos rfl] at H; exact H
   clear H
   have H := H1
   clear H1
   have H' := Sd.mk H
   clear H
   have z_8_0 : w5.cell? ⟨gb265, 0, none⟩ = some (.int .i64 a0_0) := (kC BK265.1 0).trans rfl
   have z_8_1 : w5.cell? ⟨gb265, 1, none⟩ = some (.int .i64 a0_1) := (kC BK265.1 1).trans rfl
   have z_8_2 : w5.cell? ⟨gb265, 2, none⟩ = some (.slice A0_2 l0_2.length c0_2) := (kC BK265.1 2).trans rfl
   have z_8_3 : w5.cell? ⟨gb265, 3, none⟩ = some (.slice A0_3 l0_3.length c0_3) := (kC BK265.1 3).trans rfl
   go_wp2_with (first | ((with_reducible refine gate_callee (f := 16) rfl ?_); refine goesL_ (some 12) rfl rfl Try.func16 (by kernel_rfl) rfl #[.agg #[.int .i64 a0_0, .int .i64 a0_1, .slice A0_2 l0_2.length c0_2, .slice A0_3 l0_3.length c0_3]] rfl (by (try simp only [List.map_toArray, List.map_cons, List.map_nil]); first | done | rfl | (simp only [List.length_drop, List.length_take]; rfl)) ?_; (with_reducible refine (glisterlaw04_Thin.calls a0_0 a0_1 _ _ l0_2 _ _ l0_3 true _ ?side1 ?side2 ?side3 ?side4 A6.1).mono ?_); (case side1 => repeat (first | exact (Kd.C_below HR0_2.1 HB.1) | (with_reducible refine Kd.C_alloc ?_ _) | (with_reducible refine Kd.C_drewN ?_ _) | (with_reducible refine Kd.C_drew ?_))); (case side2 => exact HC0_2.1); (case side3 => repeat (first | exact (Kd.C_below HR0_3.1 HB.1) | (with_reducible refine Kd.C_alloc ?_ _) | (with_reducible refine Kd.C_drewN ?_ _) | (with_reducible refine Kd.C_drew ?_))); (case side4 => exact HC0_3.1); rintro e w9 ⟨rfl, hb⟩; refine ⟨_, rfl, ?_⟩; have n0_ := Sd.mk (kB (g := gb265) (o := .cells #[.int .i64 a0_0, .int .i64 a0_1, .slice A0_2 l0_2.length c0_2, .slice A0_3 l0_3.length c0_3] 25 (0, 0)) (by (with_reducible repeat (first | refine kN ?_ _ | refine kD ?_ | refine kA ?_ _)); exact BK265.1) hb); have n1_ := Sd.mk (bT (by repeat (first | (with_reducible first | exact HB.1 | apply bA | apply bN | apply bD | refine bS ?_ GE265.1) | exact HB.1)) hb); clear BK265; clear HB; have BK265 := n0_; have HB := n1_; clear n0_ n1_; (try clear hb); (try clear hb2); (try clear hk); (try clear hi)))
   go_meet
   case rel => exact ⟨_, (decide ((l2.length : Int) > 13)), (by first | rfl | (simp; done) | (simp [*]; done)), H', ⟨by first | omega | exact Nat.le_refl _⟩, ⟨by (with_reducible repeat (first | refine kN ?_ _ | refine kD ?_ | refine kA ?_ _)); exact BK265.1⟩, ⟨by repeat (first | (with_reducible first | exact HB.1 | apply bA | apply bN | apply bD | refine bS ?_ GE265.1) | exact HB.1)⟩⟩
  ·replace c7 := Bool.eq_false_iff.mpr c7
   subst c7
   have H1 : (glisterlaw04_CipherCodes.j0 k a1 l2 true a0_0 a0_1 l0_2 l0_3) = some r := by rw [if_neg (show ¬ (false = true) by decide)] at H; exact H
   clear H
   have H := H1
   clear H1
   have H' := Sd.mk H
   clear H
   have z_10_0 : w5.cell? ⟨gb265, 0, none⟩ = some (.int .i64 a0_0) := (kC BK265.1 0).trans rfl
   have z_10_1 : w5.cell? ⟨gb265, 1, none⟩ = some (.int .i64 a0_1) := (kC BK265.1 1).trans rfl
   have z_10_2 : w5.cell? ⟨gb265, 2, none⟩ = some (.slice A0_2 l0_2.length c0_2) := (kC BK265.1 2).trans rfl
   have z_10_3 : w5.cell? ⟨gb265, 3, none⟩ = some (.slice A0_3 l0_3.length c0_3) := (kC BK265.1 3).trans rfl
   go_wp2_with (first | ((with_reducible refine gate_callee (f := 16) rfl ?_); refine goesL_ (some 12) rfl rfl Try.func16 (by kernel_rfl) rfl #[.agg #[.int .i64 a0_0, .int .i64 a0_1, .slice A0_2 l0_2.length c0_2, .slice A0_3 l0_3.length c0_3]] rfl (by (try simp only [List.map_toArray, List.map_cons, List.map_nil]); first | done | rfl | (simp only [List.length_drop, List.length_take]; rfl)) ?_; (with_reducible refine (glisterlaw04_Thin.calls a0_0 a0_1 _ _ l0_2 _ _ l0_3 false _ ?side1 ?side2 ?side3 ?side4 A6.1).mono ?_); (case side1 => repeat (first | exact (Kd.C_below HR0_2.1 HB.1) | (with_reducible refine Kd.C_alloc ?_ _) | (with_reducible refine Kd.C_drewN ?_ _) | (with_reducible refine Kd.C_drew ?_))); (case side2 => exact HC0_2.1); (case side3 => repeat (first | exact (Kd.C_below HR0_3.1 HB.1) | (with_reducible refine Kd.C_alloc ?_ _) | (with_reducible refine Kd.C_drewN ?_ _) | (with_reducible refine Kd.C_drew ?_))); (case side4 => exact HC0_3.1); rintro e w11 ⟨rfl, hb⟩; refine ⟨_, rfl, ?_⟩; have n0_ := Sd.mk (kB (g := gb265) (o := .cells #[.int .i64 a0_0, .int .i64 a0_1, .slice A0_2 l0_2.length c0_2, .slice A0_3 l0_3.length c0_3] 25 (0, 0)) (by (with_reducible repeat (first | refine kN ?_ _ | refine kD ?_ | refine kA ?_ _)); exact BK265.1) hb); have n1_ := Sd.mk (bT (by repeat (first | (with_reducible first | exact HB.1 | apply bA | apply bN | apply bD | refine bS ?_ GE265.1) | exact HB.1)) hb); clear BK265; clear HB; have BK265 := n0_; have HB := n1_; clear n0_ n1_; (try clear hb); (try clear hb2); (try clear hk); (try clear hi)))
   go_meet
   case rel => exact ⟨_, (true), (by first | rfl | (simp; done) | (simp [*]; done)), H', ⟨by first | omega | exact Nat.le_refl _⟩, ⟨by (with_reducible repeat (first | refine kN ?_ _ | refine kD ?_ | refine kA ?_ _)); exact BK265.1⟩, ⟨by repeat (first | (with_reducible first | exact HB.1 | apply bA | apply bN | apply bD | refine bS ?_ GE265.1) | exact HB.1)⟩⟩
 case rest =>
  clear HC4
  try clear c1
  try clear c2
  try clear p2
  try clear c3
  try clear c7
  try clear z_10_0
  try clear z_10_1
  try clear z_10_2
  try clear z_10_3
  try clear z_8_0
  try clear z_8_1
  try clear z_8_2
  try clear z_8_3
  obtain ⟨kq, x18_3, rfl, HA, HJ3, BK265, HB⟩ := hcut
  cases kq with
  | zero => exact absurd HA.1 (by simp [glisterlaw04_CipherCodes.j0])
  | succ kj3 =>
   have H := HA.1
   clear HA
   simp only [glisterlaw04_CipherCodes.j0] at H
   by_cases c12 : x18_3 = true
   ·subst c12
    have H1 : ((glisterlaw04_awake.f).bind fun t267 => (some t267)) = some r := by rw [if_pos rfl] at H; exact H
    clear H
    have H := H1
    clear H1
    replace H := Option.bind_eq_some_iff.mp H
    obtain ⟨t267, A130, H⟩ := H
    replace H : (some t267) = some r := H
    have A13 := Sd.mk A130
    clear A130
    obtain rfl := Option.some.inj H
    go_wp2_with (first | ((with_reducible refine gate_callee (f := 17) rfl ?_); refine goesL_ (some 19) rfl rfl Try.func17 (by kernel_rfl) rfl #[] rfl (by (try simp only [List.map_toArray, List.map_cons, List.map_nil]); first | done | rfl | (simp only [List.length_drop, List.length_take]; rfl)) ?_; (with_reducible refine (glisterlaw04_awake.calls  t267 _ A13.1).mono ?_); rintro e w14 ⟨rfl, hb⟩; refine ⟨_, rfl, ?_⟩; have n0_ := Sd.mk (kB (g := gb265) (o := .cells #[.int .i64 a0_0, .int .i64 a0_1, .slice A0_2 l0_2.length c0_2, .slice A0_3 l0_3.length c0_3] 25 (0, 0)) (by (with_reducible repeat (first | refine kN ?_ _ | refine kD ?_ | refine kA ?_ _)); exact BK265.1) hb); have n1_ := Sd.mk (bT (by repeat (first | (with_reducible first | exact HB.1 | apply bA | apply bN | apply bD | refine bS ?_ GE265.1) | exact HB.1)) hb); clear BK265; clear HB; have BK265 := n0_; have HB := n1_; clear n0_ n1_; (try clear hb); (try clear hb2); (try clear hk); (try clear hi)))
    go_ret
    exact ⟨by first | rfl | (simp [errW_none, errW_some] <;> rfl) | (simp [*, errW_none, errW_some] <;> rfl), by repeat (first | (with_reducible first | exact HB.1 | apply bA | apply bN | apply bD | refine bS ?_ GE265.1) | exact HB.1)⟩
   ·replace c12 := Bool.eq_false_iff.mpr c12
    subst c12
    have H1 : ((glisterlaw04_Book.f kj3 a0_0 a0_1 l0_2 l0_3).bind fun bt268 => ((cipher_CheckBook.f bt268.1 bt268.2.1 bt268.2.2.1 bt268.2.2.2).bind fun t276 => ((glisterlaw04_Book.f kj3 a0_0 a0_1 l0_2 l0_3).bind fun bt277 => ((glisterlaw04_list.f l2).bind fun t285 => ((cipher_Code.f kj3 bt277.1 bt277.2.1 bt277.2.2.1 bt277.2.2.2 a1 t285).bind fun bt288 => ((glisterlaw04_fault.f kj3 a0_0 a0_1 l0_2 l0_3).bind fun t292 => (if t276 = t292 then (if t292 = 0 then ((glisterref04_In.f a1 0 (wrap64 ((l0_3.length : Int) - 1))).bind fun t293 => (if t293 = true then (if (l2.length : Int) > 10 then (glisterlaw04_CipherCodes.j1 kj3 a1 l2 bt288.1 bt288.2 3 a0_0 a0_1 l0_2 l0_3) else ((glisterref04_Plain.f kj3 a0_0 a0_1 l0_2 l0_3 l2).bind fun t294 => (if t294 = true then (glisterlaw04_CipherCodes.j1 kj3 a1 l2 bt288.1 bt288.2 t292 a0_0 a0_1 l0_2 l0_3) else (glisterlaw04_CipherCodes.j1 kj3 a1 l2 bt288.1 bt288.2 2 a0_0 a0_1 l0_2 l0_3)))) else (glisterlaw04_CipherCodes.j1 kj3 a1 l2 bt288.1 bt288.2 2 a0_0 a0_1 l0_2 l0_3))) else (glisterlaw04_CipherCodes.j1 kj3 a1 l2 bt288.1 bt288.2 t292 a0_0 a0_1 l0_2 l0_3)) else (none)))))))) = some r := by rw [if_neg (show ¬ (false = true) by decide)] at H; exact H
    clear H
    have H := H1
    clear H1
    replace H := Option.bind_eq_some_iff.mp H
    obtain ⟨⟨t268, t269, t270, t273⟩, A150, H⟩ := H
    replace H : ((cipher_CheckBook.f t268 t269 t270 t273).bind fun t276 => ((glisterlaw04_Book.f kj3 a0_0 a0_1 l0_2 l0_3).bind fun bt277 => ((glisterlaw04_list.f l2).bind fun t285 => ((cipher_Code.f kj3 bt277.1 bt277.2.1 bt277.2.2.1 bt277.2.2.2 a1 t285).bind fun bt288 => ((glisterlaw04_fault.f kj3 a0_0 a0_1 l0_2 l0_3).bind fun t292 => (if t276 = t292 then (if t292 = 0 then ((glisterref04_In.f a1 0 (wrap64 ((l0_3.length : Int) - 1))).bind fun t293 => (if t293 = true then (if (l2.length : Int) > 10 then (glisterlaw04_CipherCodes.j1 kj3 a1 l2 bt288.1 bt288.2 3 a0_0 a0_1 l0_2 l0_3) else ((glisterref04_Plain.f kj3 a0_0 a0_1 l0_2 l0_3 l2).bind fun t294 => (if t294 = true then (glisterlaw04_CipherCodes.j1 kj3 a1 l2 bt288.1 bt288.2 t292 a0_0 a0_1 l0_2 l0_3) else (glisterlaw04_CipherCodes.j1 kj3 a1 l2 bt288.1 bt288.2 2 a0_0 a0_1 l0_2 l0_3)))) else (glisterlaw04_CipherCodes.j1 kj3 a1 l2 bt288.1 bt288.2 2 a0_0 a0_1 l0_2 l0_3))) else (glisterlaw04_CipherCodes.j1 kj3 a1 l2 bt288.1 bt288.2 t292 a0_0 a0_1 l0_2 l0_3)) else (none))))))) = some r := H
    have A15 := Sd.mk A150
    clear A150
    replace H := Option.bind_eq_some_iff.mp H
    obtain ⟨t276, A160, H⟩ := H
    replace H : ((glisterlaw04_Book.f kj3 a0_0 a0_1 l0_2 l0_3).bind fun bt277 => ((glisterlaw04_list.f l2).bind fun t285 => ((cipher_Code.f kj3 bt277.1 bt277.2.1 bt277.2.2.1 bt277.2.2.2 a1 t285).bind fun bt288 => ((glisterlaw04_fault.f kj3 a0_0 a0_1 l0_2 l0_3).bind fun t292 => (if t276 = t292 then (if t292 = 0 then ((glisterref04_In.f a1 0 (wrap64 ((l0_3.length : Int) - 1))).bind fun t293 => (if t293 = true then (if (l2.length : Int) > 10 then (glisterlaw04_CipherCodes.j1 kj3 a1 l2 bt288.1 bt288.2 3 a0_0 a0_1 l0_2 l0_3) else ((glisterref04_Plain.f kj3 a0_0 a0_1 l0_2 l0_3 l2).bind fun t294 => (if t294 = true then (glisterlaw04_CipherCodes.j1 kj3 a1 l2 bt288.1 bt288.2 t292 a0_0 a0_1 l0_2 l0_3) else (glisterlaw04_CipherCodes.j1 kj3 a1 l2 bt288.1 bt288.2 2 a0_0 a0_1 l0_2 l0_3)))) else (glisterlaw04_CipherCodes.j1 kj3 a1 l2 bt288.1 bt288.2 2 a0_0 a0_1 l0_2 l0_3))) else (glisterlaw04_CipherCodes.j1 kj3 a1 l2 bt288.1 bt288.2 t292 a0_0 a0_1 l0_2 l0_3)) else (none)))))) = some r := H
    have A16 := Sd.mk A160
    clear A160
    replace H := Option.bind_eq_some_iff.mp H
    obtain ⟨⟨t277, t278, t279, t282⟩, A170, H⟩ := H
    replace H : ((glisterlaw04_list.f l2).bind fun t285 => ((cipher_Code.f kj3 t277 t278 t279 t282 a1 t285).bind fun bt288 => ((glisterlaw04_fault.f kj3 a0_0 a0_1 l0_2 l0_3).bind fun t292 => (if t276 = t292 then (if t292 = 0 then ((glisterref04_In.f a1 0 (wrap64 ((l0_3.length : Int) - 1))).bind fun t293 => (if t293 = true then (if (l2.length : Int) > 10 then (glisterlaw04_CipherCodes.j1 kj3 a1 l2 bt288.1 bt288.2 3 a0_0 a0_1 l0_2 l0_3) else ((glisterref04_Plain.f kj3 a0_0 a0_1 l0_2 l0_3 l2).bind fun t294 => (if t294 = true then (glisterlaw04_CipherCodes.j1 kj3 a1 l2 bt288.1 bt288.2 t292 a0_0 a0_1 l0_2 l0_3) else (glisterlaw04_CipherCodes.j1 kj3 a1 l2 bt288.1 bt288.2 2 a0_0 a0_1 l0_2 l0_3)))) else (glisterlaw04_CipherCodes.j1 kj3 a1 l2 bt288.1 bt288.2 2 a0_0 a0_1 l0_2 l0_3))) else (glisterlaw04_CipherCodes.j1 kj3 a1 l2 bt288.1 bt288.2 t292 a0_0 a0_1 l0_2 l0_3)) else (none))))) = some r := H
    have A17 := Sd.mk A170
    clear A170
    replace H := Option.bind_eq_some_iff.mp H
    obtain ⟨t285, A180, H⟩ := H
    replace H : ((cipher_Code.f kj3 t277 t278 t279 t282 a1 t285).bind fun bt288 => ((glisterlaw04_fault.f kj3 a0_0 a0_1 l0_2 l0_3).bind fun t292 => (if t276 = t292 then (if t292 = 0 then ((glisterref04_In.f a1 0 (wrap64 ((l0_3.length : Int) - 1))).bind fun t293 => (if t293 = true then (if (l2.length : Int) > 10 then (glisterlaw04_CipherCodes.j1 kj3 a1 l2 bt288.1 bt288.2 3 a0_0 a0_1 l0_2 l0_3) else ((glisterref04_Plain.f kj3 a0_0 a0_1 l0_2 l0_3 l2).bind fun t294 => (if t294 = true then (glisterlaw04_CipherCodes.j1 kj3 a1 l2 bt288.1 bt288.2 t292 a0_0 a0_1 l0_2 l0_3) else (glisterlaw04_CipherCodes.j1 kj3 a1 l2 bt288.1 bt288.2 2 a0_0 a0_1 l0_2 l0_3)))) else (glisterlaw04_CipherCodes.j1 kj3 a1 l2 bt288.1 bt288.2 2 a0_0 a0_1 l0_2 l0_3))) else (glisterlaw04_CipherCodes.j1 kj3 a1 l2 bt288.1 bt288.2 t292 a0_0 a0_1 l0_2 l0_3)) else (none)))) = some r := H
    have A18 := Sd.mk A180
    clear A180
    replace H := Option.bind_eq_some_iff.mp H
    obtain ⟨⟨t288, t291⟩, A190, H⟩ := H
    replace H : ((glisterlaw04_fault.f kj3 a0_0 a0_1 l0_2 l0_3).bind fun t292 => (if t276 = t292 then (if t292 = 0 then ((glisterref04_In.f a1 0 (wrap64 ((l0_3.length : Int) - 1))).bind fun t293 => (if t293 = true then (if (l2.length : Int) > 10 then (glisterlaw04_CipherCodes.j1 kj3 a1 l2 t288 t291 3 a0_0 a0_1 l0_2 l0_3) else ((glisterref04_Plain.f kj3 a0_0 a0_1 l0_2 l0_3 l2).bind fun t294 => (if t294 = true then (glisterlaw04_CipherCodes.j1 kj3 a1 l2 t288 t291 t292 a0_0 a0_1 l0_2 l0_3) else (glisterlaw04_CipherCodes.j1 kj3 a1 l2 t288 t291 2 a0_0 a0_1 l0_2 l0_3)))) else (glisterlaw04_CipherCodes.j1 kj3 a1 l2 t288 t291 2 a0_0 a0_1 l0_2 l0_3))) else (glisterlaw04_CipherCodes.j1 kj3 a1 l2 t288 t291 t292 a0_0 a0_1 l0_2 l0_3)) else (none))) = some r := H
    have A19 := Sd.mk A190
    clear A190
    replace H := Option.bind_eq_some_iff.mp H
    obtain ⟨t292, A200, H⟩ := H
    replace H : (if t276 = t292 then (if t292 = 0 then ((glisterref04_In.f a1 0 (wrap64 ((l0_3.length : Int) - 1))).bind fun t293 => (if t293 = true then (if (l2.length : Int) > 10 then (glisterlaw04_CipherCodes.j1 kj3 a1 l2 t288 t291 3 a0_0 a0_1 l0_2 l0_3) else ((glisterref04_Plain.f kj3 a0_0 a0_1 l0_2 l0_3 l2).bind fun t294 => (if t294 = true then (glisterlaw04_CipherCodes.j1 kj3 a1 l2 t288 t291 t292 a0_0 a0_1 l0_2 l0_3) else (glisterlaw04_CipherCodes.j1 kj3 a1 l2 t288 t291 2 a0_0 a0_1 l0_2 l0_3)))) else (glisterlaw04_CipherCodes.j1 kj3 a1 l2 t288 t291 2 a0_0 a0_1 l0_2 l0_3))) else (glisterlaw04_CipherCodes.j1 kj3 a1 l2 t288 t291 t292 a0_0 a0_1 l0_2 l0_3)) else (none)) = some r := H
    have A20 := Sd.mk A200
    clear A200
    by_cases c21 : t276 = t292
    ·rw [if_pos c21] at H
     have c21b0 : (t276 == t292) = true := beq_iff_eq.mpr c21
     have c21b1 : (t276 != t292) = false := bne_eq_false_iff_eq.mpr c21
     clear c21
     have HC22 := Sd.mk H
     clear H
     have z_23_0 : wc.cell? ⟨gb265, 0, none⟩ = some (.int .i64 a0_0) := (kC BK265.1 0).trans rfl
     have z_23_1 : wc.cell? ⟨gb265, 1, none⟩ = some (.int .i64 a0_1) := (kC BK265.1 1).trans rfl
     have z_23_2 : wc.cell? ⟨gb265, 2, none⟩ = some (.slice A0_2 l0_2.length c0_2) := (kC BK265.1 2).trans rfl
     have z_23_3 : wc.cell? ⟨gb265, 3, none⟩ = some (.slice A0_3 l0_3.length c0_3) := (kC BK265.1 3).trans rfl
     go_upto_block 0 with (first | ((with_reducible refine gate_callee (f := 19) rfl ?_); refine goesL_ (some 21) rfl rfl Try.func19 (by kernel_rfl) rfl #[.agg #[.int .i64 a0_0, .int .i64 a0_1, .slice A0_2 l0_2.length c0_2, .slice A0_3 l0_3.length c0_3]] rfl (by (try simp only [List.map_toArray, List.map_cons, List.map_nil]); first | done | rfl | (simp only [List.length_drop, List.length_take]; rfl)) ?_; (with_reducible refine (glisterlaw04_Book.calls kj3 a0_0 a0_1 _ _ l0_2 _ _ l0_3 t268 t269 t270 t273 _ ?side1 ?side2 ?side3 ?side4 A15.1).mono ?_); (case side1 => repeat (first | exact (Kd.C_below HR0_2.1 HB.1) | (with_reducible refine Kd.C_alloc ?_ _) | (with_reducible refine Kd.C_drewN ?_ _) | (with_reducible refine Kd.C_drew ?_))); (case side2 => exact HC0_2.1); (case side3 => repeat (first | exact (Kd.C_below HR0_3.1 HB.1) | (with_reducible refine Kd.C_alloc ?_ _) | (with_reducible refine Kd.C_drewN ?_ _) | (with_reducible refine Kd.C_drew ?_))); (case side4 => exact HC0_3.1); rintro e w24 ⟨v271, v274, rfl, ho0, ho1, hb⟩; refine ⟨_, rfl, ?_⟩; have n0_ := Sd.mk (Kd.R_lower ho0 (bZ (by repeat (first | (with_reducible first | exact HB.1 | apply bA | apply bN | apply bD | refine bS ?_ GE265.1) | exact HB.1)))); have n1_ := Sd.mk (Kd.R_lower ho1 (bZ (by repeat (first | (with_reducible first | exact HB.1 | apply bA | apply bN | apply bD | refine bS ?_ GE265.1) | exact HB.1)))); have n2_ := Sd.mk (kB (g := gb265) (o := .cells #[.int .i64 a0_0, .int .i64 a0_1, .slice A0_2 l0_2.length c0_2, .slice A0_3 l0_3.length c0_3] 25 (0, 0)) (by (with_reducible repeat (first | refine kN ?_ _ | refine kD ?_ | refine kA ?_ _)); exact BK265.1) hb); have n3_ := Sd.mk (bT (by repeat (first | (with_reducible first | exact HB.1 | apply bA | apply bN | apply bD | refine bS ?_ GE265.1) | exact HB.1)) hb); clear BK265; clear HB; have HO272 := n0_; have HO275 := n1_; have BK265 := n2_; have HB := n3_; clear n0_ n1_ n2_ n3_; (try clear hb); (try clear hb2); (try clear hk); (try clear hi); (try clear ho0); (try clear ho1); obtain ⟨Ao25, co25, eo25⟩ := Kd.R_slice HO272.1; subst eo25; obtain ⟨Ao26, co26, eo26⟩ := Kd.R_slice HO275.1; subst eo26) | ((with_reducible refine gate_callee (f := 18) rfl ?_); refine goesL_ (some 22) rfl rfl Try.func18 (by kernel_rfl) rfl #[.agg #[.int .i64 t268, .int .i64 t269, .slice Ao25 t270.length co25, .slice Ao26 t273.length co26]] rfl (by (try simp only [List.map_toArray, List.map_cons, List.map_nil]); first | done | rfl | (simp only [List.length_drop, List.length_take]; rfl)) ?_; (with_reducible refine (cipher_CheckBook.calls t268 t269 _ _ t270 _ _ t273 t276 _ ?side1 ?side2 ?side3 ?side4 A16.1).mono ?_); (case side1 => repeat (first | exact (Kd.R_reads' HO272.1).2.2 | (with_reducible refine Kd.C_alloc ?_ _) | (with_reducible refine Kd.C_drewN ?_ _) | (with_reducible refine Kd.C_drew ?_))); (case side2 => exact (Kd.R_reads' HO272.1).2.1); (case side3 => repeat (first | exact (Kd.R_reads' HO275.1).2.2 | (with_reducible refine Kd.C_alloc ?_ _) | (with_reducible refine Kd.C_drewN ?_ _) | (with_reducible refine Kd.C_drew ?_))); (case side4 => exact (Kd.R_reads' HO275.1).2.1); rintro e w27 ⟨rfl, hb⟩; refine ⟨_, rfl, ?_⟩; have n0_ := Sd.mk (Kd.R_below (by (with_reducible repeat (first | apply Kd.R_alloc | apply Kd.R_drewN | apply Kd.R_drew)); exact HO272.1) hb); have n1_ := Sd.mk (Kd.R_below (by (with_reducible repeat (first | apply Kd.R_alloc | apply Kd.R_drewN | apply Kd.R_drew)); exact HO275.1) hb); have n2_ := Sd.mk (kB (g := gb265) (o := .cells #[.int .i64 a0_0, .int .i64 a0_1, .slice A0_2 l0_2.length c0_2, .slice A0_3 l0_3.length c0_3] 25 (0, 0)) (by (with_reducible repeat (first | refine kN ?_ _ | refine kD ?_ | refine kA ?_ _)); exact BK265.1) hb); have n3_ := Sd.mk (bT (by repeat (first | (with_reducible first | exact HB.1 | apply bA | apply bN | apply bD | refine bS ?_ GE265.1) | exact HB.1)) hb); clear HO272; clear HO275; clear BK265; clear HB; have HO272 := n0_; have HO275 := n1_; have BK265 := n2_; have HB := n3_; clear n0_ n1_ n2_ n3_; (try clear hb); (try clear hb2); (try clear hk); (try clear hi); have z_28_0 : w27.cell? ⟨gb265, 0, none⟩ = some (.int .i64 a0_0) := (kC BK265.1 0).trans rfl; have z_28_1 : w27.cell? ⟨gb265, 1, none⟩ = some (.int .i64 a0_1) := (kC BK265.1 1).trans rfl; have z_28_2 : w27.cell? ⟨gb265, 2, none⟩ = some (.slice A0_2 l0_2.length c0_2) := (kC BK265.1 2).trans rfl; have z_28_3 : w27.cell? ⟨gb265, 3, none⟩ = some (.slice A0_3 l0_3.length c0_3) := (kC BK265.1 3).trans rfl) | ((with_reducible refine gate_callee (f := 19) rfl ?_); refine goesL_ (some 25) rfl rfl Try.func19 (by kernel_rfl) rfl #[.agg #[.int .i64 a0_0, .int .i64 a0_1, .slice A0_2 l0_2.length c0_2, .slice A0_3 l0_3.length c0_3]] rfl (by (try simp only [List.map_toArray, List.map_cons, List.map_nil]); first | done | rfl | (simp only [List.length_drop, List.length_take]; rfl)) ?_; (with_reducible refine (glisterlaw04_Book.calls kj3 a0_0 a0_1 _ _ l0_2 _ _ l0_3 t277 t278 t279 t282 _ ?side1 ?side2 ?side3 ?side4 A17.1).mono ?_); (case side1 => repeat (first | exact (Kd.C_below HR0_2.1 HB.1) | (with_reducible refine Kd.C_alloc ?_ _) | (with_reducible refine Kd.C_drewN ?_ _) | (with_reducible refine Kd.C_drew ?_))); (case side2 => exact HC0_2.1); (case side3 => repeat (first | exact (Kd.C_below HR0_3.1 HB.1) | (with_reducible refine Kd.C_alloc ?_ _) | (with_reducible refine Kd.C_drewN ?_ _) | (with_reducible refine Kd.C_drew ?_))); (case side4 => exact HC0_3.1); rintro e w29 ⟨v280, v283, rfl, ho0, ho1, hb⟩; refine ⟨_, rfl, ?_⟩; have n0_ := Sd.mk (Kd.R_elder' (by (with_reducible repeat (first | apply Kd.R_alloc | apply Kd.R_drewN | apply Kd.R_drew)); exact HO272.1) (Kd.R_base ho0) hb); have n1_ := Sd.mk (Kd.R_elder' (by (with_reducible repeat (first | apply Kd.R_alloc | apply Kd.R_drewN | apply Kd.R_drew)); exact HO275.1) (Kd.R_base ho1) hb); have n2_ := Sd.mk (Kd.R_lower (Kd.R_new' ho0 (Kd.R_lt (by (with_reducible repeat (first | apply Kd.R_alloc | apply Kd.R_drewN | apply Kd.R_drew)); exact HO272.1))) (bZ (by repeat (first | (with_reducible first | exact HB.1 | apply bA | apply bN | apply bD | refine bS ?_ GE265.1) | exact HB.1)))); have n3_ := Sd.mk (Kd.R_lower (Kd.R_new' ho1 (Kd.R_lt (by (with_reducible repeat (first | apply Kd.R_alloc | apply Kd.R_drewN | apply Kd.R_drew)); exact HO275.1))) (bZ (by repeat (first | (with_reducible first | exact HB.1 | apply bA | apply bN | apply bD | refine bS ?_ GE265.1) | exact HB.1)))); have n4_ := Sd.mk (kB (g := gb265) (o := .cells #[.int .i64 a0_0, .int .i64 a0_1, .slice A0_2 l0_2.length c0_2, .slice A0_3 l0_3.length c0_3] 25 (0, 0)) (by (with_reducible repeat (first | refine kN ?_ _ | refine kD ?_ | refine kA ?_ _)); exact BK265.1) hb); have n5_ := Sd.mk (bT (by repeat (first | (with_reducible first | exact HB.1 | apply bA | apply bN | apply bD | refine bS ?_ GE265.1) | exact HB.1)) hb); clear HO272; clear HO275; clear BK265; clear HB; have HO272 := n0_; have HO275 := n1_; have HO281 := n2_; have HO284 := n3_; have BK265 := n4_; have HB := n5_; clear n0_ n1_ n2_ n3_ n4_ n5_; (try clear hb); (try clear hb2); (try clear hk); (try clear hi); (try clear ho0); (try clear ho1)) | ((with_reducible refine gate_callee (f := 21) rfl ?_); refine goesL_ (some 28) rfl rfl Try.func21 (by kernel_rfl) rfl #[.slice A2 l2.length c2] rfl (by (try simp only [List.map_toArray, List.map_cons, List.map_nil]); first | done | rfl | (simp only [List.length_drop, List.length_take]; rfl)) ?_; (with_reducible refine (glisterlaw04_list.calls _ _ l2 t285 _ ?side1 ?side2 A18.1).mono ?_); (case side1 => repeat (first | exact (Kd.C_below HR2.1 HB.1) | (with_reducible refine Kd.C_alloc ?_ _) | (with_reducible refine Kd.C_drewN ?_ _) | (with_reducible refine Kd.C_drew ?_))); (case side2 => exact HC2.1); rintro e w30 ⟨v286, rfl, ho0, hb⟩; refine ⟨_, rfl, ?_⟩; have n0_ := Sd.mk (Kd.R_below (by (with_reducible repeat (first | apply Kd.R_alloc | apply Kd.R_drewN | apply Kd.R_drew)); exact HO272.1) hb); have n1_ := Sd.mk (Kd.R_elder' (by (with_reducible repeat (first | apply Kd.R_alloc | apply Kd.R_drewN | apply Kd.R_drew)); exact HO275.1) (Kd.R_base ho0) hb); have n2_ := Sd.mk (Kd.R_below (by (with_reducible repeat (first | apply Kd.R_alloc | apply Kd.R_drewN | apply Kd.R_drew)); exact HO281.1) hb); have n3_ := Sd.mk (Kd.R_elder' (by (with_reducible repeat (first | apply Kd.R_alloc | apply Kd.R_drewN | apply Kd.R_drew)); exact HO284.1) (Kd.R_base ho0) hb); have n4_ := Sd.mk (Kd.R_lower (Kd.R_new' (Kd.R_new' ho0 (Kd.R_lt (by (with_reducible repeat (first | apply Kd.R_alloc | apply Kd.R_drewN | apply Kd.R_drew)); exact HO275.1))) (Kd.R_lt (by (with_reducible repeat (first | apply Kd.R_alloc | apply Kd.R_drewN | apply Kd.R_drew)); exact HO284.1))) (bZ (by repeat (first | (with_reducible first | exact HB.1 | apply bA | apply bN | apply bD | refine bS ?_ GE265.1) | exact HB.1)))); have n5_ := Sd.mk (kB (g := gb265) (o := .cells #[.int .i64 a0_0, .int .i64 a0_1, .slice A0_2 l0_2.length c0_2, .slice A0_3 l0_3.length c0_3] 25 (0, 0)) (by (with_reducible repeat (first | refine kN ?_ _ | refine kD ?_ | refine kA ?_ _)); exact BK265.1) hb); have n6_ := Sd.mk (bT (by repeat (first | (with_reducible first | exact HB.1 | apply bA | apply bN | apply bD | refine bS ?_ GE265.1) | exact HB.1)) hb); clear HO272; clear HO275; clear HO281; clear HO284; clear BK265; clear HB; have HO272 := n0_; have HO275 := n1_; have HO281 := n2_; have HO284 := n3_; have HO287 := n4_; have BK265 := n5_; have HB := n6_; clear n0_ n1_ n2_ n3_ n4_ n5_ n6_; (try clear hb); (try clear hb2); (try clear hk); (try clear hi); (try clear ho0); obtain ⟨Ao31, co31, eo31⟩ := Kd.R_slice HO281.1; subst eo31; obtain ⟨Ao32, co32, eo32⟩ := Kd.R_slice HO284.1; subst eo32; obtain ⟨Ao33, co33, eo33⟩ := Kd.R_slice HO287.1; subst eo33) | ((with_reducible refine gate_callee (f := 20) rfl ?_); refine goesL_ (some 29) rfl rfl Try.func20 (by kernel_rfl) rfl #[.agg #[.int .i64 t277, .int .i64 t278, .slice Ao31 t279.length co31, .slice Ao32 t282.length co32], .int .i64 a1, .slice Ao33 t285.length co33] rfl (by (try simp only [List.map_toArray, List.map_cons, List.map_nil]); first | done | rfl | (simp only [List.length_drop, List.length_take]; rfl)) ?_; (with_reducible refine (cipher_Code.calls kj3 t277 t278 _ _ t279 _ _ t282 a1 _ _ t285 t288 t291 _ ?side1 ?side2 ?side3 ?side4 ?side5 ?side6 A19.1).mono ?_); (case side1 => repeat (first | exact (Kd.R_reads' HO281.1).2.2 | (with_reducible refine Kd.C_alloc ?_ _) | (with_reducible refine Kd.C_drewN ?_ _) | (with_reducible refine Kd.C_drew ?_))); (case side2 => exact (Kd.R_reads' HO281.1).2.1); (case side3 => repeat (first | exact (Kd.R_reads' HO284.1).2.2 | (with_reducible refine Kd.C_alloc ?_ _) | (with_reducible refine Kd.C_drewN ?_ _) | (with_reducible refine Kd.C_drew ?_))); (case side4 => exact (Kd.R_reads' HO284.1).2.1); (case side5 => repeat (first | exact (Kd.R_reads' HO287.1).2.2 | (with_reducible refine Kd.C_alloc ?_ _) | (with_reducible refine Kd.C_drewN ?_ _) | (with_reducible refine Kd.C_drew ?_))); (case side6 => exact (Kd.R_reads' HO287.1).2.1); rintro e w34 ⟨v289, rfl, ho0, hb⟩; refine ⟨_, rfl, ?_⟩; have n0_ := Sd.mk (Kd.R_below (by (with_reducible repeat (first | apply Kd.R_alloc | apply Kd.R_drewN | apply Kd.R_drew)); exact HO272.1) hb); have n1_ := Sd.mk (Kd.R_elder' (by (with_reducible repeat (first | apply Kd.R_alloc | apply Kd.R_drewN | apply Kd.R_drew)); exact HO275.1) (Kd.R_base ho0) hb); have n2_ := Sd.mk (Kd.R_below (by (with_reducible repeat (first | apply Kd.R_alloc | apply Kd.R_drewN | apply Kd.R_drew)); exact HO281.1) hb); have n3_ := Sd.mk (Kd.R_elder' (by (with_reducible repeat (first | apply Kd.R_alloc | apply Kd.R_drewN | apply Kd.R_drew)); exact HO284.1) (Kd.R_base ho0) hb); have n4_ := Sd.mk (Kd.R_elder' (by (with_reducible repeat (first | apply Kd.R_alloc | apply Kd.R_drewN | apply Kd.R_drew)); exact HO287.1) (Kd.R_base ho0) hb); have n5_ := Sd.mk (Kd.R_lower (Kd.R_new' (Kd.R_new' (Kd.R_new' ho0 (Kd.R_lt (by (with_reducible repeat (first | apply Kd.R_alloc | apply Kd.R_drewN | apply Kd.R_drew)); exact HO275.1))) (Kd.R_lt (by (with_reducible repeat (first | apply Kd.R_alloc | apply Kd.R_drewN | apply Kd.R_drew)); exact HO284.1))) (Kd.R_lt (by (with_reducible repeat (first | apply Kd.R_alloc | apply Kd.R_drewN | apply Kd.R_drew)); exact HO287.1))) (bZ (by repeat (first | (with_reducible first | exact HB.1 | apply bA | apply bN | apply bD | refine bS ?_ GE265.1) | exact HB.1)))); have n6_ := Sd.mk (kB (g := gb265) (o := .cells #[.int .i64 a0_0, .int .i64 a0_1, .slice A0_2 l0_2.length c0_2, .slice A0_3 l0_3.length c0_3] 25 (0, 0)) (by (with_reducible repeat (first | refine kN ?_ _ | refine kD ?_ | refine kA ?_ _)); exact BK265.1) hb); have n7_ := Sd.mk (bT (by repeat (first | (with_reducible first | exact HB.1 | apply bA | apply bN | apply bD | refine bS ?_ GE265.1) | exact HB.1)) hb); clear HO272; clear HO275; clear HO281; clear HO284; clear HO287; clear BK265; clear HB; have HO272 := n0_; have HO275 := n1_; have HO281 := n2_; have HO284 := n3_; have HO287 := n4_; have HO290 := n5_; have BK265 := n6_; have HB := n7_; clear n0_ n1_ n2_ n3_ n4_ n5_ n6_ n7_; (try clear hb); (try clear hb2); (try clear hk); (try clear hi); (try clear ho0); have z_35_0 : w34.cell? ⟨gb265, 0, none⟩ = some (.int .i64 a0_0) := (kC BK265.1 0).trans rfl; have z_35_1 : w34.cell? ⟨gb265, 1, none⟩ = some (.int .i64 a0_1) := (kC BK265.1 1).trans rfl; have z_35_2 : w34.cell? ⟨gb265, 2, none⟩ = some (.slice A0_2 l0_2.length c0_2) := (kC BK265.1 2).trans rfl; have z_35_3 : w34.cell? ⟨gb265, 3, none⟩ = some (.slice A0_3 l0_3.length c0_3) := (kC BK265.1 3).trans rfl) | ((with_reducible refine gate_callee (f := 22) rfl ?_); refine goesL_ (some 33) rfl rfl Try.func22 (by kernel_rfl) rfl #[.agg #[.int .i64 a0_0, .int .i64 a0_1, .slice A0_2 l0_2.length c0_2, .slice A0_3 l0_3.length c0_3]] rfl (by (try simp only [List.map_toArray, List.map_cons, List.map_nil]); first | done | rfl | (simp only [List.length_drop, List.length_take]; rfl)) ?_; (with_reducible refine (glisterlaw04_fault.calls kj3 a0_0 a0_1 _ _ l0_2 _ _ l0_3 t292 _ ?side1 ?side2 ?side3 ?side4 A20.1).mono ?_); (case side1 => repeat (first | exact (Kd.C_below HR0_2.1 HB.1) | (with_reducible refine Kd.C_alloc ?_ _) | (with_reducible refine Kd.C_drewN ?_ _) | (with_reducible refine Kd.C_drew ?_))); (case side2 => exact HC0_2.1); (case side3 => repeat (first | exact (Kd.C_below HR0_3.1 HB.1) | (with_reducible refine Kd.C_alloc ?_ _) | (with_reducible refine Kd.C_drewN ?_ _) | (with_reducible refine Kd.C_drew ?_))); (case side4 => exact HC0_3.1); rintro e w36 ⟨rfl, hb⟩; refine ⟨_, rfl, ?_⟩; have n0_ := Sd.mk (Kd.R_below (by (with_reducible repeat (first | apply Kd.R_alloc | apply Kd.R_drewN | apply Kd.R_drew)); exact HO272.1) hb); have n1_ := Sd.mk (Kd.R_below (by (with_reducible repeat (first | apply Kd.R_alloc | apply Kd.R_drewN | apply Kd.R_drew)); exact HO275.1) hb); have n2_ := Sd.mk (Kd.R_below (by (with_reducible repeat (first | apply Kd.R_alloc | apply Kd.R_drewN | apply Kd.R_drew)); exact HO281.1) hb); have n3_ := Sd.mk (Kd.R_below (by (with_reducible repeat (first | apply Kd.R_alloc | apply Kd.R_drewN | apply Kd.R_drew)); exact HO284.1) hb); have n4_ := Sd.mk (Kd.R_below (by (with_reducible repeat (first | apply Kd.R_alloc | apply Kd.R_drewN | apply Kd.R_drew)); exact HO287.1) hb); have n5_ := Sd.mk (Kd.R_below (by (with_reducible repeat (first | apply Kd.R_alloc | apply Kd.R_drewN | apply Kd.R_drew)); exact HO290.1) hb); have n6_ := Sd.mk (kB (g := gb265) (o := .cells #[.int .i64 a0_0, .int .i64 a0_1, .slice A0_2 l0_2.length c0_2, .slice A0_3 l0_3.length c0_3] 25 (0, 0)) (by (with_reducible repeat (first | refine kN ?_ _ | refine kD ?_ | refine kA ?_ _)); exact BK265.1) hb); have n7_ := Sd.mk (bT (by repeat (first | (with_reducible first | exact HB.1 | apply bA | apply bN | apply bD | refine bS ?_ GE265.1) | exact HB.1)) hb); clear HO272; clear HO275; clear HO281; clear HO284; clear HO287; clear HO290; clear BK265; clear HB; have HO272 := n0_; have HO275 := n1_; have HO281 := n2_; have HO284 := n3_; have HO287 := n4_; have HO290 := n5_; have BK265 := n6_; have HB := n7_; clear n0_ n1_ n2_ n3_ n4_ n5_ n6_ n7_; (try clear hb); (try clear hb2); (try clear hk); (try clear hi)))
     (try simp only [Act.put, List.setIfInBounds_toArray, List.set_cons_zero, List.set_cons_succ])
     go_cut [10] (fun v10 wc => ∃ (kq : Nat) (x10_21 : Int), v10 = .int .i64 x10_21 ∧ Sd (glisterlaw04_CipherCodes.j1 kq a1 l2 t288 t291 x10_21 a0_0 a0_1 l0_2 l0_3 = some r) ∧ Sd (kq ≤ kj3) ∧ Sd (Kd.R (Kd.int .i64) 3 wc w.heap.size (fun _ => True) v289 t288) ∧ Sd (wc.heap[gb265]? = some (.cells #[.int .i64 a0_0, .int .i64 a0_1, (.slice A0_2 l0_2.length c0_2), (.slice A0_3 l0_3.length c0_3)] 25 (0, 0))) ∧ Sd (Below w.heap.size w wc))
     case first =>
      have H := HC22.1
      clear HC22
      by_cases c37 : t292 = 0
      ·rw [if_pos c37] at H
       have c37b0 : (t292 == 0) = true := beq_iff_eq.mpr c37
       have c37b1 : (t292 != 0) = false := bne_eq_false_iff_eq.mpr c37
       clear c37
       (first | rw [c37b0] | (simp only [i64_w, i32_w]; rw [c37b0]) | skip)
       replace H := Option.bind_eq_some_iff.mp H
       obtain ⟨t293, A380, H⟩ := H
       replace H : (if t293 = true then (if (l2.length : Int) > 10 then (glisterlaw04_CipherCodes.j1 kj3 a1 l2 t288 t291 3 a0_0 a0_1 l0_2 l0_3) else ((glisterref04_Plain.f kj3 a0_0 a0_1 l0_2 l0_3 l2).bind fun t294 => (if t294 = true then (glisterlaw04_CipherCodes.j1 kj3 a1 l2 t288 t291 t292 a0_0 a0_1 l0_2 l0_3) else (glisterlaw04_CipherCodes.j1 kj3 a1 l2 t288 t291 2 a0_0 a0_1 l0_2 l0_3)))) else (glisterlaw04_CipherCodes.j1 kj3 a1 l2 t288 t291 2 a0_0 a0_1 l0_2 l0_3)) = some r := H
       have A38 := Sd.mk A380
       clear A380
       by_cases c39 : t293 = true
       ·subst c39
        have H1 : (if (l2.length : Int) > 10 then (glisterlaw04_CipherCodes.j1 kj3 a1 l2 t288 t291 3 a0_0 a0_1 l0_2 l0_3) else ((glisterref04_Plain.f kj3 a0_0 a0_1 l0_2 l0_3 l2).bind fun t294 => (if t294 = true then (glisterlaw04_CipherCodes.j1 kj3 a1 l2 t288 t291 t292 a0_0 a0_1 l0_2 l0_3) else (glisterlaw04_CipherCodes.j1 kj3 a1 l2 t288 t291 2 a0_0 a0_1 l0_2 l0_3)))) = some r := by rw [if_pos rfl] at H; exact H
        clear H
        have H := H1
        clear H1
        by_cases c40 : (l2.length : Int) > 10
        ·rw [if_pos c40] at H
         have c40b0 : decide (10 < (l2.length : Int)) = true := decide_eq_true c40
         have c40b1 : decide (10 < l2.length) = true := decide_eq_true (by omega)
         clear c40
         have H' := Sd.mk H
         clear H
         have z_41_0 : w36.cell? ⟨gb265, 0, none⟩ = some (.int .i64 a0_0) := (kC BK265.1 0).trans rfl
         have z_41_1 : w36.cell? ⟨gb265, 1, none⟩ = some (.int .i64 a0_1) := (kC BK265.1 1).trans rfl
         have z_41_2 : w36.cell? ⟨gb265, 2, none⟩ = some (.slice A0_2 l0_2.length c0_2) := (kC BK265.1 2).trans rfl
         have z_41_3 : w36.cell? ⟨gb265, 3, none⟩ = some (.slice A0_3 l0_3.length c0_3) := (kC BK265.1 3).trans rfl
         go_wp2_with (first | ((with_reducible refine gate_callee (f := 23) rfl ?_); refine goesL_ (some 46) rfl rfl Try.func23 (by kernel_rfl) rfl #[.int .i64 a1, .int .i64 0, .int .i64 (wrap64 ((l0_3.length : Int) - 1))] rfl (by (try simp only [List.map_toArray, List.map_cons, List.map_nil]); first | done | rfl | (simp only [List.length_drop, List.length_take]; rfl)) ?_; (with_reducible refine (glisterref04_In.calls a1 0 (wrap64 ((l0_3.length : Int) - 1)) true _ A38.1).mono ?_); rintro e w' ⟨rfl, ⟨nd, rfl⟩⟩; refine ⟨_, rfl, ?_⟩))
         go_meet
         case rel => exact ⟨_, (3), (by first | rfl | (simp; done) | (simp [*]; done)), H', ⟨by have := HJ3.1; first | omega | exact Nat.le_refl _⟩, ⟨by (with_reducible repeat (first | apply Kd.R_alloc | apply Kd.R_drewN | apply Kd.R_drew)); exact Kd.R_mono HO290.1 (fun _ hk => trivial)⟩, ⟨by (with_reducible repeat (first | refine kN ?_ _ | refine kD ?_ | refine kA ?_ _)); exact BK265.1⟩, ⟨by repeat (first | (with_reducible first | exact HB.1 | apply bA | apply bN | apply bD | refine bS ?_ GE265.1) | exact HB.1)⟩⟩
        ·rw [if_neg c40] at H
         have c40b0 : decide (10 < (l2.length : Int)) = false := decide_eq_false c40
         have c40b1 : decide (10 < l2.length) = false := decide_eq_false (by omega)
         clear c40
         replace H := Option.bind_eq_some_iff.mp H
         obtain ⟨t294, A420, H⟩ := H
         replace H : (if t294 = true then (glisterlaw04_CipherCodes.j1 kj3 a1 l2 t288 t291 t292 a0_0 a0_1 l0_2 l0_3) else (glisterlaw04_CipherCodes.j1 kj3 a1 l2 t288 t291 2 a0_0 a0_1 l0_2 l0_3)) = some r := H
         have A42 := Sd.mk A420
         clear A420
         by_cases c43 : t294 = true
         ·subst c43
          have H1 : (glisterlaw04_CipherCodes.j1 kj3 a1 l2 t288 t291 t292 a0_0 a0_1 l0_2 l0_3) = some r := by rw [if_pos rfl] at H; exact H
          clear H
          have H := H1
          clear H1
          have H' := Sd.mk H
          clear H
          have z_44_0 : w36.cell? ⟨gb265, 0, none⟩ = some (.int .i64 a0_0) := (kC BK265.1 0).trans rfl
          have z_44_1 : w36.cell? ⟨gb265, 1, none⟩ = some (.int .i64 a0_1) := (kC BK265.1 1).trans rfl
          have z_44_2 : w36.cell? ⟨gb265, 2, none⟩ = some (.slice A0_2 l0_2.length c0_2) := (kC BK265.1 2).trans rfl
          have z_44_3 : w36.cell? ⟨gb265, 3, none⟩ = some (.slice A0_3 l0_3.length c0_3) := (kC BK265.1 3).trans rfl
          go_wp2_with (first | ((with_reducible refine gate_callee (f := 23) rfl ?_); refine goesL_ (some 46) rfl rfl Try.func23 (by kernel_rfl) rfl #[.int .i64 a1, .int .i64 0, .int .i64 (wrap64 ((l0_3.length : Int) - 1))] rfl (by (try simp only [List.map_toArray, List.map_cons, List.map_nil]); first | done | rfl | (simp only [List.length_drop, List.length_take]; rfl)) ?_; (with_reducible refine (glisterref04_In.calls a1 0 (wrap64 ((l0_3.length : Int) - 1)) true _ A38.1).mono ?_); rintro e w' ⟨rfl, ⟨nd, rfl⟩⟩; refine ⟨_, rfl, ?_⟩) | ((with_reducible refine gate_callee (f := 24) rfl ?_); refine goesL_ (some 55) rfl rfl Try.func24 (by kernel_rfl) rfl #[.agg #[.int .i64 a0_0, .int .i64 a0_1, .slice A0_2 l0_2.length c0_2, .slice A0_3 l0_3.length c0_3], .slice A2 l2.length c2] rfl (by (try simp only [List.map_toArray, List.map_cons, List.map_nil]); first | done | rfl | (simp only [List.length_drop, List.length_take]; rfl)) ?_; (with_reducible refine (glisterref04_Plain.calls kj3 a0_0 a0_1 _ _ l0_2 _ _ l0_3 _ _ l2 true _ ?side1 ?side2 ?side3 ?side4 ?side5 ?side6 A42.1).mono ?_); (case side1 => repeat (first | exact (Kd.C_below HR0_2.1 (by repeat (first | (with_reducible first | exact HB.1 | apply bA | apply bN | apply bD | refine bS ?_ GE265.1) | exact HB.1))) | (with_reducible refine Kd.C_alloc ?_ _) | (with_reducible refine Kd.C_drewN ?_ _) | (with_reducible refine Kd.C_drew ?_))); (case side2 => exact HC0_2.1); (case side3 => repeat (first | exact (Kd.C_below HR0_3.1 (by repeat (first | (with_reducible first | exact HB.1 | apply bA | apply bN | apply bD | refine bS ?_ GE265.1) | exact HB.1))) | (with_reducible refine Kd.C_alloc ?_ _) | (with_reducible refine Kd.C_drewN ?_ _) | (with_reducible refine Kd.C_drew ?_))); (case side4 => exact HC0_3.1); (case side5 => repeat (first | exact (Kd.C_below HR2.1 (by repeat (first | (with_reducible first | exact HB.1 | apply bA | apply bN | apply bD | refine bS ?_ GE265.1) | exact HB.1))) | (with_reducible refine Kd.C_alloc ?_ _) | (with_reducible refine Kd.C_drewN ?_ _) | (with_reducible refine Kd.C_drew ?_))); (case side6 => exact HC2.1); rintro e w45 ⟨rfl, hb⟩; refine ⟨_, rfl, ?_⟩; have n0_ := Sd.mk (Kd.R_below (by (with_reducible repeat (first | apply Kd.R_alloc | apply Kd.R_drewN | apply Kd.R_drew)); exact HO272.1) hb); have n1_ := Sd.mk (Kd.R_below (by (with_reducible repeat (first | apply Kd.R_alloc | apply Kd.R_drewN | apply Kd.R_drew)); exact HO275.1) hb); have n2_ := Sd.mk (Kd.R_below (by (with_reducible repeat (first | apply Kd.R_alloc | apply Kd.R_drewN | apply Kd.R_drew)); exact HO281.1) hb); have n3_ := Sd.mk (Kd.R_below (by (with_reducible repeat (first | apply Kd.R_alloc | apply Kd.R_drewN | apply Kd.R_drew)); exact HO284.1) hb); have n4_ := Sd.mk (Kd.R_below (by (with_reducible repeat (first | apply Kd.R_alloc | apply Kd.R_drewN | apply Kd.R_drew)); exact HO287.1) hb); have n5_ := Sd.mk (Kd.R_below (by (with_reducible repeat (first | apply Kd.R_alloc | apply Kd.R_drewN | apply Kd.R_drew)); exact HO290.1) hb); have n6_ := Sd.mk (kB (g := gb265) (o := .cells #[.int .i64 a0_0, .int .i64 a0_1, .slice A0_2 l0_2.length c0_2, .slice A0_3 l0_3.length c0_3] 25 (0, 0)) (by (with_reducible repeat (first | refine kN ?_ _ | refine kD ?_ | refine kA ?_ _)); exact BK265.1) hb); have n7_ := Sd.mk (bT (by repeat (first | (with_reducible first | exact HB.1 | apply bA | apply bN | apply bD | refine bS ?_ GE265.1) | exact HB.1)) hb); clear HO272; clear HO275; clear HO281; clear HO284; clear HO287; clear HO290; clear BK265; clear HB; have HO272 := n0_; have HO275 := n1_; have HO281 := n2_; have HO284 := n3_; have HO287 := n4_; have HO290 := n5_; have BK265 := n6_; have HB := n7_; clear n0_ n1_ n2_ n3_ n4_ n5_ n6_ n7_; (try clear hb); (try clear hb2); (try clear hk); (try clear hi)))
          go_meet
          case rel => exact ⟨_, (t292), (by first | rfl | (simp; done) | (simp [*]; done)), H', ⟨by have := HJ3.1; first | omega | exact Nat.le_refl _⟩, ⟨by (with_reducible repeat (first | apply Kd.R_alloc | apply Kd.R_drewN | apply Kd.R_drew)); exact Kd.R_mono HO290.1 (fun _ hk => trivial)⟩, ⟨by (with_reducible repeat (first | refine kN ?_ _ | refine kD ?_ | refine kA ?_ _)); exact BK265.1⟩, ⟨by repeat (first | (with_reducible first | exact HB.1 | apply bA | apply bN | apply bD | refine bS ?_ GE265.1) | exact HB.1)⟩⟩
         ·replace c43 := Bool.eq_false_iff.mpr c43
          subst c43
          have H1 : (glisterlaw04_CipherCodes.j1 kj3 a1 l2 t288 t291 2 a0_0 a0_1 l0_2 l0_3) = some r := by rw [if_neg (show ¬ (false = true) by decide)] at H; exact H
          clear H
          have H := H1
          clear H1
          have H' := Sd.mk H
          clear H
          have z_46_0 : w36.cell? ⟨gb265, 0, none⟩ = some (.int .i64 a0_0) := (kC BK265.1 0).trans rfl
          have z_46_1 : w36.cell? ⟨gb265, 1, none⟩ = some (.int .i64 a0_1) := (kC BK265.1 1).trans rfl
          have z_46_2 : w36.cell? ⟨gb265, 2, none⟩ = some (.slice A0_2 l0_2.length c0_2) := (kC BK265.1 2).trans rfl
          have z_46_3 : w36.cell? ⟨gb265, 3, none⟩ = some (.slice A0_3 l0_3.length c0_3) := (kC BK265.1 3).trans rfl
          go_wp2_with (first | ((with_reducible refine gate_callee (f := 23) rfl ?_); refine goesL_ (some 46) rfl rfl Try.func23 (by kernel_rfl) rfl #[.int .i64 a1, .int .i64 0, .int .i64 (wrap64 ((l0_3.length : Int) - 1))] rfl (by (try simp only [List.map_toArray, List.map_cons, List.map_nil]); first | done | rfl | (simp only [List.length_drop, List.length_take]; rfl)) ?_; (with_reducible refine (glisterref04_In.calls a1 0 (wrap64 ((l0_3.length : Int) - 1)) true _ A38.1).mono ?_); rintro e w' ⟨rfl, ⟨nd, rfl⟩⟩; refine ⟨_, rfl, ?_⟩) | ((with_reducible refine gate_callee (f := 24) rfl ?_); refine goesL_ (some 55) rfl rfl Try.func24 (by kernel_rfl) rfl #[.agg #[.int .i64 a0_0, .int .i64 a0_1, .slice A0_2 l0_2.length c0_2, .slice A0_3 l0_3.length c0_3], .slice A2 l2.length c2] rfl (by (try simp only [List.map_toArray, List.map_cons, List.map_nil]); first | done | rfl | (simp only [List.length_drop, List.length_take]; rfl)) ?_; (with_reducible refine (glisterref04_Plain.calls kj3 a0_0 a0_1 _ _ l0_2 _ _ l0_3 _ _ l2 false _ ?side1 ?side2 ?side3 ?side4 ?side5 ?side6 A42.1).mono ?_); (case side1 => repeat (first | exact (Kd.C_below HR0_2.1 (by repeat (first | (with_reducible first | exact HB.1 | apply bA | apply bN | apply bD | refine bS ?_ GE265.1) | exact HB.1))) | (with_reducible refine Kd.C_alloc ?_ _) | (with_reducible refine Kd.C_drewN ?_ _) | (with_reducible refine Kd.C_drew ?_))); (case side2 => exact HC0_2.1); (case side3 => repeat (first | exact (Kd.C_below HR0_3.1 (by repeat (first | (with_reducible first | exact HB.1 | apply bA | apply bN | apply bD | refine bS ?_ GE265.1) | exact HB.1))) | (with_reducible refine Kd.C_alloc ?_ _) | (with_reducible refine Kd.C_drewN ?_ _) | (with_reducible refine Kd.C_drew ?_))); (case side4 => exact HC0_3.1); (case side5 => repeat (first | exact (Kd.C_below HR2.1 (by repeat (first | (with_reducible first | exact HB.1 | apply bA | apply bN | apply bD | refine bS ?_ GE265.1) | exact HB.1))) | (with_reducible refine Kd.C_alloc ?_ _) | (with_reducible refine Kd.C_drewN ?_ _) | (with_reducible refine Kd.C_drew ?_))); (case side6 => exact HC2.1); rintro e w47 ⟨rfl, hb⟩; refine ⟨_, rfl, ?_⟩; have n0_ := Sd.mk (Kd.R_below (by (with_reducible repeat (first | apply Kd.R_alloc | apply Kd.R_drewN | apply Kd.R_drew)); exact HO272.1) hb); have n1_ := Sd.mk (Kd.R_below (by (with_reducible repeat (first | apply Kd.R_alloc | apply Kd.R_drewN | apply Kd.R_drew)); exact HO275.1) hb); have n2_ := Sd.mk (Kd.R_below (by (with_reducible repeat (first | apply Kd.R_alloc | apply Kd.R_drewN | apply Kd.R_drew)); exact HO281.1) hb); have n3_ := Sd.mk (Kd.R_below (by (with_reducible repeat (first | apply Kd.R_alloc | apply Kd.R_drewN | apply Kd.R_drew)); exact HO284.1) hb); have n4_ := Sd.mk (Kd.R_below (by (with_reducible repeat (first | apply Kd.R_alloc | apply Kd.R_drewN | apply Kd.R_drew)); exact HO287.1) hb); have n5_ := Sd.mk (Kd.R_below (by (with_reducible repeat (first | apply Kd.R_alloc | apply Kd.R_drewN | apply Kd.R_drew)); exact HO290.1) hb); have n6_ := Sd.mk (kB (g := gb265) (o := .cells #[.int .i64 a0_0, .int .i64 a0_1, .slice A0_2 l0_2.length c0_2, .slice A0_3 l0_3.length c0_3] 25 (0, 0)) (by (with_reducible repeat (first | refine kN ?_ _ | refine kD ?_ | refine kA ?_ _)); exact BK265.1) hb); have n7_ := Sd.mk (bT (by repeat (first | (with_reducible first | exact HB.1 | apply bA | apply bN | apply bD | refine bS ?_ GE265.1) | exact HB.1)) hb); clear HO272; clear HO275; clear HO281; clear HO284; clear HO287; clear HO290; clear BK265; clear HB; have HO272 := n0_; have HO275 := n1_; have HO281 := n2_; have HO284 := n3_; have HO287 := n4_; have HO290 := n5_; have BK265 := n6_; have HB := n7_; clear n0_ n1_ n2_ n3_ n4_ n5_ n6_ n7_; (try clear hb); (try clear hb2); (try clear hk); (try clear hi)))
          go_meet
          case rel => exact ⟨_, (2), (by first | rfl | (simp; done) | (simp [*]; done)), H', ⟨by have := HJ3.1; first | omega | exact Nat.le_refl _⟩, ⟨by (with_reducible repeat (first | apply Kd.R_alloc | apply Kd.R_drewN | apply Kd.R_drew)); exact Kd.R_mono HO290.1 (fun _ hk => trivial)⟩, ⟨by (with_reducible repeat (first | refine kN ?_ _ | refine kD ?_ | refine kA ?_ _)); exact BK265.1⟩, ⟨by repeat (first | (with_reducible first | exact HB.1 | apply bA | apply bN | apply bD | refine bS ?_ GE265.1) | exact HB.1)⟩⟩
       ·replace c39 := Bool.eq_false_iff.mpr c39
        subst c39
        have H1 : (glisterlaw04_CipherCodes.j1 kj3 a1 l2 t288 t291 2 a0_0 a0_1 l0_2 l0_3) = some r := by rw [if_neg (show ¬ (false = true) by decide)] at H; exact H
        clear H
        have H := H1
        clear H1
        have H' := Sd.mk H
        clear H
        have z_48_0 : w36.cell? ⟨gb265, 0, none⟩ = some (.int .i64 a0_0) := (kC BK265.1 0).trans rfl
        have z_48_1 : w36.cell? ⟨gb265, 1, none⟩ = some (.int .i64 a0_1) := (kC BK265.1 1).trans rfl
        have z_48_2 : w36.cell? ⟨gb265, 2, none⟩ = some (.slice A0_2 l0_2.length c0_2) := (kC BK265.1 2).trans rfl
        have z_48_3 : w36.cell? ⟨gb265, 3, none⟩ = some (.slice A0_3 l0_3.length c0_3) := (kC BK265.1 3).trans rfl
        go_wp2_with (first | ((with_reducible refine gate_callee (f := 23) rfl ?_); refine goesL_ (some 46) rfl rfl Try.func23 (by kernel_rfl) rfl #[.int .i64 a1, .int .i64 0, .int .i64 (wrap64 ((l0_3.length : Int) - 1))] rfl (by (try simp only [List.map_toArray, List.map_cons, List.map_nil]); first | done | rfl | (simp only [List.length_drop, List.length_take]; rfl)) ?_; (with_reducible refine (glisterref04_In.calls a1 0 (wrap64 ((l0_3.length : Int) - 1)) false _ A38.1).mono ?_); rintro e w' ⟨rfl, ⟨nd, rfl⟩⟩; refine ⟨_, rfl, ?_⟩))
        go_meet
        case rel => exact ⟨_, (2), (by first | rfl | (simp; done) | (simp [*]; done)), H', ⟨by have := HJ3.1; first | omega | exact Nat.le_refl _⟩, ⟨by (with_reducible repeat (first | apply Kd.R_alloc | apply Kd.R_drewN | apply Kd.R_drew)); exact Kd.R_mono HO290.1 (fun _ hk => trivial)⟩, ⟨by (with_reducible repeat (first | refine kN ?_ _ | refine kD ?_ | refine kA ?_ _)); exact BK265.1⟩, ⟨by repeat (first | (with_reducible first | exact HB.1 | apply bA | apply bN | apply bD | refine bS ?_ GE265.1) | exact HB.1)⟩⟩
      ·rw [if_neg c37] at H
       have c37b0 : (t292 == 0) = false := beq_eq_false_iff_ne.mpr c37
       have c37b1 : (t292 != 0) = true := bne_iff_ne.mpr c37
       (first | rw [c37b0] | (simp only [i64_w, i32_w]; rw [c37b0]) | skip)
       have H' := Sd.mk H
       clear H
       go_wp2
       go_meet
       case rel => exact ⟨_, (t292), (by first | rfl | (simp; done) | (simp [*]; done)), H', ⟨by have := HJ3.1; first | omega | exact Nat.le_refl _⟩, ⟨by (with_reducible repeat (first | apply Kd.R_alloc | apply Kd.R_drewN | apply Kd.R_drew)); exact Kd.R_mono HO290.1 (fun _ hk => trivial)⟩, ⟨by (with_reducible repeat (first | refine kN ?_ _ | refine kD ?_ | refine kA ?_ _)); exact BK265.1⟩, ⟨by repeat (first | (with_reducible first | exact HB.1 | apply bA | apply bN | apply bD | refine bS ?_ GE265.1) | exact HB.1)⟩⟩
     case rest =>
      clear HC22
      try clear c1
      try clear c2
      try clear p2
      try clear c3
      try clear c4
      try clear p6
      try clear c7
      try clear c12
      try clear c16
      try clear c17
      try clear c18
      try clear c19
      try clear c20
      try clear c21
      try clear c21b0
      try clear c21b1
      try clear c22
      try clear c23
      try clear c24
      try clear c37
      try clear c37b0
      try clear c37b1
      try clear c39
      try clear c40
      try clear c40b0
      try clear c40b1
      try clear c43
      try clear z_10_0
      try clear z_10_1
      try clear z_10_2
      try clear z_10_3
      try clear z_23_0
      try clear z_23_1
      try clear z_23_2
      try clear z_23_3
      try clear z_28_0
      try clear z_28_1
      try clear z_28_2
      try clear z_28_3
      try clear z_35_0
      try clear z_35_1
      try clear z_35_2
      try clear z_35_3
      try clear z_41_0
      try clear z_41_1
      try clear z_41_2
      try clear z_41_3
      try clear z_44_0
      try clear z_44_1
      try clear z_44_2
      try clear z_44_3
      try clear z_46_0
      try clear z_46_1
      try clear z_46_2
      try clear z_46_3
      try clear z_48_0
      try clear z_48_1
      try clear z_48_2
      try clear z_48_3
      try clear z_8_0
      try clear z_8_1
      try clear z_8_2
      try clear z_8_3
      try clear p2
      obtain ⟨kq, x10_21, rfl, HA, HJ21, HO_8, BK265, HB⟩ := hcut
      cases kq with
      | zero => exact absurd HA.1 (by simp [glisterlaw04_CipherCodes.j1])
      | succ kj21 =>
       have H := HA.1
       clear HA
       simp only [glisterlaw04_CipherCodes.j1] at H
       by_cases c49 : x10_21 = 0
       ·rw [if_pos c49] at H
        have c49b0 : (x10_21 == 0) = true := beq_iff_eq.mpr c49
        have c49b1 : (x10_21 != 0) = false := bne_eq_false_iff_eq.mpr c49
        clear c49
        by_cases c50 : t291 = 0
        ·rw [if_pos c50] at H
         have c50b0 : (t291 == 0) = true := beq_iff_eq.mpr c50
         have c50b1 : (t291 != 0) = false := bne_eq_false_iff_eq.mpr c50
         clear c50
         replace H := Option.bind_eq_some_iff.mp H
         obtain ⟨t295, A510, H⟩ := H
         replace H : ((glisterref04_Same.f kj21 t288 t295).bind fun t298 => (if t298 = true then ((glisterlaw04_awake.f).bind fun t299 => (some t299)) else (none))) = some r := H
         have A51 := Sd.mk A510
         clear A510
         replace H := Option.bind_eq_some_iff.mp H
         obtain ⟨t298, A520, H⟩ := H
         replace H : (if t298 = true then ((glisterlaw04_awake.f).bind fun t299 => (some t299)) else (none)) = some r := H
         have A52 := Sd.mk A520
         clear A520
         by_cases c53 : t298 = true
         ·subst c53
          have H1 : ((glisterlaw04_awake.f).bind fun t299 => (some t299)) = some r := by rw [if_pos rfl] at H; exact H
          clear H
          have H := H1
          clear H1
          replace H := Option.bind_eq_some_iff.mp H
          obtain ⟨t299, A540, H⟩ := H
          replace H : (some t299) = some r := H
          have A54 := Sd.mk A540
          clear A540
          obtain rfl := Option.some.inj H
          have z_55_0 : wc.cell? ⟨gb265, 0, none⟩ = some (.int .i64 a0_0) := (kC BK265.1 0).trans rfl
          have z_55_1 : wc.cell? ⟨gb265, 1, none⟩ = some (.int .i64 a0_1) := (kC BK265.1 1).trans rfl
          have z_55_2 : wc.cell? ⟨gb265, 2, none⟩ = some (.slice A0_2 l0_2.length c0_2) := (kC BK265.1 2).trans rfl
          have z_55_3 : wc.cell? ⟨gb265, 3, none⟩ = some (.slice A0_3 l0_3.length c0_3) := (kC BK265.1 3).trans rfl
          go_wp2_with (first | (go_at_call 26; (with_reducible refine (glisterref04_Code.calls kj21 a0_0 a0_1 _ _ l0_2 _ _ l0_3 a1 _ _ l2 t295 _ ?side1 ?side2 ?side3 ?side4 ?side5 ?side6 A51.1).mono ?_); (case side1 => repeat (first | exact (Kd.C_below HR0_2.1 HB.1) | (with_reducible refine Kd.C_alloc ?_ _) | (with_reducible refine Kd.C_drewN ?_ _) | (with_reducible refine Kd.C_drew ?_))); (case side2 => exact HC0_2.1); (case side3 => repeat (first | exact (Kd.C_below HR0_3.1 HB.1) | (with_reducible refine Kd.C_alloc ?_ _) | (with_reducible refine Kd.C_drewN ?_ _) | (with_reducible refine Kd.C_drew ?_))); (case side4 => exact HC0_3.1); (case side5 => repeat (first | exact (Kd.C_below HR2.1 HB.1) | (with_reducible refine Kd.C_alloc ?_ _) | (with_reducible refine Kd.C_drewN ?_ _) | (with_reducible refine Kd.C_drew ?_))); (case side6 => exact HC2.1); rintro e w56 ⟨v296, rfl, ho0, hb⟩; have n0_ := Sd.mk (Kd.R_elder' (by (with_reducible repeat (first | apply Kd.R_alloc | apply Kd.R_drewN | apply Kd.R_drew)); exact HO_8.1) (Kd.R_base ho0) hb); have n1_ := Sd.mk (Kd.R_lower (Kd.R_new' ho0 (Kd.R_lt (by (with_reducible repeat (first | apply Kd.R_alloc | apply Kd.R_drewN | apply Kd.R_drew)); exact HO_8.1))) (bZ (by repeat (first | (with_reducible first | exact HB.1 | apply bA | apply bN | apply bD | refine bS ?_ GE265.1) | exact HB.1)))); have n2_ := Sd.mk (kB (g := gb265) (o := .cells #[.int .i64 a0_0, .int .i64 a0_1, .slice A0_2 l0_2.length c0_2, .slice A0_3 l0_3.length c0_3] 25 (0, 0)) (by (with_reducible repeat (first | refine kN ?_ _ | refine kD ?_ | refine kA ?_ _)); exact BK265.1) hb); have n3_ := Sd.mk (bT (by repeat (first | (with_reducible first | exact HB.1 | apply bA | apply bN | apply bD | refine bS ?_ GE265.1) | exact HB.1)) hb); clear HO_8; clear BK265; clear HB; have HO_8 := n0_; have HO297 := n1_; have BK265 := n2_; have HB := n3_; clear n0_ n1_ n2_ n3_; (try clear hb); (try clear hb2); (try clear hk); (try clear hi); (try clear ho0); obtain ⟨Ao57, co57, eo57⟩ := Kd.R_slice HO_8.1; subst eo57; obtain ⟨Ao58, co58, eo58⟩ := Kd.R_slice HO297.1; subst eo58) | (go_at_call 25; (with_reducible refine (glisterref04_Same.calls kj21 _ _ t288 _ _ t295 true _ ?side1 ?side2 ?side3 ?side4 A52.1).mono ?_); (case side1 => repeat (first | exact (Kd.R_reads' HO_8.1).2.2 | (with_reducible refine Kd.C_alloc ?_ _) | (with_reducible refine Kd.C_drewN ?_ _) | (with_reducible refine Kd.C_drew ?_))); (case side2 => exact (Kd.R_reads' HO_8.1).2.1); (case side3 => repeat (first | exact (Kd.R_reads' HO297.1).2.2 | (with_reducible refine Kd.C_alloc ?_ _) | (with_reducible refine Kd.C_drewN ?_ _) | (with_reducible refine Kd.C_drew ?_))); (case side4 => exact (Kd.R_reads' HO297.1).2.1); rintro e w' ⟨rfl, ⟨nd, rfl⟩⟩) | (go_at_call 17; (with_reducible refine (glisterlaw04_awake.calls  t299 _ A54.1).mono ?_); rintro e w59 ⟨rfl, hb⟩; have n0_ := Sd.mk (Kd.R_below (by (with_reducible repeat (first | apply Kd.R_alloc | apply Kd.R_drewN | apply Kd.R_drew)); exact HO_8.1) hb); have n1_ := Sd.mk (Kd.R_below (by (with_reducible repeat (first | apply Kd.R_alloc | apply Kd.R_drewN | apply Kd.R_drew)); exact HO297.1) hb); have n2_ := Sd.mk (kB (g := gb265) (o := .cells #[.int .i64 a0_0, .int .i64 a0_1, .slice A0_2 l0_2.length c0_2, .slice A0_3 l0_3.length c0_3] 25 (0, 0)) (by (with_reducible repeat (first | refine kN ?_ _ | refine kD ?_ | refine kA ?_ _)); exact BK265.1) hb); have n3_ := Sd.mk (bT (by repeat (first | (with_reducible first | exact HB.1 | apply bA | apply bN | apply bD | refine bS ?_ GE265.1) | exact HB.1)) hb); clear HO_8; clear HO297; clear BK265; clear HB; have HO_8 := n0_; have HO297 := n1_; have BK265 := n2_; have HB := n3_; clear n0_ n1_ n2_ n3_; (try clear hb); (try clear hb2); (try clear hk); (try clear hi)))
          go_ret
          exact ⟨by first | rfl | (simp [errW_none, errW_some] <;> rfl) | (simp [*, errW_none, errW_some] <;> rfl), by repeat (first | (with_reducible first | exact HB.1 | apply bA | apply bN | apply bD | refine bS ?_ GE265.1) | exact HB.1)⟩
         ·replace c53 := Bool.eq_false_iff.mpr c53
          subst c53
          have H1 : (none) = some r := by rw [if_neg (show ¬ (false = true) by decide)] at H; exact H
          clear H
          have H := H1
          clear H1
          exact absurd H (by simp)
        ·rw [if_neg c50] at H
         exact absurd H (by simp)
       ·rw [if_neg c49] at H
        have c49b0 : (x10_21 == 0) = false := beq_eq_false_iff_ne.mpr c49
        have c49b1 : (x10_21 != 0) = true := bne_iff_ne.mpr c49
        by_cases c60 : t291 = x10_21
        ·rw [if_pos c60] at H
         have c60b0 : (t291 == x10_21) = true := beq_iff_eq.mpr c60
         have c60b1 : (t291 != x10_21) = false := bne_eq_false_iff_eq.mpr c60
         clear c60
         by_cases c61 : (t288.length : Int) = 0
         ·rw [if_pos c61] at H
          have c61b0 : ((t288.length : Int) == 0) = true := beq_iff_eq.mpr c61
          have c61b1 : ((t288.length : Int) != 0) = false := bne_eq_false_iff_eq.mpr c61
          clear c61
          replace H := Option.bind_eq_some_iff.mp H
          obtain ⟨t300, A620, H⟩ := H
          replace H : (some t300) = some r := H
          have A62 := Sd.mk A620
          clear A620
          obtain rfl := Option.some.inj H
          obtain ⟨Ao63, co63, eo63⟩ := Kd.R_slice HO_8.1
          subst eo63
          go_wp2_with (first | (go_at_call 17; (with_reducible refine (glisterlaw04_awake.calls  t300 _ A62.1).mono ?_); rintro e w64 ⟨rfl, hb⟩; have n0_ := Sd.mk (Kd.R_below (by (with_reducible repeat (first | apply Kd.R_alloc | apply Kd.R_drewN | apply Kd.R_drew)); exact HO_8.1) hb); have n1_ := Sd.mk (kB (g := gb265) (o := .cells #[.int .i64 a0_0, .int .i64 a0_1, .slice A0_2 l0_2.length c0_2, .slice A0_3 l0_3.length c0_3] 25 (0, 0)) (by (with_reducible repeat (first | refine kN ?_ _ | refine kD ?_ | refine kA ?_ _)); exact BK265.1) hb); have n2_ := Sd.mk (bT (by repeat (first | (with_reducible first | exact HB.1 | apply bA | apply bN | apply bD | refine bS ?_ GE265.1) | exact HB.1)) hb); clear HO_8; clear BK265; clear HB; have HO_8 := n0_; have BK265 := n1_; have HB := n2_; clear n0_ n1_ n2_; (try clear hb); (try clear hb2); (try clear hk); (try clear hi)))
          go_ret
          exact ⟨by first | rfl | (simp [errW_none, errW_some] <;> rfl) | (simp [*, errW_none, errW_some] <;> rfl), by repeat (first | (with_reducible first | exact HB.1 | apply bA | apply bN | apply bD | refine bS ?_ GE265.1) | exact HB.1)⟩
         ·rw [if_neg c61] at H
          exact absurd H (by simp)
        ·rw [if_neg c60] at H
         exact absurd H (by simp)
    ·rw [if_neg c21] at H
     exact absurd H (by simp)
end Go.Proofs.Ytnidgkmopocdkaa.P
