import Derived.Test.YtnidgkmopocdkaaA13P0
import Derived.Test.YtnidgkmopocdkaaA13P2
import Derived.Test.YtnidgkmopocdkaaA13P13
namespace Go.Proofs.Ytnidgkmopocdkaa.P
open Go.RowKit Go.Proofs.YtnidgkmopocdkaaW.PrintWords Go.Proofs.YtnidgkmopocdkaaW.PrintLast Go.Proofs.YtnidgkmopocdkaaW.PrintMore
attribute [local go_sem] max2_int min2_int max_two min_two max_three min_three max_four min_four   -- for this text's walks alone
set_option linter.unusedVariables false
set_option linter.unusedSimpArgs false
def cipher_Exposed.l0 : Nat → List (S110) → List Int → List Int → Int → Int → Option (List Int × Int)
 | 0, _, _, _, _, _ => none
 | k + 1, x1, x7, x18, x19, x20 => if x20 < x19 then (if 0 ≤ x20 then (if x20 < (x18.length : Int) then ((cipher_had.f k x1 (rd x18 x20)).bind fun t188 => (if t188 = (-1) then (if x7.length < 17592186044416 then (cipher_Exposed.l0 k x1 (x7 ++ [t188]) x18 x19 (wrap64 (x20 + 1))) else (none)) else (if x7.length < 17592186044416 then (cipher_Exposed.l0 k x1 (x7 ++ [mx t188 x20]) x18 x19 (wrap64 (x20 + 1))) else (none)))) else (none)) else (none)) else (some (x7, 0))
def cipher_Exposed.f (k : Nat) (a0_0 : Int) (a0_1 : Int) (l0_2 : List (S91)) (l0_3 : List Int) (l1 : List (S110)) : Option (List Int × Int) := (cipher_Book_losses.f a0_0 a0_1 l0_2 l0_3 l1).bind fun t186 => (if t186 = 0 then (cipher_Exposed.l0 k l1 ([] : List Int) l0_3 (l0_3.length : Int) 0) else (some (([] : List Int), t186)))
set_option maxHeartbeats 8000000 in
set_option maxRecDepth 100000 in
theorem cipher_Exposed.calls (k : Nat) (a0_0 : Int) (a0_1 : Int) (A0_2 : Option Addr) (c0_2 : Nat) (l0_2 : List (S91)) (A0_3 : Option Addr) (c0_3 : Nat) (l0_3 : List Int) (A1 : Option Addr) (c1 : Nat) (l1 : List (S110)) (r1 : List Int) (r2 : Int) (w : World) (hr0_2 : Kd.C k91 w A0_2 l0_2.length l0_2) (hc0_2 : l0_2.length ≤ c0_2) (hr0_3 : Kd.C (Kd.int .i64) w A0_3 l0_3.length l0_3) (hc0_3 : l0_3.length ≤ c0_3) (hr1 : Kd.C k110 w A1 l1.length l1) (hc1 : l1.length ≤ c1) (h : cipher_Exposed.f k a0_0 a0_1 l0_2 l0_3 l1 = some (r1, r2)) :
  Calls Try.prog 29 #[.agg #[.int .i64 a0_0, .int .i64 a0_1, .slice A0_2 l0_2.length c0_2, .slice A0_3 l0_3.length c0_3], .slice A1 l1.length c1] w fun e w' => ∃ v0_ : Value, e = .returned (.tuple #[v0_, .int .i64 r2]) ∧ Kd.R (Kd.int .i64) 3 w' w.heap.size (fun _ => True) v0_ r1 ∧ Below w.heap.size w w' := by
 have hu32 := Try.underlying32
 have HR0_2 := Sd.mk hr0_2
 have HC0_2 := Sd.mk hc0_2
 clear hr0_2 hc0_2
 have HR0_3 := Sd.mk hr0_3
 have HC0_3 := Sd.mk hc0_3
 clear hr0_3 hc0_3
 have HR1 := Sd.mk hr1
 have HC1 := Sd.mk hc1
 clear hr1 hc1
 have HB := Sd.mk (Below.refl w.heap.size w)
 have H : ((cipher_Book_losses.f a0_0 a0_1 l0_2 l0_3 l1).bind fun t186 => (if t186 = 0 then (cipher_Exposed.l0 k l1 ([] : List Int) l0_3 (l0_3.length : Int) 0) else (some (([] : List Int), t186)))) = some (r1, r2) := h
 clear h
 obtain ⟨t186, A30, H⟩ := Option.bind_eq_some_iff.mp H
 have A3 := Sd.mk A30
 clear A30
 by_cases c4 : t186 = 0
 ·rw [if_pos c4] at H
  have c4b0 : (t186 == 0) = true := beq_iff_eq.mpr c4
  have c4b1 : (t186 != 0) = false := bne_eq_false_iff_eq.mpr c4
  clear c4
  have H' := Sd.mk H
  clear H
  go_enter Try.func29, Try.ntmps29
  go_wp2_with (first | ((with_reducible refine gD (N := 2) rfl ?_); refine xE ?hg (N := 2) ?hd (cs := #[.int .i64 a0_0, .int .i64 a0_1, .slice A0_2 l0_2.length c0_2, .slice A0_3 l0_3.length c0_3]) (t := 32) ?hr ?_; (case hd => rfl); (case hg => rfl); (case hr => first | (go_simp; done) ); intro gb185 hg w5 hbox hb; have BK185 := Sd.mk (hbox); have GW185 := Sd.mk ((by rw [hg]; exact (bZ (by repeat (first | (with_reducible first | exact HB.1 ) ))) : w.heap.size ≤ gb185)); have GE185 := Sd.mk ((by rw [hg]; exact (bZ (by repeat (first | (with_reducible first | exact HB.1 ) ))) : w.heap.size ≤ gb185)); replace HB := Sd.mk (bT (by repeat (first | (with_reducible first | exact HB.1 ) )) hb); clear hb hbox hg; have z_6_0 : w5.cell? ⟨gb185, 0, none⟩ = some (.int .i64 a0_0) := (kC BK185.1 0).trans rfl; have z_6_1 : w5.cell? ⟨gb185, 1, none⟩ = some (.int .i64 a0_1) := (kC BK185.1 1).trans rfl; have z_6_2 : w5.cell? ⟨gb185, 2, none⟩ = some (.slice A0_2 l0_2.length c0_2) := (kC BK185.1 2).trans rfl; have z_6_3 : w5.cell? ⟨gb185, 3, none⟩ = some (.slice A0_3 l0_3.length c0_3) := (kC BK185.1 3).trans rfl) | ((with_reducible refine gate_callee (f := 71) rfl ?_); refine goesL_ (some 13) rfl rfl Try.func71 (by kernel_rfl) rfl #[.agg #[.int .i64 a0_0, .int .i64 a0_1, .slice A0_2 l0_2.length c0_2, .slice A0_3 l0_3.length c0_3], .slice A1 l1.length c1] rfl (by (try simp only [List.map_toArray, List.map_cons, List.map_nil]); first | rfl ) ?_; (with_reducible refine (cipher_Book_losses.calls a0_0 a0_1 _ _ l0_2 _ _ l0_3 _ _ l1 t186 _ ?side1 ?side2 ?side3 ?side4 ?side5 ?side6 A3.1).mono ?_); (case side1 => repeat (first | exact (Kd.C_below HR0_2.1 HB.1) )); (case side2 => exact HC0_2.1); (case side3 => repeat (first | exact (Kd.C_below HR0_3.1 HB.1) )); (case side4 => exact HC0_3.1); (case side5 => repeat (first | exact (Kd.C_below HR1.1 HB.1) )); (case side6 => exact HC1.1); rintro e w7 ⟨rfl, hb⟩; refine ⟨_, rfl, ?_⟩; replace BK185 := Sd.mk (kB (g := gb185) (o := .cells #[.int .i64 a0_0, .int .i64 a0_1, .slice A0_2 l0_2.length c0_2, .slice A0_3 l0_3.length c0_3] 32 (0, 0)) (by (with_reducible repeat (fail)); exact BK185.1) hb); replace HB := Sd.mk (bT (by repeat (first | (with_reducible first | exact HB.1 ) )) hb); (try clear hb); have z_8_3 : w7.cell? ⟨gb185, 3, none⟩ = some (.slice A0_3 l0_3.length c0_3) := (kC BK185.1 3).trans rfl))
  go_loopg [7, 20] k (fun kq v7 v20 w' => ∃ (x7_1 : List Int) (x20_1 : Int), v20 = .int .i64 x20_1 ∧ Sd (cipher_Exposed.l0 kq l1 x7_1 l0_3 (l0_3.length : Int) x20_1 = some (r1, r2)) ∧ Sd (kq ≤ k) ∧ Sd (Kd.R (Kd.int .i64) 3 w' w.heap.size (fun _ => True) v7 x7_1) ∧ Sd (w'.heap[gb185]? = some (.cells #[.int .i64 a0_0, .int .i64 a0_1, (.slice A0_2 l0_2.length c0_2), (.slice A0_3 l0_3.length c0_3)] 32 (0, 0))) ∧ Sd (Below w.heap.size w w'))
  case atStart => exact ⟨(([] : List Int)), (0), (by first | rfl ), H', ⟨Nat.le_refl _⟩, ⟨by first | exact Kd.R_nil _ _ _ _ _ ⟩, ⟨by (with_reducible repeat (fail)); exact BK185.1⟩, ⟨by repeat (first | (with_reducible first | exact HB.1 ) )⟩⟩
  case round =>
   clear H'
   clear c4b0 c4b1
   clear z_6_0 z_6_1 z_6_2 z_6_3 z_8_3
   obtain ⟨x7_1, x20_1, rfl, HA, HK1, HO_7, BK185, HB⟩ := hrel
   cases gk with
   | zero => exact absurd HA.1 (by simp [cipher_Exposed.l0])
   | succ k1 =>
    have H := HA.1
    clear HA
    simp only [cipher_Exposed.l0] at H
    by_cases c9 : x20_1 < (l0_3.length : Int)
    ·rw [if_pos c9] at H
     have c9b0 : decide (x20_1 < (l0_3.length : Int)) = true := decide_eq_true c9
     clear c9
     by_cases c10 : 0 ≤ x20_1
     ·rw [if_pos c10] at H
      have c10b0 : decide (0 ≤ x20_1) = true := decide_eq_true c10
      clear c10
      by_cases c11 : x20_1 < (l0_3.length : Int)
      ·rw [if_pos c11] at H
       have c11b0 : decide (x20_1 < (l0_3.length : Int)) = true := decide_eq_true c11
       clear c11
       obtain ⟨t188, A120, H⟩ := Option.bind_eq_some_iff.mp H
       have A12 := Sd.mk A120
       clear A120
       by_cases c13 : t188 = (-1)
       ·rw [if_pos c13] at H
        have c13b0 : (t188 == (-1)) = true := beq_iff_eq.mpr c13
        have c13b1 : (t188 != (-1)) = false := bne_eq_false_iff_eq.mpr c13
        clear c13
        by_cases c14 : x7_1.length < 17592186044416
        ·rw [if_pos c14] at H
         have LMc14 := Sd.mk c14
         clear c14
         obtain ⟨y189, hy189⟩ : ∃ y_ : List Int, y_ = (x7_1 ++ [t188]) := ⟨_, rfl⟩
         replace H : (cipher_Exposed.l0 k1 l1 y189 l0_3 (l0_3.length : Int) (wrap64 (x20_1 + 1))) = some (r1, r2) := by first | (rw [hy189]; with_reducible exact H) 
         have Ny189 := Sd.mk hy189
         clear hy189
         have H' := Sd.mk H
         clear H
         have p187 : 0 ≤ (x20_1 : Int) := of_decide_eq_true (by first | (with_reducible assumption) )
         have q187 : x20_1 < (l0_3.length : Int) := of_decide_eq_true (by first | (with_reducible assumption) )
         obtain ⟨ad187, e187, hx187_0⟩ := Kd.at_int HR0_3.1 x20_1 p187 q187
         cases e187
         replace hx187_0 := (HB.1.cell (World.block_lt_of_cell? w _ hx187_0)).trans hx187_0
         replace p187 := eq_true p187
         replace q187 := eq_true q187
         go_wp2_with (first | ((with_reducible refine gate_callee (f := 72) rfl ?_); refine goesL_ (some 27) rfl rfl Try.func72 (by kernel_rfl) rfl #[.slice A1 l1.length c1, .int .i64 (rd l0_3 x20_1)] rfl (by (try simp only [List.map_toArray, List.map_cons, List.map_nil]); first | rfl ) ?_; (with_reducible refine (cipher_had.calls k1 _ _ l1 (rd l0_3 x20_1) t188 _ ?side1 ?side2 A12.1).mono ?_); (case side1 => repeat (first | exact (Kd.C_below HR1.1 HB.1) )); (case side2 => exact HC1.1); rintro e w15 ⟨rfl, hb⟩; refine ⟨_, rfl, ?_⟩; replace HO_7 := Sd.mk (Kd.R_below (by (with_reducible repeat (fail)); exact HO_7.1) hb); replace BK185 := Sd.mk (kB (g := gb185) (o := .cells #[.int .i64 a0_0, .int .i64 a0_1, .slice A0_2 l0_2.length c0_2, .slice (some ad187) l0_3.length c0_3] 32 (0, 0)) (by (with_reducible repeat (fail)); exact BK185.1) hb); replace HB := Sd.mk (bT (by repeat (first | (with_reducible first | exact HB.1 ) )) hb); (try clear hb)) | ((with_reducible refine gate_builtin (b := .append) (xs := #[.tmp 33, .tmp 35]) rfl ?_); at_builtin; refine Kd.R_append (Kd.int .i64) (w0 := w) w.heap.size rfl (.tmp 33) (.tmp 35) 23 3 (.int .i64 0) 8 rfl Try.underlying23 info3 rfl (by decide) (by omega) u7 x7_1 t188 [.int .i64 t188] (fun _ => True) (fun _ => False) rfl rfl ?aP (fun _ hk => hk.elim) ?aF ?aO ?aB ?aS ?aL ?_; (case aP => exact rfl); (case aB => exact (by repeat (first | (with_reducible first | exact HB.1 ) ))); (case aF => exact (fun _ _ => trivial)); (case aO => exact (by (with_reducible repeat (fail)); exact HO_7.1)); (case aS => exact (bZ (by repeat (first | (with_reducible first | exact HB.1 ) )))); (case aL => have := LMc14.1; omega); intro v190 w16 ho hb hg hat; rw [← Ny189.1] at ho; replace BK185 := Sd.mk (blk_grown (g := gb185) (o := .cells #[.int .i64 a0_0, .int .i64 a0_1, .slice A0_2 l0_2.length c0_2, .slice (some ad187) l0_3.length c0_3] 32 (0, 0)) (by (with_reducible repeat (fail)); exact BK185.1) hg (Kd.R_ne HO_7.1 BK185.1 (by decide))); replace HB := Sd.mk (hb); have HO191 := Sd.mk (ho); clear HO_7; clear ho hb hg hat))
         go_roundg k1
         case measure => have := HK1.1; omega
         case rel => exact ⟨(y189), (wrap64 (x20_1 + 1)), (by first | rfl ), H', ⟨by have := HK1.1; omega⟩, ⟨by (with_reducible repeat (fail)); exact HO191.1⟩, ⟨by (with_reducible repeat (fail)); exact BK185.1⟩, ⟨by repeat (first | (with_reducible first | exact HB.1 ) )⟩⟩
        ·rw [if_neg c14] at H
         exact absurd H (by simp)
       ·rw [if_neg c13] at H
        have c13b0 : (t188 == (-1)) = false := beq_eq_false_iff_ne.mpr c13
        have c13b1 : (t188 != (-1)) = true := bne_iff_ne.mpr c13
        obtain ⟨ji17, hji17⟩ : ∃ j_ : Int, (mx t188 x20_1) = j_ := ⟨_, rfl⟩
        replace H : (if x7_1.length < 17592186044416 then (cipher_Exposed.l0 k1 l1 (x7_1 ++ [ji17]) l0_3 (l0_3.length : Int) (wrap64 (x20_1 + 1))) else (none)) = some (r1, r2) := by first | (rw [hji17] at H; exact H) 
        have hji17_ : (if t188 < x20_1 then x20_1 else t188) = ji17 := hji17
        by_cases c18 : x7_1.length < 17592186044416
        ·rw [if_pos c18] at H
         have LMc18 := Sd.mk c18
         clear c18
         obtain ⟨y192, hy192⟩ : ∃ y_ : List Int, y_ = (x7_1 ++ [ji17]) := ⟨_, rfl⟩
         replace H : (cipher_Exposed.l0 k1 l1 y192 l0_3 (l0_3.length : Int) (wrap64 (x20_1 + 1))) = some (r1, r2) := by first | (rw [hy192]; with_reducible exact H) 
         have Ny192 := Sd.mk hy192
         clear hy192
         have H' := Sd.mk H
         clear H
         have p187 : 0 ≤ (x20_1 : Int) := of_decide_eq_true (by first | (with_reducible assumption) )
         have q187 : x20_1 < (l0_3.length : Int) := of_decide_eq_true (by first | (with_reducible assumption) )
         obtain ⟨ad187, e187, hx187_0⟩ := Kd.at_int HR0_3.1 x20_1 p187 q187
         cases e187
         replace hx187_0 := (HB.1.cell (World.block_lt_of_cell? w _ hx187_0)).trans hx187_0
         replace p187 := eq_true p187
         replace q187 := eq_true q187
         go_wp2_with (first | ((with_reducible refine gate_callee (f := 72) rfl ?_); refine goesL_ (some 27) rfl rfl Try.func72 (by kernel_rfl) rfl #[.slice A1 l1.length c1, .int .i64 (rd l0_3 x20_1)] rfl (by (try simp only [List.map_toArray, List.map_cons, List.map_nil]); first | rfl ) ?_; (with_reducible refine (cipher_had.calls k1 _ _ l1 (rd l0_3 x20_1) t188 _ ?side1 ?side2 A12.1).mono ?_); (case side1 => repeat (first | exact (Kd.C_below HR1.1 HB.1) )); (case side2 => exact HC1.1); rintro e w19 ⟨rfl, hb⟩; refine ⟨_, rfl, ?_⟩; replace HO_7 := Sd.mk (Kd.R_below (by (with_reducible repeat (fail)); exact HO_7.1) hb); replace BK185 := Sd.mk (kB (g := gb185) (o := .cells #[.int .i64 a0_0, .int .i64 a0_1, .slice A0_2 l0_2.length c0_2, .slice (some ad187) l0_3.length c0_3] 32 (0, 0)) (by (with_reducible repeat (fail)); exact BK185.1) hb); replace HB := Sd.mk (bT (by repeat (first | (with_reducible first | exact HB.1 ) )) hb); (try clear hb)) | ((with_reducible refine gate_builtin (b := .append) (xs := #[.tmp 33, .tmp 35]) rfl ?_); at_builtin; refine Kd.R_append (Kd.int .i64) (w0 := w) w.heap.size rfl (.tmp 33) (.tmp 35) 23 3 (.int .i64 0) 8 rfl Try.underlying23 info3 rfl (by decide) (by omega) u7 x7_1 ji17 [.int .i64 ji17] (fun _ => True) (fun _ => False) rfl rfl ?aP (fun _ hk => hk.elim) ?aF ?aO ?aB ?aS ?aL ?_; (case aP => exact rfl); (case aB => exact (by repeat (first | (with_reducible first | exact HB.1 ) ))); (case aF => exact (fun _ _ => trivial)); (case aO => exact (by (with_reducible repeat (fail)); exact HO_7.1)); (case aS => exact (bZ (by repeat (first | (with_reducible first | exact HB.1 ) )))); (case aL => have := LMc18.1; omega); intro v193 w20 ho hb hg hat; rw [← Ny192.1] at ho; replace BK185 := Sd.mk (blk_grown (g := gb185) (o := .cells #[.int .i64 a0_0, .int .i64 a0_1, .slice A0_2 l0_2.length c0_2, .slice (some ad187) l0_3.length c0_3] 32 (0, 0)) (by (with_reducible repeat (fail)); exact BK185.1) hg (Kd.R_ne HO_7.1 BK185.1 (by decide))); replace HB := Sd.mk (hb); have HO194 := Sd.mk (ho); clear HO_7; clear ho hb hg hat))
         go_roundg k1
         case measure => have := HK1.1; omega
         case rel => exact ⟨(y192), (wrap64 (x20_1 + 1)), (by first | rfl ), H', ⟨by have := HK1.1; omega⟩, ⟨by (with_reducible repeat (fail)); exact HO194.1⟩, ⟨by (with_reducible repeat (fail)); exact BK185.1⟩, ⟨by repeat (first | (with_reducible first | exact HB.1 ) )⟩⟩
        ·rw [if_neg c18] at H
         exact absurd H (by simp)
      ·rw [if_neg c11] at H
       exact absurd H (by simp)
     ·rw [if_neg c10] at H
      exact absurd H (by simp)
    ·rw [if_neg c9] at H
     have c9b0 : decide (x20_1 < (l0_3.length : Int)) = false := decide_eq_false c9
     clear c9
     simp only [Option.some.injEq, Prod.mk.injEq] at H
     obtain ⟨rfl, rfl⟩ := H
     go_wp2
     go_ret2
     exact ⟨_, by first | rfl , by (with_reducible repeat (fail)); exact HO_7.1, by repeat (first | (with_reducible first | exact HB.1 ) )⟩
 ·rw [if_neg c4] at H
  have c4b0 : (t186 == 0) = false := beq_eq_false_iff_ne.mpr c4
  have c4b1 : (t186 != 0) = true := bne_iff_ne.mpr c4
  simp only [Option.some.injEq, Prod.mk.injEq] at H
  obtain ⟨rfl, rfl⟩ := H
  go_enter Try.func29, Try.ntmps29
  go_wp2_with (first | ((with_reducible refine gD (N := 2) rfl ?_); refine xE ?hg (N := 2) ?hd (cs := #[.int .i64 a0_0, .int .i64 a0_1, .slice A0_2 l0_2.length c0_2, .slice A0_3 l0_3.length c0_3]) (t := 32) ?hr ?_; (case hd => rfl); (case hg => rfl); (case hr => first | (go_simp; done) ); intro gb185 hg w21 hbox hb; have BK185 := Sd.mk (hbox); have GW185 := Sd.mk ((by rw [hg]; exact (bZ (by repeat (first | (with_reducible first | exact HB.1 ) ))) : w.heap.size ≤ gb185)); have GE185 := Sd.mk ((by rw [hg]; exact (bZ (by repeat (first | (with_reducible first | exact HB.1 ) ))) : w.heap.size ≤ gb185)); replace HB := Sd.mk (bT (by repeat (first | (with_reducible first | exact HB.1 ) )) hb); clear hb hbox hg; have z_22_0 : w21.cell? ⟨gb185, 0, none⟩ = some (.int .i64 a0_0) := (kC BK185.1 0).trans rfl; have z_22_1 : w21.cell? ⟨gb185, 1, none⟩ = some (.int .i64 a0_1) := (kC BK185.1 1).trans rfl; have z_22_2 : w21.cell? ⟨gb185, 2, none⟩ = some (.slice A0_2 l0_2.length c0_2) := (kC BK185.1 2).trans rfl; have z_22_3 : w21.cell? ⟨gb185, 3, none⟩ = some (.slice A0_3 l0_3.length c0_3) := (kC BK185.1 3).trans rfl) | ((with_reducible refine gate_callee (f := 71) rfl ?_); refine goesL_ (some 13) rfl rfl Try.func71 (by kernel_rfl) rfl #[.agg #[.int .i64 a0_0, .int .i64 a0_1, .slice A0_2 l0_2.length c0_2, .slice A0_3 l0_3.length c0_3], .slice A1 l1.length c1] rfl (by (try simp only [List.map_toArray, List.map_cons, List.map_nil]); first | rfl ) ?_; (with_reducible refine (cipher_Book_losses.calls a0_0 a0_1 _ _ l0_2 _ _ l0_3 _ _ l1 t186 _ ?side1 ?side2 ?side3 ?side4 ?side5 ?side6 A3.1).mono ?_); (case side1 => repeat (first | exact (Kd.C_below HR0_2.1 HB.1) )); (case side2 => exact HC0_2.1); (case side3 => repeat (first | exact (Kd.C_below HR0_3.1 HB.1) )); (case side4 => exact HC0_3.1); (case side5 => repeat (first | exact (Kd.C_below HR1.1 HB.1) )); (case side6 => exact HC1.1); rintro e w23 ⟨rfl, hb⟩; refine ⟨_, rfl, ?_⟩; replace BK185 := Sd.mk (kB (g := gb185) (o := .cells #[.int .i64 a0_0, .int .i64 a0_1, .slice A0_2 l0_2.length c0_2, .slice A0_3 l0_3.length c0_3] 32 (0, 0)) (by (with_reducible repeat (fail)); exact BK185.1) hb); replace HB := Sd.mk (bT (by repeat (first | (with_reducible first | exact HB.1 ) )) hb); (try clear hb)))
  go_ret2
  exact ⟨_, by first | rfl , by first | exact Kd.R_nil _ _ _ _ _ , by repeat (first | (with_reducible first | exact HB.1 ) )⟩
end Go.Proofs.Ytnidgkmopocdkaa.P
