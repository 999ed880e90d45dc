import Derived.Test.YtnidgkmopocdkaaA11P0
import Derived.Test.YtnidgkmopocdkaaA11P3
import Derived.Test.YtnidgkmopocdkaaA11P4
import Derived.Test.YtnidgkmopocdkaaA11P9
import Derived.Test.YtnidgkmopocdkaaA11P12
import Derived.Test.YtnidgkmopocdkaaA11P17
import Derived.Test.YtnidgkmopocdkaaA11HAwake
import Derived.Test.YtnidgkmopocdkaaA11HFits
import Derived.Test.YtnidgkmopocdkaaA11HPossible
namespace Go.Proofs.Ytnidgkmopocdkaa.P
open Go.RowKit Go.Proofs.YtnidgkmopocdkaaW.PrintWords Go.Proofs.YtnidgkmopocdkaaW.PrintLast Go.Proofs.YtnidgkmopocdkaaW.PrintMore
attribute [local go_sem] max2_int min2_int max_two min_two max_three min_three max_four min_four   -- for this text's walks alone
set_option linter.unusedVariables false
set_option linter.unusedSimpArgs false
mutual
def glisterlaw04_CipherKnown.j0 : Nat → List Int → List Int → List (S85) → Int → Bool → Int → Int → List (S82) → List Int → Option (Bool)
 | 0, _, _, _, _, _, _, _, _, _ => none
 | k + 1, x1, x9, x10, x11, x54, x811000, x811001, x811002, x811003 => if x54 = true then (none) else (glisterlaw04_CipherKnown.l0 k x1 x9 x10 x11 0 x811000 x811001 x811002 x811003)
def glisterlaw04_CipherKnown.l0 : Nat → List Int → List Int → List (S85) → Int → Int → Int → Int → List (S82) → List Int → Option (Bool)
 | 0, _, _, _, _, _, _, _, _, _ => none
 | k + 1, x1, x9, x10, x11, x13, x811000, x811001, x811002, x811003 => if x13 < (x1.length : Int) then ((glisterlaw04_Book.f k x811000 x811001 x811002 x811003).bind fun bt837 => ((glisterlaw04_list.f x9).bind fun t845 => ((glisterlaw04_Guesses.f k x10).bind fun t848 => ((cipher_Possible.f bt837.1 bt837.2.1 bt837.2.2.1 bt837.2.2.2 t845 t848 x13).bind fun bt851 => (if bt851.2 = 0 then (if 0 ≤ x13 then ((glisterlaw04_has.f k bt851.1 (rd x1 x13)).bind fun t856 => (if t856 = true then (if x11 = 1 then (glisterlaw04_CipherKnown.j2 k x1 x9 x10 x11 x13 bt851.1 ((bt851.1.length : Int) != 1) x811000 x811001 x811002 x811003) else (glisterlaw04_CipherKnown.j2 k x1 x9 x10 x11 x13 bt851.1 false x811000 x811001 x811002 x811003)) else (glisterlaw04_CipherKnown.j2 k x1 x9 x10 x11 x13 bt851.1 true x811000 x811001 x811002 x811003))) else (none)) else (glisterlaw04_CipherKnown.j2 k x1 x9 x10 x11 x13 bt851.1 true x811000 x811001 x811002 x811003)))))) else ((glisterlaw04_awake.f).bind fun t836 => (some t836))
def glisterlaw04_CipherKnown.j2 : Nat → List Int → List Int → List (S85) → Int → Int → List Int → Bool → Int → Int → List (S82) → List Int → Option (Bool)
 | 0, _, _, _, _, _, _, _, _, _, _, _ => none
 | k + 1, x1, x9, x10, x11, x13, x14, x91, x811000, x811001, x811002, x811003 => if x91 = true then (none) else (glisterlaw04_CipherKnown.l1 k x1 x9 x10 x11 x13 x14 0 x811000 x811001 x811002 x811003)
def glisterlaw04_CipherKnown.l1 : Nat → List Int → List Int → List (S85) → Int → Int → List Int → Int → Int → Int → List (S82) → List Int → Option (Bool)
 | 0, _, _, _, _, _, _, _, _, _, _, _ => none
 | k + 1, x1, x9, x10, x11, x13, x14, x16, x811000, x811001, x811002, x811003 => if x16 < (x10.length : Int) then (if 0 ≤ x16 then (if ((rd_T85 x10 x16).f0) = x13 then (if 0 ≤ x13 then (if x13 < (x1.length : Int) then ((glisterref04_Same.f k x14 (([rd x1 x13] : List Int))).bind fun t862 => (if t862 = true then (glisterlaw04_CipherKnown.l1 k x1 x9 x10 x11 x13 x14 (wrap64 (x16 + 1)) x811000 x811001 x811002 x811003) else (none))) else (none)) else (none)) else (glisterlaw04_CipherKnown.l1 k x1 x9 x10 x11 x13 x14 (wrap64 (x16 + 1)) x811000 x811001 x811002 x811003)) else (none)) else (glisterlaw04_CipherKnown.l0 k x1 x9 x10 x11 (wrap64 (x13 + 1)) x811000 x811001 x811002 x811003)
end
def glisterlaw04_CipherKnown.f (k : Nat) (a0_0 : Int) (a0_1 : Int) (l0_2 : List (S82)) (l0_3 : List Int) (l1 : List Int) (a2 : Int) (a3 : Int) : Option (Bool) := (glisterlaw04_ready.f k a0_0 a0_1 l0_2 l0_3 l1).bind fun t811 => (if t811 = true then (if (l0_2.length : Int) = 0 then (none) else (if 0 ≤ (Int.tmod (wrap64 (a2)) (l0_2.length : Int)) then (if (Int.tmod (wrap64 (a2)) (l0_2.length : Int)) < (l0_2.length : Int) then ((glisterlaw04_Guessed.f k a0_0 a0_1 l0_2 l0_3 ((rd_T82 l0_2 (Int.tmod (wrap64 (a2)) (l0_2.length : Int))).f0) ((rd_T82 l0_2 (Int.tmod (wrap64 (a2)) (l0_2.length : Int))).f1) ((rd_T82 l0_2 (Int.tmod (wrap64 (a2)) (l0_2.length : Int))).f2) l1 a3).bind fun bt814 => ((glisterlaw04_Book.f k a0_0 a0_1 l0_2 l0_3).bind fun bt820 => ((glisterlaw04_list.f bt814.1).bind fun t828 => ((glisterlaw04_Guesses.f k bt814.2).bind fun t831 => ((cipher_Fits.f bt820.1 bt820.2.1 bt820.2.2.1 bt820.2.2.2 t828 t831).bind fun bt834 => (if bt834.2 = 0 then (glisterlaw04_CipherKnown.j0 k l1 bt814.1 bt814.2 bt834.1 (decide (bt834.1 < 1)) a0_0 a0_1 l0_2 l0_3) else (glisterlaw04_CipherKnown.j0 k l1 bt814.1 bt814.2 bt834.1 true a0_0 a0_1 l0_2 l0_3))))))) else (none)) else (none))) else ((glisterlaw04_awake.f).bind fun t812 => (some t812)))
def glisterlaw04_CipherKnown.T3 : Bool × List (List Nat × List Nat) := (true, [([], []), ([], []), ([1], [1]), ([], []), ([3], [3]), ([], []), ([5], [5]), ([6], [6]), ([4, 7], [4, 7]), ([2, 8], [2, 8]), ([9], [9]), ([], []), ([], []), ([0, 10, 11, 12], [0, 10, 11, 12]), ([13], [13]), ([14], [14]), ([14], [14]), ([15, 13, 0, 1, 2, 3, 4, 5, 6, 7, 8, 9, 10, 11, 12, 13, 14, 15], [15]), ([16, 17, 0, 1, 2, 3, 4, 5, 6, 7, 8, 9, 10, 11, 12, 13, 14, 15, 16, 17], [16])])
def glisterlaw04_CipherKnown.B3 : List Nat := [0, 0, 2, 0, 8, 0, 32, 96, 248, 510, 1022, 0, 0, 8191, 16383, 32767, 32767, 65535, 262143]
theorem glisterlaw04_CipherKnown.tab3 : rtab .any (opsOf Try.f13 3) = glisterlaw04_CipherKnown.T3 := by kernel_rfl
theorem glisterlaw04_CipherKnown.bits3 : waitsOk glisterlaw04_CipherKnown.T3.2 glisterlaw04_CipherKnown.B3 = true := by kernel_rfl
set_option maxHeartbeats 8000000 in
set_option maxRecDepth 100000 in
theorem glisterlaw04_CipherKnown.calls (k : Nat) (a0_0 : Int) (a0_1 : Int) (A0_2 : Option Addr) (c0_2 : Nat) (l0_2 : List (S82)) (A0_3 : Option Addr) (c0_3 : Nat) (l0_3 : List Int) (A1 : Option Addr) (c1 : Nat) (l1 : List Int) (a2 : Int) (a3 : Int) (r : Bool) (w : World) (hr0_2 : Kd.C k82 w A0_2 l0_2.length l0_2) (hc0_2 : l0_2.length ≤ c0_2) (hr0_3 : Kd.C (Kd.int .i64) w A0_3 l0_3.length l0_3) (hc0_3 : l0_3.length ≤ c0_3) (hr1 : Kd.C (Kd.int .i64) w A1 l1.length l1) (hc1 : l1.length ≤ c1) (h : glisterlaw04_CipherKnown.f k a0_0 a0_1 l0_2 l0_3 l1 a2 a3 = some r) :
  Calls Try.prog 13 #[.agg #[.int .i64 a0_0, .int .i64 a0_1, .slice A0_2 l0_2.length c0_2, .slice A0_3 l0_3.length c0_3], .slice A1 l1.length c1, .int .u8 a2, .int .u16 a3] w fun e w' => e = .returned (.bool r) ∧ Below w.heap.size w w' := by
 have hu25 := Try.underlying25
 have hu82 := Try.underlying82
 have HR0_2 := Sd.mk hr0_2
 have HC0_2 := Sd.mk hc0_2
 clear hr0_2 hc0_2
 have HR0_3 := Sd.mk hr0_3
 have HC0_3 := Sd.mk hc0_3
 clear hr0_3 hc0_3
 have HR1 := Sd.mk hr1
 have HC1 := Sd.mk hc1
 clear hr1 hc1
 have HB := Sd.mk (Below.refl w.heap.size w)
 have H : ((glisterlaw04_ready.f k a0_0 a0_1 l0_2 l0_3 l1).bind fun t811 => (if t811 = true then (if (l0_2.length : Int) = 0 then (none) else (if 0 ≤ (Int.tmod (wrap64 (a2)) (l0_2.length : Int)) then (if (Int.tmod (wrap64 (a2)) (l0_2.length : Int)) < (l0_2.length : Int) then ((glisterlaw04_Guessed.f k a0_0 a0_1 l0_2 l0_3 ((rd_T82 l0_2 (Int.tmod (wrap64 (a2)) (l0_2.length : Int))).f0) ((rd_T82 l0_2 (Int.tmod (wrap64 (a2)) (l0_2.length : Int))).f1) ((rd_T82 l0_2 (Int.tmod (wrap64 (a2)) (l0_2.length : Int))).f2) l1 a3).bind fun bt814 => ((glisterlaw04_Book.f k a0_0 a0_1 l0_2 l0_3).bind fun bt820 => ((glisterlaw04_list.f bt814.1).bind fun t828 => ((glisterlaw04_Guesses.f k bt814.2).bind fun t831 => ((cipher_Fits.f bt820.1 bt820.2.1 bt820.2.2.1 bt820.2.2.2 t828 t831).bind fun bt834 => (if bt834.2 = 0 then (glisterlaw04_CipherKnown.j0 k l1 bt814.1 bt814.2 bt834.1 (decide (bt834.1 < 1)) a0_0 a0_1 l0_2 l0_3) else (glisterlaw04_CipherKnown.j0 k l1 bt814.1 bt814.2 bt834.1 true a0_0 a0_1 l0_2 l0_3))))))) else (none)) else (none))) else ((glisterlaw04_awake.f).bind fun t812 => (some t812)))) = some r := h
 clear h
 obtain ⟨t811, A50, H⟩ := Option.bind_eq_some_iff.mp H
 have A5 := Sd.mk A50
 clear A50
 by_cases c6 : t811 = true
 ·subst c6
  rw [if_pos rfl] at H
  by_cases c7 : (l0_2.length : Int) = 0
  ·rw [if_pos c7] at H
   exact absurd H (by simp)
  ·rw [if_neg c7] at H
   have c7b0 : ((l0_2.length : Int) == 0) = false := beq_eq_false_iff_ne.mpr c7
   have c7b1 : ((l0_2.length : Int) != 0) = true := bne_iff_ne.mpr c7
   have c7b2 : ¬ (l0_2 = []) := fun h_ => c7 (by rw [h_]; rfl)
   obtain ⟨ji8, hji8⟩ : ∃ j_ : Int, (Int.tmod (wrap64 (a2)) (l0_2.length : Int)) = j_ := ⟨_, rfl⟩
   replace H : (if 0 ≤ (ji8) then (if (ji8) < (l0_2.length : Int) then ((glisterlaw04_Guessed.f k a0_0 a0_1 l0_2 l0_3 ((rd_T82 l0_2 (ji8)).f0) ((rd_T82 l0_2 (ji8)).f1) ((rd_T82 l0_2 (ji8)).f2) l1 a3).bind fun bt814 => ((glisterlaw04_Book.f k a0_0 a0_1 l0_2 l0_3).bind fun bt820 => ((glisterlaw04_list.f bt814.1).bind fun t828 => ((glisterlaw04_Guesses.f k bt814.2).bind fun t831 => ((cipher_Fits.f bt820.1 bt820.2.1 bt820.2.2.1 bt820.2.2.2 t828 t831).bind fun bt834 => (if bt834.2 = 0 then (glisterlaw04_CipherKnown.j0 k l1 bt814.1 bt814.2 bt834.1 (decide (bt834.1 < 1)) a0_0 a0_1 l0_2 l0_3) else (glisterlaw04_CipherKnown.j0 k l1 bt814.1 bt814.2 bt834.1 true a0_0 a0_1 l0_2 l0_3))))))) else (none)) else (none)) = some r := by first | (rw [hji8] at H; exact H) 
   by_cases c9 : 0 ≤ (ji8)
   ·rw [if_pos c9] at H
    have c9b0 : decide (0 ≤ (ji8)) = true := decide_eq_true c9
    clear c9
    by_cases c10 : (ji8) < (l0_2.length : Int)
    ·rw [if_pos c10] at H
     have c10b0 : decide ((ji8) < (l0_2.length : Int)) = true := decide_eq_true c10
     clear c10
     replace H := Option.bind_eq_some_iff.mp H
     obtain ⟨⟨t814, t817⟩, A110, H⟩ := H
     replace H : ((glisterlaw04_Book.f k a0_0 a0_1 l0_2 l0_3).bind fun bt820 => ((glisterlaw04_list.f t814).bind fun t828 => ((glisterlaw04_Guesses.f k t817).bind fun t831 => ((cipher_Fits.f bt820.1 bt820.2.1 bt820.2.2.1 bt820.2.2.2 t828 t831).bind fun bt834 => (if bt834.2 = 0 then (glisterlaw04_CipherKnown.j0 k l1 t814 t817 bt834.1 (decide (bt834.1 < 1)) a0_0 a0_1 l0_2 l0_3) else (glisterlaw04_CipherKnown.j0 k l1 t814 t817 bt834.1 true a0_0 a0_1 l0_2 l0_3)))))) = some r := H
     have A11 := Sd.mk A110
     clear A110
     replace H := Option.bind_eq_some_iff.mp H
     obtain ⟨⟨t820, t821, t822, t825⟩, A120, H⟩ := H
     replace H : ((glisterlaw04_list.f t814).bind fun t828 => ((glisterlaw04_Guesses.f k t817).bind fun t831 => ((cipher_Fits.f t820 t821 t822 t825 t828 t831).bind fun bt834 => (if bt834.2 = 0 then (glisterlaw04_CipherKnown.j0 k l1 t814 t817 bt834.1 (decide (bt834.1 < 1)) a0_0 a0_1 l0_2 l0_3) else (glisterlaw04_CipherKnown.j0 k l1 t814 t817 bt834.1 true a0_0 a0_1 l0_2 l0_3))))) = some r := H
     have A12 := Sd.mk A120
     clear A120
     obtain ⟨t828, A130, H⟩ := Option.bind_eq_some_iff.mp H
     have A13 := Sd.mk A130
     clear A130
     obtain ⟨t831, A140, H⟩ := Option.bind_eq_some_iff.mp H
     have A14 := Sd.mk A140
     clear A140
     replace H := Option.bind_eq_some_iff.mp H
     obtain ⟨⟨t834, t835⟩, A150, H⟩ := H
     replace H : (if t835 = 0 then (glisterlaw04_CipherKnown.j0 k l1 t814 t817 t834 (decide (t834 < 1)) a0_0 a0_1 l0_2 l0_3) else (glisterlaw04_CipherKnown.j0 k l1 t814 t817 t834 true a0_0 a0_1 l0_2 l0_3)) = some r := H
     have A15 := Sd.mk A150
     clear A150
     have HC16 := Sd.mk H
     clear H
     go_enter Try.func13, Try.ntmps13
     try go_wp2_with (first | ((with_reducible refine gD (N := 4) rfl ?_); (try (refine gG (by rfl) ?_; dsimp only)); refine xE ?hg (N := 4) ?hd (cs := #[.int .i64 a0_0, .int .i64 a0_1, .slice A0_2 l0_2.length c0_2, .slice A0_3 l0_3.length c0_3]) (t := 25) ?hr ?_; (case hd => rfl); (case hg => rfl); (case hr => first | (go_simp; done) ); intro gb810 hg w17 hbox hb; have BK810 := Sd.mk (hbox); have GW810 := Sd.mk ((by rw [hg]; exact (bZ (by repeat (first | (with_reducible first | exact HB.1 ) ))) : w.heap.size ≤ gb810)); have GE810 := Sd.mk ((by rw [hg]; exact (bZ (by repeat (first | (with_reducible first | exact HB.1 ) ))) : w.heap.size ≤ gb810)); replace HB := Sd.mk (bT (by repeat (first | (with_reducible first | exact HB.1 ) )) hb); clear hb hbox hg; have z_18_0 : w17.cell? ⟨gb810, 0, none⟩ = some (.int .i64 a0_0) := (kC BK810.1 0).trans rfl; have z_18_1 : w17.cell? ⟨gb810, 1, none⟩ = some (.int .i64 a0_1) := (kC BK810.1 1).trans rfl; have z_18_2 : w17.cell? ⟨gb810, 2, none⟩ = some (.slice A0_2 l0_2.length c0_2) := (kC BK810.1 2).trans rfl; have z_18_3 : w17.cell? ⟨gb810, 3, none⟩ = some (.slice A0_3 l0_3.length c0_3) := (kC BK810.1 3).trans rfl) | ((with_reducible refine gate_callee (f := 33) rfl ?_); refine goesL_ (some 19) rfl rfl Try.func33 (by kernel_rfl) rfl #[.agg #[.int .i64 a0_0, .int .i64 a0_1, .slice A0_2 l0_2.length c0_2, .slice A0_3 l0_3.length c0_3], .slice A1 l1.length c1] rfl (by (try simp only [List.map_toArray, List.map_cons, List.map_nil]); first | rfl ) ?_; (with_reducible refine (glisterlaw04_ready.calls k a0_0 a0_1 _ _ l0_2 _ _ l0_3 _ _ l1 true _ ?side1 ?side2 ?side3 ?side4 ?side5 ?side6 A5.1).mono ?_); (case side1 => repeat (first | exact (Kd.C_below HR0_2.1 HB.1) )); (case side2 => exact HC0_2.1); (case side3 => repeat (first | exact (Kd.C_below HR0_3.1 HB.1) )); (case side4 => exact HC0_3.1); (case side5 => repeat (first | exact (Kd.C_below HR1.1 HB.1) )); (case side6 => exact HC1.1); rintro e w19 ⟨rfl, hb⟩; refine ⟨_, rfl, ?_⟩; replace BK810 := Sd.mk (kB (g := gb810) (o := .cells #[.int .i64 a0_0, .int .i64 a0_1, .slice A0_2 l0_2.length c0_2, .slice A0_3 l0_3.length c0_3] 25 (0, 0)) (by (with_reducible repeat (fail)); exact BK810.1) hb); replace HB := Sd.mk (bT (by repeat (first | (with_reducible first | exact HB.1 ) )) hb); (try clear hb)))
     have n0_ := Sd.mk (kD BK810.1)
     have n1_ := Sd.mk (bD HB.1)
     clear BK810
     clear HB
     have BK810 := n0_
     have HB := n1_
     clear n0_ n1_
     have p813 : 0 ≤ ((ji8) : Int) := of_decide_eq_true (by first | (with_reducible assumption) )
     have q813 : (ji8) < (l0_2.length : Int) := of_decide_eq_true (by first | (with_reducible assumption) )
     obtain ⟨ad813, e813, hx813_0, hx813_1, hx813_2⟩ := at_T82 HR0_2.1 (ji8) p813 q813
     have hw813_2 := hx813_2
     have hw813_1 := hx813_1
     have hw813_0 := hx813_0
     cases e813
     replace hx813_0 := (HB.1.cell (World.block_lt_of_cell? w _ hx813_0)).trans hx813_0
     replace hx813_1 := (HB.1.cell (World.block_lt_of_cell? w _ hx813_1)).trans hx813_1
     replace hx813_2 := (HB.1.cell (World.block_lt_of_cell? w _ hx813_2)).trans hx813_2
     replace p813 := eq_true p813
     replace q813 := eq_true q813
     refine start_ (n := 19) (S := fun w' => w'.cell? ⟨gb810, 0, none⟩ = some (.int .i64 a0_0) ∧ w'.cell? ⟨gb810, 1, none⟩ = some (.int .i64 a0_1) ∧ w'.cell? ⟨gb810, 2, none⟩ = some (.slice (some ad813) l0_2.length c0_2) ∧ w'.cell? ⟨gb810, 3, none⟩ = some (.slice A0_3 l0_3.length c0_3) ∧ w'.cell? (ad813.add (((ji8)).toNat * 3)) = some (.int .i64 ((rd_T82 l0_2 (ji8)).f0)) ∧ w'.cell? ⟨(ad813.add (((ji8)).toNat * 3)).block, (ad813.add (((ji8)).toNat * 3)).off + 1, none⟩ = some (.int .i64 ((rd_T82 l0_2 (ji8)).f1)) ∧ w'.cell? ⟨(ad813.add (((ji8)).toNat * 3)).block, (ad813.add (((ji8)).toNat * 3)).off + 2, none⟩ = some (.int .i64 ((rd_T82 l0_2 (ji8)).f2))) (ds := []) #[false, false, false, false, false, false, false, false, false, false, false, false, false, false, false, false, false, false, false] (by kernel_rfl) rfl rfl ⟨(kC BK810.1 0).trans rfl, (kC BK810.1 1).trans rfl, (kC BK810.1 2).trans rfl, (kC BK810.1 3).trans rfl, ((HB.1.cell (World.block_lt_of_cell? w _ hw813_0)).trans hw813_0), ((HB.1.cell (World.block_lt_of_cell? w _ hw813_1)).trans hw813_1), ((HB.1.cell (World.block_lt_of_cell? w _ hw813_2)).trans hw813_2)⟩ (fun hHeld => ?_); refine with_tabW glisterlaw04_CipherKnown.tab3 glisterlaw04_CipherKnown.bits3 (fun HT_ HW_ => ?_)
     generalize w19.drew = w20 at BK810 HB hx813_0 hx813_1 hx813_2 hHeld ⊢
     refine pure_ (i := 1) (N := some 24) (v := ?_) (a' := ?_) #[false, true, false, false, false, false, false, false, false, false, false, false, false, false, false, false, false, false, false] rfl rfl (any_of HT_.1 (by kernel_rfl)) (fun _ _ _ h => h) (Or.inl ⟨by rfl, ?_⟩) ?_ ?_
     rotate_left
     ·intro w'
      go_simp
      with_reducible rfl
     rotate_left
     ·simp only [Act.put, List.setIfInBounds_toArray, List.set_cons_zero, List.set_cons_succ, i64_w, i32_w]
      rfl
     refine pure_ (i := 3) (N := some 26) (v := ?_) (a' := ?_) #[false, true, false, true, false, false, false, false, false, false, false, false, false, false, false, false, false, false, false] rfl rfl (any_of HT_.1 (by kernel_rfl)) (fun _ _ _ h => h) (Or.inl ⟨by rfl, ?_⟩) ?_ ?_
     rotate_left
     ·intro w'
      go_simp
      with_reducible rfl
     rotate_left
     ·simp only [Act.put, List.setIfInBounds_toArray, List.set_cons_zero, List.set_cons_succ, i64_w, i32_w]
      rfl
     refine pure_ (i := 4) (N := some 27) (v := ?_) (a' := ?_) #[false, true, false, true, true, false, false, false, false, false, false, false, false, false, false, false, false, false, false] rfl rfl (any_of HT_.1 (by kernel_rfl)) (fun _ _ _ h => h) (Or.inl ⟨by rfl, ?_⟩) ?_ ?_
     rotate_left
     ·intro w'
      go_simp
      with_reducible rfl
     rotate_left
     ·simp only [Act.put, List.setIfInBounds_toArray, List.set_cons_zero, List.set_cons_succ, i64_w, i32_w]
      rfl
     refine pure_ (i := 5) (N := some 28) (v := ?_) (a' := ?_) #[false, true, false, true, true, true, false, false, false, false, false, false, false, false, false, false, false, false, false] rfl rfl (any_of HT_.1 (by kernel_rfl)) (fun _ _ _ h => h) (Or.inl ⟨by rfl, ?_⟩) ?_ ?_
     rotate_left
     ·intro w'
      go_simp
      with_reducible rfl
     rotate_left
     ·simp only [Act.put, List.setIfInBounds_toArray, List.set_cons_zero, List.set_cons_succ, i64_w, i32_w]
      rfl
     refine pure_ (i := 11) (N := some 34) (v := ?_) (a' := ?_) #[false, true, false, true, true, true, false, false, false, false, false, true, false, false, false, false, false, false, false] rfl rfl (any_of HT_.1 (by kernel_rfl)) (fun _ _ _ h => h) (Or.inl ⟨by rfl, ?_⟩) ?_ ?_
     rotate_left
     ·intro w'
      go_simp
      with_reducible rfl
     rotate_left
     ·simp only [Act.put, List.setIfInBounds_toArray, List.set_cons_zero, List.set_cons_succ, i64_w, i32_w]
      rfl
     refine pure_ (i := 12) (N := some 35) (v := ?_) (a' := ?_) #[false, true, false, true, true, true, false, false, false, false, false, true, true, false, false, false, false, false, false] rfl rfl (any_of HT_.1 (by kernel_rfl)) (fun _ _ _ h => h) (Or.inl ⟨by rfl, ?_⟩) ?_ ?_
     rotate_left
     ·intro w'
      go_simp
      with_reducible rfl
     rotate_left
     ·simp only [Act.put, List.setIfInBounds_toArray, List.set_cons_zero, List.set_cons_succ, i64_w, i32_w]
      rfl
     refine take_ (i := 0) (N := some 23) (v := ?_) (a' := ?_) #[true, true, false, true, true, true, false, false, false, false, false, true, true, false, false, false, false, false, false] rfl rfl (take_ofW HT_.1 HW_.1 (by kernel_rfl)) (fun _ _ _ h => h) (Or.inl ⟨by rfl, ?_⟩) hHeld ?_ ?_
     rotate_left
     ·rintro w' ⟨s0, s1, s2, s3, s4, s5, s6⟩
      go_simp
      with_reducible rfl
     rotate_left
     ·simp only [Act.put, List.setIfInBounds_toArray, List.set_cons_zero, List.set_cons_succ, i64_w, i32_w]
      rfl
     refine take_ (i := 2) (N := some 25) (v := ?_) (a' := ?_) #[true, true, true, true, true, true, false, false, false, false, false, true, true, false, false, false, false, false, false] rfl rfl (take_ofW HT_.1 HW_.1 (by kernel_rfl)) (fun _ _ _ h => h) (Or.inl ⟨by rfl, ?_⟩) hHeld ?_ ?_
     rotate_left
     ·rintro w' ⟨s0, s1, s2, s3, s4, s5, s6⟩
      go_simp
      with_reducible rfl
     rotate_left
     ·simp only [Act.put, List.setIfInBounds_toArray, List.set_cons_zero, List.set_cons_succ, i64_w, i32_w]
      rfl
     refine take_ (i := 6) (N := some 29) (v := ?_) (a' := ?_) #[true, true, true, true, true, true, true, false, false, false, false, true, true, false, false, false, false, false, false] rfl rfl (take_ofW HT_.1 HW_.1 (by kernel_rfl)) (fun _ _ _ h => h) (Or.inl ⟨by rfl, ?_⟩) hHeld ?_ ?_
     rotate_left
     ·rintro w' ⟨s0, s1, s2, s3, s4, s5, s6⟩
      go_simp
      with_reducible rfl
     rotate_left
     ·simp only [Act.put, List.setIfInBounds_toArray, List.set_cons_zero, List.set_cons_succ, i64_w, i32_w]
      rfl
     refine pure_ (i := 7) (N := some 30) (v := ?_) (a' := ?_) #[true, true, true, true, true, true, true, true, false, false, false, true, true, false, false, false, false, false, false] rfl rfl (any_of HT_.1 (by kernel_rfl)) (fun _ _ _ h => h) (Or.inl ⟨by rfl, ?_⟩) ?_ ?_
     rotate_left
     ·intro w'
      go_simp
      with_reducible rfl
     rotate_left
     ·simp only [Act.put, List.setIfInBounds_toArray, List.set_cons_zero, List.set_cons_succ, i64_w, i32_w]
      rfl
     refine pure_ (i := 8) (N := some 31) (v := ?_) (a' := ?_) #[true, true, true, true, true, true, true, true, true, false, false, true, true, false, false, false, false, false, false] rfl rfl (any_of HT_.1 (by kernel_rfl)) (fun _ _ _ h => h) (Or.inl ⟨by rfl, ?_⟩) ?_ ?_
     rotate_left
     ·intro w'
      go_simp
      with_reducible rfl
     rotate_left
     ·simp only [Act.put, List.setIfInBounds_toArray, List.set_cons_zero, List.set_cons_succ, i64_w, i32_w]
      rfl
     refine pure_ (i := 9) (N := some 32) (v := ?_) (a' := ?_) #[true, true, true, true, true, true, true, true, true, true, false, true, true, false, false, false, false, false, false] rfl rfl (any_of HT_.1 (by kernel_rfl)) (fun _ _ _ h => h) (Or.inl ⟨by rfl, ?_⟩) ?_ ?_
     rotate_left
     ·intro w'
      go_simp
      with_reducible rfl
     rotate_left
     ·simp only [Act.put, List.setIfInBounds_toArray, List.set_cons_zero, List.set_cons_succ, i64_w, i32_w]
      rfl
     refine take_ (i := 10) (N := some 33) (v := ?_) (a' := ?_) #[true, true, true, true, true, true, true, true, true, true, true, true, true, false, false, false, false, false, false] rfl rfl (take_ofW HT_.1 HW_.1 (by kernel_rfl)) (fun _ _ _ h => h) (Or.inl ⟨by rfl, ?_⟩) hHeld ?_ ?_
     rotate_left
     ·rintro w' ⟨s0, s1, s2, s3, s4, s5, s6⟩
      go_simp
      with_reducible rfl
     rotate_left
     ·simp only [Act.put, List.setIfInBounds_toArray, List.set_cons_zero, List.set_cons_succ, i64_w, i32_w]
      rfl
     refine one_ (i := 13) (N := some 36) #[true, true, true, true, true, true, true, true, true, true, true, true, true, true, false, false, false, false, false] rfl rfl (one_of HT_.1 (by kernel_rfl)) (by decide) (fun K hK => ?_)
     refine goes_ Try.func45 (by kernel_rfl) rfl #[.agg #[.int .i64 a0_0, .int .i64 a0_1, .slice (some ad813) l0_2.length c0_2, .slice A0_3 l0_3.length c0_3], .agg #[.int .i64 ((rd_T82 l0_2 (ji8)).f0), .int .i64 ((rd_T82 l0_2 (ji8)).f1), .int .i64 ((rd_T82 l0_2 (ji8)).f2)], .slice A1 l1.length c1, .int .u16 a3] (by rfl) rfl rfl (by (try simp only [List.map_toArray, List.map_cons, List.map_nil]); first | rfl ) ?_
     with_reducible refine (glisterlaw04_Guessed.calls k a0_0 a0_1 _ _ l0_2 _ _ l0_3 ((rd_T82 l0_2 (ji8)).f0) ((rd_T82 l0_2 (ji8)).f1) ((rd_T82 l0_2 (ji8)).f2) _ _ l1 a3 t814 t817 _ ?side1 ?side2 ?side3 ?side4 ?side5 ?side6 A11.1).mono ?_
     (case side1 => repeat (first | exact (Kd.C_below HR0_2.1 HB.1) ))
     (case side2 => exact HC0_2.1)
     (case side3 => repeat (first | exact (Kd.C_below HR0_3.1 HB.1) ))
     (case side4 => exact HC0_3.1)
     (case side5 => repeat (first | exact (Kd.C_below HR1.1 HB.1) ))
     (case side6 => exact HC1.1)
     rintro e w21 ⟨v815, v818, rfl, ho0, ho1, hb⟩
     refine ⟨_, rfl, ?_⟩
     have n0_ := Sd.mk (Kd.R_lower ho0 (bZ (by repeat (first | (with_reducible first | exact HB.1 ) ))))
     have n1_ := Sd.mk (Kd.R_lower ho1 (bZ (by repeat (first | (with_reducible first | exact HB.1 ) ))))
     have n2_ := Sd.mk (kB (g := gb810) (o := .cells #[.int .i64 a0_0, .int .i64 a0_1, .slice (some ad813) l0_2.length c0_2, .slice A0_3 l0_3.length c0_3] 25 (0, 0)) (by (with_reducible repeat (fail)); exact BK810.1) hb)
     have n3_ := Sd.mk (bT (by repeat (first | (with_reducible first | exact HB.1 ) )) hb)
     clear BK810
     clear HB
     have HO816 := n0_
     have HO819 := n1_
     have BK810 := n2_
     have HB := n3_
     clear n0_ n1_ n2_ n3_
     (try clear hb)
     (try clear ho0)
     (try clear ho1)
     refine hK.out _ _ ⟨(kC BK810.1 0).trans rfl, (kC BK810.1 1).trans rfl, (kC BK810.1 2).trans rfl, (kC BK810.1 3).trans rfl, ((HB.1.cell (World.block_lt_of_cell? w _ hw813_0)).trans hw813_0), ((HB.1.cell (World.block_lt_of_cell? w _ hw813_1)).trans hw813_1), ((HB.1.cell (World.block_lt_of_cell? w _ hw813_2)).trans hw813_2)⟩ (fun hHeld => ?_)
     clear hK K
     refine norm_ (a' := ?_) ?_ ?_
     rotate_left
     ·show Act.put _ (some 36) _ = _
      simp only [Act.put, List.setIfInBounds_toArray, List.set_cons_zero, List.set_cons_succ, i64_w, i32_w]
      rfl
     refine pure_ (i := 14) (N := some 22) (v := ?_) (a' := ?_) #[true, true, true, true, true, true, true, true, true, true, true, true, true, true, true, false, false, false, false] rfl rfl (any_of HT_.1 (by kernel_rfl)) (fun _ _ _ h => h) (Or.inl ⟨by rfl, ?_⟩) ?_ ?_
     rotate_left
     ·intro w'
      go_simp
      with_reducible rfl
     rotate_left
     ·simp only [Act.put, List.setIfInBounds_toArray, List.set_cons_zero, List.set_cons_succ, i64_w, i32_w]
      rfl
     refine pure_ (i := 15) (N := some 37) (v := ?_) (a' := ?_) #[true, true, true, true, true, true, true, true, true, true, true, true, true, true, true, true, false, false, false] rfl rfl (any_of HT_.1 (by kernel_rfl)) (fun _ _ _ h => h) (Or.inl ⟨by rfl, ?_⟩) ?_ ?_
     rotate_left
     ·intro w'
      go_simp
      with_reducible rfl
     rotate_left
     ·simp only [Act.put, List.setIfInBounds_toArray, List.set_cons_zero, List.set_cons_succ, i64_w, i32_w]
      rfl
     refine pure_ (i := 16) (N := some 38) (v := ?_) (a' := ?_) #[true, true, true, true, true, true, true, true, true, true, true, true, true, true, true, true, true, false, false] rfl rfl (any_of HT_.1 (by kernel_rfl)) (fun _ _ _ h => h) (Or.inl ⟨by rfl, ?_⟩) ?_ ?_
     rotate_left
     ·intro w'
      go_simp
      with_reducible rfl
     rotate_left
     ·simp only [Act.put, List.setIfInBounds_toArray, List.set_cons_zero, List.set_cons_succ, i64_w, i32_w]
      rfl
     refine pure_ (i := 17) (N := some 9) (v := ?_) (a' := ?_) #[true, true, true, true, true, true, true, true, true, true, true, true, true, true, true, true, true, true, false] rfl rfl (any_of HT_.1 (by kernel_rfl)) (fun _ _ _ h => h) (Or.inl ⟨by rfl, ?_⟩) ?_ ?_
     rotate_left
     ·intro w'
      go_simp
      with_reducible rfl
     rotate_left
     ·simp only [Act.put, List.setIfInBounds_toArray, List.set_cons_zero, List.set_cons_succ, i64_w, i32_w]
      rfl
     refine pure_ (i := 18) (N := some 10) (v := ?_) (a' := ?_) #[true, true, true, true, true, true, true, true, true, true, true, true, true, true, true, true, true, true, true] rfl rfl (any_of HT_.1 (by kernel_rfl)) (fun _ _ _ h => h) (Or.inl ⟨by rfl, ?_⟩) ?_ ?_
     rotate_left
     ·intro w'
      go_simp
      with_reducible rfl
     rotate_left
     ·simp only [Act.put, List.setIfInBounds_toArray, List.set_cons_zero, List.set_cons_succ, i64_w, i32_w]
      rfl
     refine done_ (done_of HT_.1 (by kernel_rfl)) ?_
     go_upto_region 5 with (first | ((with_reducible refine gate_callee (f := 19) rfl ?_); refine goesL_ (some 41) rfl rfl Try.func19 (by kernel_rfl) rfl #[.agg #[.int .i64 a0_0, .int .i64 a0_1, .slice (some ad813) l0_2.length c0_2, .slice A0_3 l0_3.length c0_3]] rfl (by (try simp only [List.map_toArray, List.map_cons, List.map_nil]); first | rfl ) ?_; (with_reducible refine (glisterlaw04_Book.calls k a0_0 a0_1 _ _ l0_2 _ _ l0_3 t820 t821 t822 t825 _ ?side1 ?side2 ?side3 ?side4 A12.1).mono ?_); (case side1 => repeat (first | exact (Kd.C_below HR0_2.1 HB.1) )); (case side2 => exact HC0_2.1); (case side3 => repeat (first | exact (Kd.C_below HR0_3.1 HB.1) )); (case side4 => exact HC0_3.1); rintro e w23 ⟨v823, v826, rfl, ho0, ho1, hb⟩; refine ⟨_, rfl, ?_⟩; replace HO819 := Sd.mk (Kd.R_below (by (with_reducible repeat (fail)); exact HO819.1) hb); have HO824 := Sd.mk (Kd.R_lower ho0 (bZ (by repeat (first | (with_reducible first | exact HB.1 ) )))); have HO827 := Sd.mk (Kd.R_lower (Kd.R_new' ho1 (Kd.R_lt (by (with_reducible repeat (fail)); exact HO816.1))) (bZ (by repeat (first | (with_reducible first | exact HB.1 ) )))); replace HO816 := Sd.mk (Kd.R_elder' (by (with_reducible repeat (fail)); exact HO816.1) (Kd.R_base ho1) hb); replace BK810 := Sd.mk (kB (g := gb810) (o := .cells #[.int .i64 a0_0, .int .i64 a0_1, .slice (some ad813) l0_2.length c0_2, .slice A0_3 l0_3.length c0_3] 25 (0, 0)) (by (with_reducible repeat (fail)); exact BK810.1) hb); replace HB := Sd.mk (bT (by repeat (first | (with_reducible first | exact HB.1 ) )) hb); (try clear hb); (try clear ho0); (try clear ho1); obtain ⟨Ao24, co24, eo24⟩ := Kd.R_slice HO816.1; subst eo24) | ((with_reducible refine gate_callee (f := 21) rfl ?_); refine goesL_ (some 43) rfl rfl Try.func21 (by kernel_rfl) rfl #[.slice Ao24 t814.length co24] rfl (by (try simp only [List.map_toArray, List.map_cons, List.map_nil]); first | rfl ) ?_; (with_reducible refine (glisterlaw04_list.calls _ _ t814 t828 _ ?side1 ?side2 A13.1).mono ?_); (case side1 => repeat (first | exact (Kd.R_reads' HO816.1).2.2 )); (case side2 => exact (Kd.R_reads' HO816.1).2.1); rintro e w25 ⟨v829, rfl, ho0, hb⟩; refine ⟨_, rfl, ?_⟩; replace HO819 := Sd.mk (Kd.R_below (by (with_reducible repeat (fail)); exact HO819.1) hb); replace HO824 := Sd.mk (Kd.R_below (by (with_reducible repeat (fail)); exact HO824.1) hb); have HO830 := Sd.mk (Kd.R_lower (Kd.R_new' (Kd.R_new' ho0 (Kd.R_lt (by (with_reducible repeat (fail)); exact HO816.1))) (Kd.R_lt (by (with_reducible repeat (fail)); exact HO827.1))) (bZ (by repeat (first | (with_reducible first | exact HB.1 ) )))); replace HO816 := Sd.mk (Kd.R_elder' (by (with_reducible repeat (fail)); exact HO816.1) (Kd.R_base ho0) hb); replace HO827 := Sd.mk (Kd.R_elder' (by (with_reducible repeat (fail)); exact HO827.1) (Kd.R_base ho0) hb); replace BK810 := Sd.mk (kB (g := gb810) (o := .cells #[.int .i64 a0_0, .int .i64 a0_1, .slice (some ad813) l0_2.length c0_2, .slice A0_3 l0_3.length c0_3] 25 (0, 0)) (by (with_reducible repeat (fail)); exact BK810.1) hb); replace HB := Sd.mk (bT (by repeat (first | (with_reducible first | exact HB.1 ) )) hb); (try clear hb); (try clear ho0); obtain ⟨Ao26, co26, eo26⟩ := Kd.R_slice HO819.1; subst eo26) | ((with_reducible refine gate_callee (f := 41) rfl ?_); refine goesL_ (some 45) rfl rfl Try.func41 (by kernel_rfl) rfl #[.slice Ao26 t817.length co26] rfl (by (try simp only [List.map_toArray, List.map_cons, List.map_nil]); first | rfl ) ?_; (with_reducible refine (glisterlaw04_Guesses.calls k _ _ t817 t831 _ ?side1 ?side2 A14.1).mono ?_); (case side1 => repeat (first | exact (Kd.R_reads' HO819.1).2.2 )); (case side2 => exact (Kd.R_reads' HO819.1).2.1); rintro e w27 ⟨v832, rfl, ho0, hb⟩; refine ⟨_, rfl, ?_⟩; replace HO816 := Sd.mk (Kd.R_below (by (with_reducible repeat (fail)); exact HO816.1) hb); replace HO819 := Sd.mk (Kd.R_below (by (with_reducible repeat (fail)); exact HO819.1) hb); replace HO824 := Sd.mk (Kd.R_below (by (with_reducible repeat (fail)); exact HO824.1) hb); replace HO827 := Sd.mk (Kd.R_below (by (with_reducible repeat (fail)); exact HO827.1) hb); replace HO830 := Sd.mk (Kd.R_below (by (with_reducible repeat (fail)); exact HO830.1) hb); have HO833 := Sd.mk (Kd.R_lower ho0 (bZ (by repeat (first | (with_reducible first | exact HB.1 ) )))); replace BK810 := Sd.mk (kB (g := gb810) (o := .cells #[.int .i64 a0_0, .int .i64 a0_1, .slice (some ad813) l0_2.length c0_2, .slice A0_3 l0_3.length c0_3] 25 (0, 0)) (by (with_reducible repeat (fail)); exact BK810.1) hb); replace HB := Sd.mk (bT (by repeat (first | (with_reducible first | exact HB.1 ) )) hb); (try clear hb); (try clear ho0); obtain ⟨Ao28, co28, eo28⟩ := Kd.R_slice HO824.1; subst eo28; obtain ⟨Ao29, co29, eo29⟩ := Kd.R_slice HO827.1; subst eo29; obtain ⟨Ao30, co30, eo30⟩ := Kd.R_slice HO830.1; subst eo30; obtain ⟨Ao31, co31, eo31⟩ := Kd.R_slice HO833.1; subst eo31) | ((with_reducible refine gate_callee (f := 40) rfl ?_); refine goesL_ (some 46) rfl rfl Try.func40 (by kernel_rfl) rfl #[.agg #[.int .i64 t820, .int .i64 t821, .slice Ao28 t822.length co28, .slice Ao29 t825.length co29], .slice Ao30 t828.length co30, .slice Ao31 t831.length co31] rfl (by (try simp only [List.map_toArray, List.map_cons, List.map_nil]); first | rfl ) ?_; (with_reducible refine (cipher_Fits.calls t820 t821 _ _ t822 _ _ t825 _ _ t828 _ _ t831 t834 t835 _ ?side1 ?side2 ?side3 ?side4 ?side5 ?side6 ?side7 ?side8 A15.1).mono ?_); (case side1 => repeat (first | exact (Kd.R_reads' HO824.1).2.2 )); (case side2 => exact (Kd.R_reads' HO824.1).2.1); (case side3 => repeat (first | exact (Kd.R_reads' HO827.1).2.2 )); (case side4 => exact (Kd.R_reads' HO827.1).2.1); (case side5 => repeat (first | exact (Kd.R_reads' HO830.1).2.2 )); (case side6 => exact (Kd.R_reads' HO830.1).2.1); (case side7 => repeat (first | exact (Kd.R_reads' HO833.1).2.2 )); (case side8 => exact (Kd.R_reads' HO833.1).2.1); rintro e w32 ⟨rfl, hb⟩; refine ⟨_, rfl, ?_⟩; replace HO816 := Sd.mk (Kd.R_below (by (with_reducible repeat (fail)); exact HO816.1) hb); replace HO819 := Sd.mk (Kd.R_below (by (with_reducible repeat (fail)); exact HO819.1) hb); replace HO824 := Sd.mk (Kd.R_below (by (with_reducible repeat (fail)); exact HO824.1) hb); replace HO827 := Sd.mk (Kd.R_below (by (with_reducible repeat (fail)); exact HO827.1) hb); replace HO830 := Sd.mk (Kd.R_below (by (with_reducible repeat (fail)); exact HO830.1) hb); replace HO833 := Sd.mk (Kd.R_below (by (with_reducible repeat (fail)); exact HO833.1) hb); replace BK810 := Sd.mk (kB (g := gb810) (o := .cells #[.int .i64 a0_0, .int .i64 a0_1, .slice (some ad813) l0_2.length c0_2, .slice A0_3 l0_3.length c0_3] 25 (0, 0)) (by (with_reducible repeat (fail)); exact BK810.1) hb); replace HB := Sd.mk (bT (by repeat (first | (with_reducible first | exact HB.1 ) )) hb); (try clear hb)))
     go_cut [54] (fun v54 wc => ∃ (kq : Nat) (x54_15 : Bool), v54 = .bool x54_15 ∧ Sd (glisterlaw04_CipherKnown.j0 kq l1 t814 t817 t834 x54_15 a0_0 a0_1 l0_2 l0_3 = some r) ∧ Sd (kq ≤ k) ∧ Sd (Kd.R (Kd.int .i64) 3 wc w.heap.size (fun _ => True) (.slice Ao24 t814.length co24) t814) ∧ Sd (Kd.R k85 85 wc w.heap.size (fun _ => True) (.slice Ao26 t817.length co26) t817) ∧ Sd (wc.heap[gb810]? = some (.cells #[.int .i64 a0_0, .int .i64 a0_1, (.slice (some ad813) l0_2.length c0_2), (.slice A0_3 l0_3.length c0_3)] 25 (0, 0))) ∧ Sd (Below w.heap.size w wc))
     case first =>
      have H := HC16.1
      clear HC16
      by_cases c33 : t835 = 0
      ·rw [if_pos c33] at H
       have c33b0 : (t835 == 0) = true := beq_iff_eq.mpr c33
       have c33b1 : (t835 != 0) = false := bne_eq_false_iff_eq.mpr c33
       clear c33
       have H' := Sd.mk H
       clear H
       go_wp2
       go_meet
       case rel => exact ⟨_, (decide (t834 < 1)), (by first | rfl ), H', ⟨by first | omega ⟩, ⟨by (with_reducible repeat (fail)); exact Kd.R_mono HO816.1 (fun _ hk => trivial)⟩, ⟨by (with_reducible repeat (fail)); exact HO819.1⟩, ⟨by (with_reducible repeat (fail)); exact BK810.1⟩, ⟨by repeat (first | (with_reducible first | exact HB.1 ) )⟩⟩
      ·rw [if_neg c33] at H
       have c33b0 : (t835 == 0) = false := beq_eq_false_iff_ne.mpr c33
       have c33b1 : (t835 != 0) = true := bne_iff_ne.mpr c33
       have H' := Sd.mk H
       clear H
       go_wp2
       go_meet
       case rel => exact ⟨_, (true), (by first | rfl ), H', ⟨by first | omega ⟩, ⟨by (with_reducible repeat (fail)); exact Kd.R_mono HO816.1 (fun _ hk => trivial)⟩, ⟨by (with_reducible repeat (fail)); exact HO819.1⟩, ⟨by (with_reducible repeat (fail)); exact BK810.1⟩, ⟨by repeat (first | (with_reducible first | exact HB.1 ) )⟩⟩
     case rest =>
      clear HC16
      clear c7 c7b0 c7b1 c7b2
      clear c9b0
      clear c10b0
      clear z_18_0 z_18_1 z_18_2 z_18_3 hx813_0 hx813_1 hx813_2 p813 q813
      obtain ⟨kq, x54_15, rfl, HA, HJ15, HO_9, HO_10, BK810, HB⟩ := hcut
      cases kq with
      | zero => exact absurd HA.1 (by simp [glisterlaw04_CipherKnown.j0])
      | succ kj15 =>
       have H := HA.1
       clear HA
       simp only [glisterlaw04_CipherKnown.j0] at H
       by_cases c34 : x54_15 = true
       ·subst c34
        rw [if_pos rfl] at H
        exact absurd H (by simp)
       ·replace c34 := Bool.eq_false_iff.mpr c34
        subst c34
        rw [if_neg (show ¬ (false = true) by decide)] at H
        have H' := Sd.mk H
        clear H
        go_wp2
        go_loopg [13] kj15 (fun kq v13 w' => ∃ (x13_2 : Int), v13 = .int .i64 x13_2 ∧ Sd (glisterlaw04_CipherKnown.l0 kq l1 t814 t817 t834 x13_2 a0_0 a0_1 l0_2 l0_3 = some r) ∧ Sd (kq ≤ kj15) ∧ Sd (Kd.R (Kd.int .i64) 3 w' w.heap.size (fun _ => True) (.slice Ao24 t814.length co24) t814) ∧ Sd (Kd.R k85 85 w' w.heap.size (fun _ => True) (.slice Ao26 t817.length co26) t817) ∧ Sd (w'.heap[gb810]? = some (.cells #[.int .i64 a0_0, .int .i64 a0_1, (.slice (some ad813) l0_2.length c0_2), (.slice A0_3 l0_3.length c0_3)] 25 (0, 0))) ∧ Sd (Below w.heap.size w w'))
        case atStart => exact ⟨(0), (by first | rfl ), H', ⟨Nat.le_refl _⟩, ⟨by (with_reducible repeat (fail)); exact HO_9.1⟩, ⟨by (with_reducible repeat (fail)); exact HO_10.1⟩, ⟨by (with_reducible repeat (fail)); exact BK810.1⟩, ⟨by repeat (first | (with_reducible first | exact HB.1 ) )⟩⟩
        case round =>
         clear H'
         obtain ⟨x13_2, rfl, HA, HK2, HO_9, HO_10, BK810, HB⟩ := hrel
         cases gk with
         | zero => exact absurd HA.1 (by simp [glisterlaw04_CipherKnown.l0])
         | succ k2 =>
          have H := HA.1
          clear HA
          simp only [glisterlaw04_CipherKnown.l0] at H
          by_cases c35 : x13_2 < (l1.length : Int)
          ·rw [if_pos c35] at H
           have c35b0 : decide (x13_2 < (l1.length : Int)) = true := decide_eq_true c35
           clear c35
           replace H := Option.bind_eq_some_iff.mp H
           obtain ⟨⟨t837, t838, t839, t842⟩, A360, H⟩ := H
           replace H : ((glisterlaw04_list.f t814).bind fun t845 => ((glisterlaw04_Guesses.f k2 t817).bind fun t848 => ((cipher_Possible.f t837 t838 t839 t842 t845 t848 x13_2).bind fun bt851 => (if bt851.2 = 0 then (if 0 ≤ x13_2 then ((glisterlaw04_has.f k2 bt851.1 (rd l1 x13_2)).bind fun t856 => (if t856 = true then (if t834 = 1 then (glisterlaw04_CipherKnown.j2 k2 l1 t814 t817 t834 x13_2 bt851.1 ((bt851.1.length : Int) != 1) a0_0 a0_1 l0_2 l0_3) else (glisterlaw04_CipherKnown.j2 k2 l1 t814 t817 t834 x13_2 bt851.1 false a0_0 a0_1 l0_2 l0_3)) else (glisterlaw04_CipherKnown.j2 k2 l1 t814 t817 t834 x13_2 bt851.1 true a0_0 a0_1 l0_2 l0_3))) else (none)) else (glisterlaw04_CipherKnown.j2 k2 l1 t814 t817 t834 x13_2 bt851.1 true a0_0 a0_1 l0_2 l0_3))))) = some r := H
           have A36 := Sd.mk A360
           clear A360
           obtain ⟨t845, A370, H⟩ := Option.bind_eq_some_iff.mp H
           have A37 := Sd.mk A370
           clear A370
           obtain ⟨t848, A380, H⟩ := Option.bind_eq_some_iff.mp H
           have A38 := Sd.mk A380
           clear A380
           replace H := Option.bind_eq_some_iff.mp H
           obtain ⟨⟨t851, t854⟩, A390, H⟩ := H
           replace H : (if t854 = 0 then (if 0 ≤ x13_2 then ((glisterlaw04_has.f k2 t851 (rd l1 x13_2)).bind fun t856 => (if t856 = true then (if t834 = 1 then (glisterlaw04_CipherKnown.j2 k2 l1 t814 t817 t834 x13_2 t851 ((t851.length : Int) != 1) a0_0 a0_1 l0_2 l0_3) else (glisterlaw04_CipherKnown.j2 k2 l1 t814 t817 t834 x13_2 t851 false a0_0 a0_1 l0_2 l0_3)) else (glisterlaw04_CipherKnown.j2 k2 l1 t814 t817 t834 x13_2 t851 true a0_0 a0_1 l0_2 l0_3))) else (none)) else (glisterlaw04_CipherKnown.j2 k2 l1 t814 t817 t834 x13_2 t851 true a0_0 a0_1 l0_2 l0_3)) = some r := H
           have A39 := Sd.mk A390
           clear A390
           have HC40 := Sd.mk H
           clear H
           have z_41_0 : wr.cell? ⟨gb810, 0, none⟩ = some (.int .i64 a0_0) := (kC BK810.1 0).trans rfl
           have z_41_1 : wr.cell? ⟨gb810, 1, none⟩ = some (.int .i64 a0_1) := (kC BK810.1 1).trans rfl
           have z_41_2 : wr.cell? ⟨gb810, 2, none⟩ = some (.slice (some ad813) l0_2.length c0_2) := (kC BK810.1 2).trans rfl
           have z_41_3 : wr.cell? ⟨gb810, 3, none⟩ = some (.slice A0_3 l0_3.length c0_3) := (kC BK810.1 3).trans rfl
           go_upto_region 11 with (first | ((with_reducible refine gate_callee (f := 19) rfl ?_); refine goesL_ (some 63) rfl rfl Try.func19 (by kernel_rfl) rfl #[.agg #[.int .i64 a0_0, .int .i64 a0_1, .slice (some ad813) l0_2.length c0_2, .slice A0_3 l0_3.length c0_3]] rfl (by (try simp only [List.map_toArray, List.map_cons, List.map_nil]); first | rfl ) ?_; (with_reducible refine (glisterlaw04_Book.calls k2 a0_0 a0_1 _ _ l0_2 _ _ l0_3 t837 t838 t839 t842 _ ?side1 ?side2 ?side3 ?side4 A36.1).mono ?_); (case side1 => repeat (first | exact (Kd.C_below HR0_2.1 HB.1) )); (case side2 => exact HC0_2.1); (case side3 => repeat (first | exact (Kd.C_below HR0_3.1 HB.1) )); (case side4 => exact HC0_3.1); rintro e w42 ⟨v840, v843, rfl, ho0, ho1, hb⟩; refine ⟨_, rfl, ?_⟩; replace HO_10 := Sd.mk (Kd.R_below (by (with_reducible repeat (fail)); exact HO_10.1) hb); have HO841 := Sd.mk (Kd.R_lower ho0 (bZ (by repeat (first | (with_reducible first | exact HB.1 ) )))); have HO844 := Sd.mk (Kd.R_lower (Kd.R_new' ho1 (Kd.R_lt (by (with_reducible repeat (fail)); exact HO_9.1))) (bZ (by repeat (first | (with_reducible first | exact HB.1 ) )))); replace HO_9 := Sd.mk (Kd.R_elder' (by (with_reducible repeat (fail)); exact HO_9.1) (Kd.R_base ho1) hb); replace BK810 := Sd.mk (kB (g := gb810) (o := .cells #[.int .i64 a0_0, .int .i64 a0_1, .slice (some ad813) l0_2.length c0_2, .slice A0_3 l0_3.length c0_3] 25 (0, 0)) (by (with_reducible repeat (fail)); exact BK810.1) hb); replace HB := Sd.mk (bT (by repeat (first | (with_reducible first | exact HB.1 ) )) hb); (try clear hb); (try clear ho0); (try clear ho1)) | ((with_reducible refine gate_callee (f := 21) rfl ?_); refine goesL_ (some 65) rfl rfl Try.func21 (by kernel_rfl) rfl #[.slice Ao24 t814.length co24] rfl (by (try simp only [List.map_toArray, List.map_cons, List.map_nil]); first | rfl ) ?_; (with_reducible refine (glisterlaw04_list.calls _ _ t814 t845 _ ?side1 ?side2 A37.1).mono ?_); (case side1 => repeat (first | exact (Kd.R_reads' HO_9.1).2.2 )); (case side2 => exact (Kd.R_reads' HO_9.1).2.1); rintro e w43 ⟨v846, rfl, ho0, hb⟩; refine ⟨_, rfl, ?_⟩; replace HO_10 := Sd.mk (Kd.R_below (by (with_reducible repeat (fail)); exact HO_10.1) hb); replace HO841 := Sd.mk (Kd.R_below (by (with_reducible repeat (fail)); exact HO841.1) hb); have HO847 := Sd.mk (Kd.R_lower (Kd.R_new' (Kd.R_new' ho0 (Kd.R_lt (by (with_reducible repeat (fail)); exact HO_9.1))) (Kd.R_lt (by (with_reducible repeat (fail)); exact HO844.1))) (bZ (by repeat (first | (with_reducible first | exact HB.1 ) )))); replace HO_9 := Sd.mk (Kd.R_elder' (by (with_reducible repeat (fail)); exact HO_9.1) (Kd.R_base ho0) hb); replace HO844 := Sd.mk (Kd.R_elder' (by (with_reducible repeat (fail)); exact HO844.1) (Kd.R_base ho0) hb); replace BK810 := Sd.mk (kB (g := gb810) (o := .cells #[.int .i64 a0_0, .int .i64 a0_1, .slice (some ad813) l0_2.length c0_2, .slice A0_3 l0_3.length c0_3] 25 (0, 0)) (by (with_reducible repeat (fail)); exact BK810.1) hb); replace HB := Sd.mk (bT (by repeat (first | (with_reducible first | exact HB.1 ) )) hb); (try clear hb); (try clear ho0)) | ((with_reducible refine gate_callee (f := 41) rfl ?_); refine goesL_ (some 67) rfl rfl Try.func41 (by kernel_rfl) rfl #[.slice Ao26 t817.length co26] rfl (by (try simp only [List.map_toArray, List.map_cons, List.map_nil]); first | rfl ) ?_; (with_reducible refine (glisterlaw04_Guesses.calls k2 _ _ t817 t848 _ ?side1 ?side2 A38.1).mono ?_); (case side1 => repeat (first | exact (Kd.R_reads' HO_10.1).2.2 )); (case side2 => exact (Kd.R_reads' HO_10.1).2.1); rintro e w44 ⟨v849, rfl, ho0, hb⟩; refine ⟨_, rfl, ?_⟩; replace HO_9 := Sd.mk (Kd.R_below (by (with_reducible repeat (fail)); exact HO_9.1) hb); replace HO_10 := Sd.mk (Kd.R_below (by (with_reducible repeat (fail)); exact HO_10.1) hb); replace HO841 := Sd.mk (Kd.R_below (by (with_reducible repeat (fail)); exact HO841.1) hb); replace HO844 := Sd.mk (Kd.R_below (by (with_reducible repeat (fail)); exact HO844.1) hb); replace HO847 := Sd.mk (Kd.R_below (by (with_reducible repeat (fail)); exact HO847.1) hb); have HO850 := Sd.mk (Kd.R_lower ho0 (bZ (by repeat (first | (with_reducible first | exact HB.1 ) )))); replace BK810 := Sd.mk (kB (g := gb810) (o := .cells #[.int .i64 a0_0, .int .i64 a0_1, .slice (some ad813) l0_2.length c0_2, .slice A0_3 l0_3.length c0_3] 25 (0, 0)) (by (with_reducible repeat (fail)); exact BK810.1) hb); replace HB := Sd.mk (bT (by repeat (first | (with_reducible first | exact HB.1 ) )) hb); (try clear hb); (try clear ho0); obtain ⟨Ao45, co45, eo45⟩ := Kd.R_slice HO841.1; subst eo45; obtain ⟨Ao46, co46, eo46⟩ := Kd.R_slice HO844.1; subst eo46; obtain ⟨Ao47, co47, eo47⟩ := Kd.R_slice HO847.1; subst eo47; obtain ⟨Ao48, co48, eo48⟩ := Kd.R_slice HO850.1; subst eo48) | ((with_reducible refine gate_callee (f := 42) rfl ?_); refine goesL_ (some 69) rfl rfl Try.func42 (by kernel_rfl) rfl #[.agg #[.int .i64 t837, .int .i64 t838, .slice Ao45 t839.length co45, .slice Ao46 t842.length co46], .slice Ao47 t845.length co47, .slice Ao48 t848.length co48, .int .i64 x13_2] rfl (by (try simp only [List.map_toArray, List.map_cons, List.map_nil]); first | rfl ) ?_; (with_reducible refine (cipher_Possible.calls t837 t838 _ _ t839 _ _ t842 _ _ t845 _ _ t848 x13_2 t851 t854 _ ?side1 ?side2 ?side3 ?side4 ?side5 ?side6 ?side7 ?side8 A39.1).mono ?_); (case side1 => repeat (first | exact (Kd.R_reads' HO841.1).2.2 )); (case side2 => exact (Kd.R_reads' HO841.1).2.1); (case side3 => repeat (first | exact (Kd.R_reads' HO844.1).2.2 )); (case side4 => exact (Kd.R_reads' HO844.1).2.1); (case side5 => repeat (first | exact (Kd.R_reads' HO847.1).2.2 )); (case side6 => exact (Kd.R_reads' HO847.1).2.1); (case side7 => repeat (first | exact (Kd.R_reads' HO850.1).2.2 )); (case side8 => exact (Kd.R_reads' HO850.1).2.1); rintro e w49 ⟨v852, rfl, ho0, hb⟩; refine ⟨_, rfl, ?_⟩; have HO853 := Sd.mk (Kd.V_lower (Kd.V_mono (ok' := fun k_ => some k_ ≠ (.slice Ao24 t814.length co24 : Value).ownBlock ∧ some k_ ≠ (.slice Ao26 t817.length co26 : Value).ownBlock ∧ some k_ ≠ (.slice Ao45 t839.length co45 : Value).ownBlock ∧ some k_ ≠ (.slice Ao46 t842.length co46 : Value).ownBlock ∧ some k_ ≠ (.slice Ao47 t845.length co47 : Value).ownBlock ∧ some k_ ≠ (.slice Ao48 t848.length co48 : Value).ownBlock ∧ k_ ≠ gb810) ho0 (fun k_ hk_ => ⟨(Kd.fresh' (Kd.R_lt (by (with_reducible repeat (fail)); exact HO_9.1)) k_ hk_), (Kd.fresh' (Kd.R_lt (by (with_reducible repeat (fail)); exact HO_10.1)) k_ hk_), (Kd.fresh' (Kd.R_lt (by (with_reducible repeat (fail)); exact HO841.1)) k_ hk_), (Kd.fresh' (Kd.R_lt (by (with_reducible repeat (fail)); exact HO844.1)) k_ hk_), (Kd.fresh' (Kd.R_lt (by (with_reducible repeat (fail)); exact HO847.1)) k_ hk_), (Kd.fresh' (Kd.R_lt (by (with_reducible repeat (fail)); exact HO850.1)) k_ hk_), (Kd.freshB (g := gb810) (o := .cells #[.int .i64 a0_0, .int .i64 a0_1, .slice (some ad813) l0_2.length c0_2, .slice A0_3 l0_3.length c0_3] 25 (0, 0)) (by (with_reducible repeat (fail)); exact BK810.1) k_ hk_)⟩)) (bZ (by repeat (first | (with_reducible first | exact HB.1 ) )))); replace HO_9 := Sd.mk (Kd.R_below (by (with_reducible repeat (fail)); exact HO_9.1) hb); replace HO_10 := Sd.mk (Kd.R_below (by (with_reducible repeat (fail)); exact HO_10.1) hb); replace HO841 := Sd.mk (Kd.R_below (by (with_reducible repeat (fail)); exact HO841.1) hb); replace HO844 := Sd.mk (Kd.R_below (by (with_reducible repeat (fail)); exact HO844.1) hb); replace HO847 := Sd.mk (Kd.R_below (by (with_reducible repeat (fail)); exact HO847.1) hb); replace HO850 := Sd.mk (Kd.R_below (by (with_reducible repeat (fail)); exact HO850.1) hb); replace BK810 := Sd.mk (kB (g := gb810) (o := .cells #[.int .i64 a0_0, .int .i64 a0_1, .slice (some ad813) l0_2.length c0_2, .slice A0_3 l0_3.length c0_3] 25 (0, 0)) (by (with_reducible repeat (fail)); exact BK810.1) hb); replace HB := Sd.mk (bT (by repeat (first | (with_reducible first | exact HB.1 ) )) hb); (try clear hb); (try clear ho0)))
           go_cut [91] (fun v91 wc => ∃ (kq : Nat) (x91_39 : Bool), v91 = .bool x91_39 ∧ Sd (glisterlaw04_CipherKnown.j2 kq l1 t814 t817 t834 x13_2 t851 x91_39 a0_0 a0_1 l0_2 l0_3 = some r) ∧ Sd (kq ≤ k2) ∧ Sd (Kd.R (Kd.int .i64) 3 wc w.heap.size (fun _ => True) (.slice Ao24 t814.length co24) t814) ∧ Sd (Kd.R k85 85 wc w.heap.size (fun _ => True) (.slice Ao26 t817.length co26) t817) ∧ Sd (Kd.V (Kd.int .i64) 3 wc w.heap.size (fun k_ => some k_ ≠ ((.slice Ao24 t814.length co24) : Value).ownBlock ∧ some k_ ≠ ((.slice Ao26 t817.length co26) : Value).ownBlock ∧ k_ ≠ gb810) v852 t851) ∧ Sd (wc.heap[gb810]? = some (.cells #[.int .i64 a0_0, .int .i64 a0_1, (.slice (some ad813) l0_2.length c0_2), (.slice A0_3 l0_3.length c0_3)] 25 (0, 0))) ∧ Sd (Below w.heap.size w wc))
           case first =>
            have H := HC40.1
            clear HC40
            by_cases c50 : t854 = 0
            ·rw [if_pos c50] at H
             have c50b0 : (t854 == 0) = true := beq_iff_eq.mpr c50
             have c50b1 : (t854 != 0) = false := bne_eq_false_iff_eq.mpr c50
             clear c50
             by_cases c51 : 0 ≤ x13_2
             ·rw [if_pos c51] at H
              have c51b0 : decide (0 ≤ x13_2) = true := decide_eq_true c51
              clear c51
              obtain ⟨t856, A520, H⟩ := Option.bind_eq_some_iff.mp H
              have A52 := Sd.mk A520
              clear A520
              by_cases c53 : t856 = true
              ·subst c53
               rw [if_pos rfl] at H
               by_cases c54 : t834 = 1
               ·rw [if_pos c54] at H
                have c54b0 : (t834 == 1) = true := beq_iff_eq.mpr c54
                have c54b1 : (t834 != 1) = false := bne_eq_false_iff_eq.mpr c54
                clear c54
                have H' := Sd.mk H
                clear H
                have p855 : 0 ≤ (x13_2 : Int) := of_decide_eq_true (by first | (with_reducible assumption) )
                have q855 : x13_2 < (l1.length : Int) := of_decide_eq_true (by first | (with_reducible assumption) )
                obtain ⟨ad855, e855, hx855_0⟩ := Kd.at_int HR1.1 x13_2 p855 q855
                cases e855
                replace hx855_0 := (HB.1.cell (World.block_lt_of_cell? w _ hx855_0)).trans hx855_0
                replace p855 := eq_true p855
                replace q855 := eq_true q855
                obtain ⟨Ao55, co55, eo55⟩ := Kd.V_slice HO853.1
                subst eo55
                go_wp2_with (first | (go_at_call 46; (with_reducible refine (glisterlaw04_has.calls k2 _ _ t851 (rd l1 x13_2) true _ ?side1 ?side2 A52.1).mono ?_); (case side1 => repeat (first | exact (Kd.V_reads' HO853.1).2.2 )); (case side2 => exact (Kd.V_reads' HO853.1).2.1); rintro e w' ⟨rfl, ⟨nd, rfl⟩⟩))
                go_meet
                case rel => exact ⟨_, (((t851.length : Int) != 1)), (by first | rfl ), H', ⟨by have := HJ15.1; have := HK2.1; first | omega ⟩, ⟨by (with_reducible repeat (apply Kd.R_drewN )); exact Kd.R_mono HO_9.1 (fun _ hk => trivial)⟩, ⟨by (with_reducible repeat (apply Kd.R_drewN )); exact HO_10.1⟩, ⟨by (with_reducible repeat (apply Kd.V_drewN )); exact Kd.V_mono HO853.1 (fun _ hk => ⟨hk.1, ⟨hk.2.1, hk.2.2.2.2.2.2⟩⟩)⟩, ⟨by (with_reducible repeat (refine kN ?_ _ )); exact BK810.1⟩, ⟨by repeat (first | (with_reducible first | exact HB.1 | apply bN ) )⟩⟩
               ·rw [if_neg c54] at H
                have c54b0 : (t834 == 1) = false := beq_eq_false_iff_ne.mpr c54
                have c54b1 : (t834 != 1) = true := bne_iff_ne.mpr c54
                have H' := Sd.mk H
                clear H
                have p855 : 0 ≤ (x13_2 : Int) := of_decide_eq_true (by first | (with_reducible assumption) )
                have q855 : x13_2 < (l1.length : Int) := of_decide_eq_true (by first | (with_reducible assumption) )
                obtain ⟨ad855, e855, hx855_0⟩ := Kd.at_int HR1.1 x13_2 p855 q855
                cases e855
                replace hx855_0 := (HB.1.cell (World.block_lt_of_cell? w _ hx855_0)).trans hx855_0
                replace p855 := eq_true p855
                replace q855 := eq_true q855
                obtain ⟨Ao56, co56, eo56⟩ := Kd.V_slice HO853.1
                subst eo56
                go_wp2_with (first | (go_at_call 46; (with_reducible refine (glisterlaw04_has.calls k2 _ _ t851 (rd l1 x13_2) true _ ?side1 ?side2 A52.1).mono ?_); (case side1 => repeat (first | exact (Kd.V_reads' HO853.1).2.2 )); (case side2 => exact (Kd.V_reads' HO853.1).2.1); rintro e w' ⟨rfl, ⟨nd, rfl⟩⟩))
                go_meet
                case rel => exact ⟨_, (false), (by first | rfl ), H', ⟨by have := HJ15.1; have := HK2.1; first | omega ⟩, ⟨by (with_reducible repeat (apply Kd.R_drewN )); exact Kd.R_mono HO_9.1 (fun _ hk => trivial)⟩, ⟨by (with_reducible repeat (apply Kd.R_drewN )); exact HO_10.1⟩, ⟨by (with_reducible repeat (apply Kd.V_drewN )); exact Kd.V_mono HO853.1 (fun _ hk => ⟨hk.1, ⟨hk.2.1, hk.2.2.2.2.2.2⟩⟩)⟩, ⟨by (with_reducible repeat (refine kN ?_ _ )); exact BK810.1⟩, ⟨by repeat (first | (with_reducible first | exact HB.1 | apply bN ) )⟩⟩
              ·replace c53 := Bool.eq_false_iff.mpr c53
               subst c53
               rw [if_neg (show ¬ (false = true) by decide)] at H
               have H' := Sd.mk H
               clear H
               have p855 : 0 ≤ (x13_2 : Int) := of_decide_eq_true (by first | (with_reducible assumption) )
               have q855 : x13_2 < (l1.length : Int) := of_decide_eq_true (by first | (with_reducible assumption) )
               obtain ⟨ad855, e855, hx855_0⟩ := Kd.at_int HR1.1 x13_2 p855 q855
               cases e855
               replace hx855_0 := (HB.1.cell (World.block_lt_of_cell? w _ hx855_0)).trans hx855_0
               replace p855 := eq_true p855
               replace q855 := eq_true q855
               obtain ⟨Ao57, co57, eo57⟩ := Kd.V_slice HO853.1
               subst eo57
               go_wp2_with (first | (go_at_call 46; (with_reducible refine (glisterlaw04_has.calls k2 _ _ t851 (rd l1 x13_2) false _ ?side1 ?side2 A52.1).mono ?_); (case side1 => repeat (first | exact (Kd.V_reads' HO853.1).2.2 )); (case side2 => exact (Kd.V_reads' HO853.1).2.1); rintro e w' ⟨rfl, ⟨nd, rfl⟩⟩))
               go_meet
               case rel => exact ⟨_, (true), (by first | rfl ), H', ⟨by have := HJ15.1; have := HK2.1; first | omega ⟩, ⟨by (with_reducible repeat (apply Kd.R_drewN )); exact Kd.R_mono HO_9.1 (fun _ hk => trivial)⟩, ⟨by (with_reducible repeat (apply Kd.R_drewN )); exact HO_10.1⟩, ⟨by (with_reducible repeat (apply Kd.V_drewN )); exact Kd.V_mono HO853.1 (fun _ hk => ⟨hk.1, ⟨hk.2.1, hk.2.2.2.2.2.2⟩⟩)⟩, ⟨by (with_reducible repeat (refine kN ?_ _ )); exact BK810.1⟩, ⟨by repeat (first | (with_reducible first | exact HB.1 | apply bN ) )⟩⟩
             ·rw [if_neg c51] at H
              exact absurd H (by simp)
            ·rw [if_neg c50] at H
             have c50b0 : (t854 == 0) = false := beq_eq_false_iff_ne.mpr c50
             have c50b1 : (t854 != 0) = true := bne_iff_ne.mpr c50
             have H' := Sd.mk H
             clear H
             go_wp2
             go_meet
             case rel => exact ⟨_, (true), (by first | rfl ), H', ⟨by have := HJ15.1; have := HK2.1; first | omega ⟩, ⟨by (with_reducible repeat (fail)); exact Kd.R_mono HO_9.1 (fun _ hk => trivial)⟩, ⟨by (with_reducible repeat (fail)); exact HO_10.1⟩, ⟨by (with_reducible repeat (fail)); exact Kd.V_mono HO853.1 (fun _ hk => ⟨hk.1, ⟨hk.2.1, hk.2.2.2.2.2.2⟩⟩)⟩, ⟨by (with_reducible repeat (fail)); exact BK810.1⟩, ⟨by repeat (first | (with_reducible first | exact HB.1 ) )⟩⟩
           case rest =>
            clear HC40
            clear c35b0
            clear z_41_0 z_41_1 z_41_2 z_41_3
            obtain ⟨kq, x91_39, rfl, HA, HJ39, HO_9, HO_10, HO_14, BK810, HB⟩ := hcut
            cases kq with
            | zero => exact absurd HA.1 (by simp [glisterlaw04_CipherKnown.j2])
            | succ kj39 =>
             have H := HA.1
             clear HA
             simp only [glisterlaw04_CipherKnown.j2] at H
             by_cases c58 : x91_39 = true
             ·subst c58
              rw [if_pos rfl] at H
              exact absurd H (by simp)
             ·replace c58 := Bool.eq_false_iff.mpr c58
              subst c58
              rw [if_neg (show ¬ (false = true) by decide)] at H
              have H' := Sd.mk H
              clear H
              go_wp2
              go_loopg [16] kj39 (fun kq v16 w' => ∃ (x16_4 : Int), v16 = .int .i64 x16_4 ∧ Sd (glisterlaw04_CipherKnown.l1 kq l1 t814 t817 t834 x13_2 t851 x16_4 a0_0 a0_1 l0_2 l0_3 = some r) ∧ Sd (kq ≤ kj39) ∧ Sd (Kd.R (Kd.int .i64) 3 w' w.heap.size (fun _ => True) (.slice Ao24 t814.length co24) t814) ∧ Sd (Kd.R k85 85 w' w.heap.size (fun _ => True) (.slice Ao26 t817.length co26) t817) ∧ Sd (Kd.V (Kd.int .i64) 3 w' w.heap.size (fun k_ => some k_ ≠ ((.slice Ao24 t814.length co24) : Value).ownBlock ∧ some k_ ≠ ((.slice Ao26 t817.length co26) : Value).ownBlock ∧ k_ ≠ gb810) v852 t851) ∧ Sd (w'.heap[gb810]? = some (.cells #[.int .i64 a0_0, .int .i64 a0_1, (.slice (some ad813) l0_2.length c0_2), (.slice A0_3 l0_3.length c0_3)] 25 (0, 0))) ∧ Sd (Below w.heap.size w w'))
              case atStart => exact ⟨(0), (by first | rfl ), H', ⟨Nat.le_refl _⟩, ⟨by (with_reducible repeat (fail)); exact HO_9.1⟩, ⟨by (with_reducible repeat (fail)); exact HO_10.1⟩, ⟨by (with_reducible repeat (fail)); exact HO_14.1⟩, ⟨by (with_reducible repeat (fail)); exact BK810.1⟩, ⟨by repeat (first | (with_reducible first | exact HB.1 ) )⟩⟩
              case round =>
               clear H'
               obtain ⟨x16_4, rfl, HA, HK4, HO_9, HO_10, HO_14, BK810, HB⟩ := hrel
               cases gk with
               | zero => exact absurd HA.1 (by simp [glisterlaw04_CipherKnown.l1])
               | succ k4 =>
                have H := HA.1
                clear HA
                simp only [glisterlaw04_CipherKnown.l1] at H
                by_cases c59 : x16_4 < (t817.length : Int)
                ·rw [if_pos c59] at H
                 have c59b0 : decide (x16_4 < (t817.length : Int)) = true := decide_eq_true c59
                 clear c59
                 by_cases c60 : 0 ≤ x16_4
                 ·rw [if_pos c60] at H
                  have c60b0 : decide (0 ≤ x16_4) = true := decide_eq_true c60
                  clear c60
                  by_cases c61 : ((rd_T85 t817 x16_4).f0) = x13_2
                  ·rw [if_pos c61] at H
                   have c61b0 : (((rd_T85 t817 x16_4).f0) == x13_2) = true := beq_iff_eq.mpr c61
                   have c61b1 : (((rd_T85 t817 x16_4).f0) != x13_2) = false := bne_eq_false_iff_eq.mpr c61
                   clear c61
                   by_cases c62 : 0 ≤ x13_2
                   ·rw [if_pos c62] at H
                    have c62b0 : decide (0 ≤ x13_2) = true := decide_eq_true c62
                    clear c62
                    by_cases c63 : x13_2 < (l1.length : Int)
                    ·rw [if_pos c63] at H
                     have c63b0 : decide (x13_2 < (l1.length : Int)) = true := decide_eq_true c63
                     clear c63
                     obtain ⟨y859, hy859⟩ : ∃ y_ : List Int, y_ = (([rd l1 x13_2] : List Int)) := ⟨_, rfl⟩
                     replace H : ((glisterref04_Same.f k4 t851 y859).bind fun t862 => (if t862 = true then (glisterlaw04_CipherKnown.l1 k4 l1 t814 t817 t834 x13_2 t851 (wrap64 (x16_4 + 1)) a0_0 a0_1 l0_2 l0_3) else (none))) = some r := by first | (rw [hy859]; with_reducible exact H) 
                     have Ny859 := Sd.mk hy859
                     clear hy859
                     obtain ⟨t862, A640, H⟩ := Option.bind_eq_some_iff.mp H
                     have A64 := Sd.mk A640
                     clear A640
                     by_cases c65 : t862 = true
                     ·subst c65
                      rw [if_pos rfl] at H
                      have H' := Sd.mk H
                      clear H
                      have p857 : 0 ≤ (x16_4 : Int) := of_decide_eq_true (by first | (with_reducible assumption) )
                      have q857 : x16_4 < (t817.length : Int) := of_decide_eq_true (by first | (with_reducible assumption) )
                      obtain ⟨ad857, e857, hx857_0, hx857_1⟩ := at_T85 (Kd.R_reads' HO_10.1).2.2 x16_4 p857 q857
                      cases e857
                      replace p857 := eq_true p857
                      replace q857 := eq_true q857
                      have p858 : 0 ≤ (x13_2 : Int) := of_decide_eq_true (by first | (with_reducible assumption) )
                      have q858 : x13_2 < (l1.length : Int) := of_decide_eq_true (by first | (with_reducible assumption) )
                      obtain ⟨ad858, e858, hx858_0⟩ := Kd.at_int HR1.1 x13_2 p858 q858
                      cases e858
                      replace hx858_0 := (HB.1.cell (World.block_lt_of_cell? w _ hx858_0)).trans hx858_0
                      replace p858 := eq_true p858
                      replace q858 := eq_true q858
                      go_wp2_with (first | ((with_reducible refine gD (N := 111) rfl ?_); (try (refine gG (by rfl) ?_; dsimp only)); refine Kd.R_lit (Kd.int .i64) _ 3 ?hg (N := 111) ?hd (xs := ([rd l1 x13_2] : List Int)) (inner := [.int .i64 (rd l1 x13_2)]) (ok := fun _ => True) (okp := fun _ => True) ?hr ?hp (fun _ hk => hk) trivial (Below.refl _ _) (Nat.le_refl _) (by simp) ?_; (case hd => rfl); (case hg => rfl); (case hr => first | (go_simp; done) ); (case hp => exact (Reps.one (show Kd.M (Kd.int .i64) _ _ _ (rd l1 x13_2) [.int .i64 (rd l1 x13_2)] from rfl) (Reps.none _ _))); intro v860 w66 ho67 hb hg_ hnew_; clear hg_ hnew_; (rw [← Ny859.1] at ho67 ); replace HO_10 := Sd.mk (Kd.R_below (by (with_reducible repeat (fail)); exact HO_10.1) hb); replace HO_14 := Sd.mk (Kd.V_elder' (by (with_reducible repeat (fail)); exact HO_14.1) (Kd.R_base ho67) hb); have HO861 := Sd.mk (Kd.R_lower (Kd.R_new' ho67 (Kd.R_lt (by (with_reducible repeat (fail)); exact HO_9.1))) (bZ (by repeat (first | (with_reducible first | exact HB.1 ) )))); replace HO_9 := Sd.mk (Kd.R_elder' (by (with_reducible repeat (fail)); exact HO_9.1) (Kd.R_base ho67) hb); replace BK810 := Sd.mk (kB (g := gb810) (o := .cells #[.int .i64 a0_0, .int .i64 a0_1, .slice (some ad813) l0_2.length c0_2, .slice A0_3 l0_3.length c0_3] 25 (0, 0)) (by (with_reducible repeat (fail)); exact BK810.1) hb); replace HB := Sd.mk (bT (by repeat (first | (with_reducible first | exact HB.1 ) )) hb); clear hb ho67; obtain ⟨Ao68, co68, eo68⟩ := Kd.V_slice HO_14.1; subst eo68; obtain ⟨Ao69, co69, eo69⟩ := Kd.R_slice HO861.1; subst eo69) | (go_at_call 25; (with_reducible refine (glisterref04_Same.calls k4 _ _ t851 _ _ y859 true _ ?side1 ?side2 ?side3 ?side4 A64.1).mono ?_); (case side1 => repeat (first | exact (Kd.V_reads' HO_14.1).2.2 )); (case side2 => exact (Kd.V_reads' HO_14.1).2.1); (case side3 => repeat (first | exact (Kd.R_reads' HO861.1).2.2 )); (case side4 => exact (Kd.R_reads' HO861.1).2.1); rintro e w' ⟨rfl, ⟨nd, rfl⟩⟩))
                      go_roundg k4
                      case measure => have := HJ15.1; have := HK2.1; have := HJ39.1; have := HK4.1; omega
                      case rel => exact ⟨(wrap64 (x16_4 + 1)), (by first | rfl ), H', ⟨by have := HJ15.1; have := HK2.1; have := HJ39.1; have := HK4.1; omega⟩, ⟨by (with_reducible repeat (apply Kd.R_drewN )); exact Kd.R_mono HO_9.1 (fun _ hk => trivial)⟩, ⟨by (with_reducible repeat (apply Kd.R_drewN )); exact HO_10.1⟩, ⟨by (with_reducible repeat (apply Kd.V_drewN )); exact Kd.V_mono HO_14.1 (fun _ hk => ⟨hk.1.1, ⟨hk.1.2.1, hk.1.2.2⟩⟩)⟩, ⟨by (with_reducible repeat (refine kN ?_ _ )); exact BK810.1⟩, ⟨by repeat (first | (with_reducible first | exact HB.1 | apply bN ) )⟩⟩
                     ·replace c65 := Bool.eq_false_iff.mpr c65
                      subst c65
                      rw [if_neg (show ¬ (false = true) by decide)] at H
                      exact absurd H (by simp)
                    ·rw [if_neg c63] at H
                     exact absurd H (by simp)
                   ·rw [if_neg c62] at H
                    exact absurd H (by simp)
                  ·rw [if_neg c61] at H
                   have c61b0 : (((rd_T85 t817 x16_4).f0) == x13_2) = false := beq_eq_false_iff_ne.mpr c61
                   have c61b1 : (((rd_T85 t817 x16_4).f0) != x13_2) = true := bne_iff_ne.mpr c61
                   have H' := Sd.mk H
                   clear H
                   have p857 : 0 ≤ (x16_4 : Int) := of_decide_eq_true (by first | (with_reducible assumption) )
                   have q857 : x16_4 < (t817.length : Int) := of_decide_eq_true (by first | (with_reducible assumption) )
                   obtain ⟨ad857, e857, hx857_0, hx857_1⟩ := at_T85 (Kd.R_reads' HO_10.1).2.2 x16_4 p857 q857
                   cases e857
                   replace p857 := eq_true p857
                   replace q857 := eq_true q857
                   go_wp2
                   go_roundg k4
                   case measure => have := HJ15.1; have := HK2.1; have := HJ39.1; have := HK4.1; omega
                   case rel => exact ⟨(wrap64 (x16_4 + 1)), (by first | rfl ), H', ⟨by have := HJ15.1; have := HK2.1; have := HJ39.1; have := HK4.1; omega⟩, ⟨by (with_reducible repeat (fail)); exact HO_9.1⟩, ⟨by (with_reducible repeat (fail)); exact HO_10.1⟩, ⟨by (with_reducible repeat (fail)); exact HO_14.1⟩, ⟨by (with_reducible repeat (fail)); exact BK810.1⟩, ⟨by repeat (first | (with_reducible first | exact HB.1 ) )⟩⟩
                 ·rw [if_neg c60] at H
                  exact absurd H (by simp)
                ·rw [if_neg c59] at H
                 have c59b0 : decide (x16_4 < (t817.length : Int)) = false := decide_eq_false c59
                 clear c59
                 have H' := Sd.mk H
                 clear H
                 go_wp2
                 go_roundg k4
                 case measure => have := HJ15.1; have := HK2.1; have := HJ39.1; have := HK4.1; omega
                 case rel => exact ⟨(wrap64 (x13_2 + 1)), (by first | rfl ), H', ⟨by have := HJ15.1; have := HK2.1; have := HJ39.1; have := HK4.1; omega⟩, ⟨by (with_reducible repeat (fail)); exact HO_9.1⟩, ⟨by (with_reducible repeat (fail)); exact HO_10.1⟩, ⟨by (with_reducible repeat (fail)); exact BK810.1⟩, ⟨by repeat (first | (with_reducible first | exact HB.1 ) )⟩⟩
          ·rw [if_neg c35] at H
           have c35b0 : decide (x13_2 < (l1.length : Int)) = false := decide_eq_false c35
           clear c35
           obtain ⟨t836, A700, H⟩ := Option.bind_eq_some_iff.mp H
           have A70 := Sd.mk A700
           clear A700
           obtain rfl := Option.some.inj H
           go_wp2_with (first | ((with_reducible refine gate_callee (f := 17) rfl ?_); refine goesL_ (some 115) rfl rfl Try.func17 (by kernel_rfl) rfl #[] rfl (by (try simp only [List.map_toArray, List.map_cons, List.map_nil]); first | done ) ?_; (with_reducible refine (glisterlaw04_awake.calls  t836 _ A70.1).mono ?_); rintro e w71 ⟨rfl, hb⟩; refine ⟨_, rfl, ?_⟩; replace HO_9 := Sd.mk (Kd.R_below (by (with_reducible repeat (fail)); exact HO_9.1) hb); replace HO_10 := Sd.mk (Kd.R_below (by (with_reducible repeat (fail)); exact HO_10.1) hb); replace BK810 := Sd.mk (kB (g := gb810) (o := .cells #[.int .i64 a0_0, .int .i64 a0_1, .slice (some ad813) l0_2.length c0_2, .slice A0_3 l0_3.length c0_3] 25 (0, 0)) (by (with_reducible repeat (fail)); exact BK810.1) hb); replace HB := Sd.mk (bT (by repeat (first | (with_reducible first | exact HB.1 ) )) hb); (try clear hb)))
           go_ret
           exact ⟨by first | rfl , by repeat (first | (with_reducible first | exact HB.1 ) )⟩
    ·rw [if_neg c10] at H
     exact absurd H (by simp)
   ·rw [if_neg c9] at H
    exact absurd H (by simp)
 ·replace c6 := Bool.eq_false_iff.mpr c6
  subst c6
  rw [if_neg (show ¬ (false = true) by decide)] at H
  obtain ⟨t812, A720, H⟩ := Option.bind_eq_some_iff.mp H
  have A72 := Sd.mk A720
  clear A720
  obtain rfl := Option.some.inj H
  go_enter Try.func13, Try.ntmps13
  go_wp2_with (first | ((with_reducible refine gD (N := 4) rfl ?_); (try (refine gG (by rfl) ?_; dsimp only)); refine xE ?hg (N := 4) ?hd (cs := #[.int .i64 a0_0, .int .i64 a0_1, .slice A0_2 l0_2.length c0_2, .slice A0_3 l0_3.length c0_3]) (t := 25) ?hr ?_; (case hd => rfl); (case hg => rfl); (case hr => first | (go_simp; done) ); intro gb810 hg w73 hbox hb; have BK810 := Sd.mk (hbox); have GW810 := Sd.mk ((by rw [hg]; exact (bZ (by repeat (first | (with_reducible first | exact HB.1 ) ))) : w.heap.size ≤ gb810)); have GE810 := Sd.mk ((by rw [hg]; exact (bZ (by repeat (first | (with_reducible first | exact HB.1 ) ))) : w.heap.size ≤ gb810)); replace HB := Sd.mk (bT (by repeat (first | (with_reducible first | exact HB.1 ) )) hb); clear hb hbox hg; have z_74_0 : w73.cell? ⟨gb810, 0, none⟩ = some (.int .i64 a0_0) := (kC BK810.1 0).trans rfl; have z_74_1 : w73.cell? ⟨gb810, 1, none⟩ = some (.int .i64 a0_1) := (kC BK810.1 1).trans rfl; have z_74_2 : w73.cell? ⟨gb810, 2, none⟩ = some (.slice A0_2 l0_2.length c0_2) := (kC BK810.1 2).trans rfl; have z_74_3 : w73.cell? ⟨gb810, 3, none⟩ = some (.slice A0_3 l0_3.length c0_3) := (kC BK810.1 3).trans rfl) | ((with_reducible refine gate_callee (f := 33) rfl ?_); refine goesL_ (some 19) rfl rfl Try.func33 (by kernel_rfl) rfl #[.agg #[.int .i64 a0_0, .int .i64 a0_1, .slice A0_2 l0_2.length c0_2, .slice A0_3 l0_3.length c0_3], .slice A1 l1.length c1] rfl (by (try simp only [List.map_toArray, List.map_cons, List.map_nil]); first | rfl ) ?_; (with_reducible refine (glisterlaw04_ready.calls k a0_0 a0_1 _ _ l0_2 _ _ l0_3 _ _ l1 false _ ?side1 ?side2 ?side3 ?side4 ?side5 ?side6 A5.1).mono ?_); (case side1 => repeat (first | exact (Kd.C_below HR0_2.1 HB.1) )); (case side2 => exact HC0_2.1); (case side3 => repeat (first | exact (Kd.C_below HR0_3.1 HB.1) )); (case side4 => exact HC0_3.1); (case side5 => repeat (first | exact (Kd.C_below HR1.1 HB.1) )); (case side6 => exact HC1.1); rintro e w75 ⟨rfl, hb⟩; refine ⟨_, rfl, ?_⟩; replace BK810 := Sd.mk (kB (g := gb810) (o := .cells #[.int .i64 a0_0, .int .i64 a0_1, .slice A0_2 l0_2.length c0_2, .slice A0_3 l0_3.length c0_3] 25 (0, 0)) (by (with_reducible repeat (fail)); exact BK810.1) hb); replace HB := Sd.mk (bT (by repeat (first | (with_reducible first | exact HB.1 ) )) hb); (try clear hb)) | ((with_reducible refine gate_callee (f := 17) rfl ?_); refine goesL_ (some 21) rfl rfl Try.func17 (by kernel_rfl) rfl #[] rfl (by (try simp only [List.map_toArray, List.map_cons, List.map_nil]); first | done ) ?_; (with_reducible refine (glisterlaw04_awake.calls  t812 _ A72.1).mono ?_); rintro e w76 ⟨rfl, hb⟩; refine ⟨_, rfl, ?_⟩; replace BK810 := Sd.mk (kB (g := gb810) (o := .cells #[.int .i64 a0_0, .int .i64 a0_1, .slice A0_2 l0_2.length c0_2, .slice A0_3 l0_3.length c0_3] 25 (0, 0)) (by (with_reducible repeat (fail)); exact BK810.1) hb); replace HB := Sd.mk (bT (by repeat (first | (with_reducible first | exact HB.1 ) )) hb); (try clear hb)))
  go_ret
  exact ⟨by first | rfl , by repeat (first | (with_reducible first | exact HB.1 ) )⟩
end Go.Proofs.Ytnidgkmopocdkaa.P
