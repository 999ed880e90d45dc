import Derived.Test.YtnidgkmopocdkaaA12P0
import Derived.Test.YtnidgkmopocdkaaA12P3
import Derived.Test.YtnidgkmopocdkaaA12P4
import Derived.Test.YtnidgkmopocdkaaA12P9
import Derived.Test.YtnidgkmopocdkaaA12P12
import Derived.Test.YtnidgkmopocdkaaA12P17
import Derived.Test.YtnidgkmopocdkaaA12HAwake
import Derived.Test.YtnidgkmopocdkaaA12HFits
import Derived.Test.YtnidgkmopocdkaaA12HPossible
namespace Go.Proofs.Ytnidgkmopocdkaa.P
open Go.RowKit Go.Proofs.YtnidgkmopocdkaaW.PrintWords Go.Proofs.YtnidgkmopocdkaaW.PrintLast Go.Proofs.YtnidgkmopocdkaaW.PrintMore
attribute [local go_sem] max2_int min2_int max_two min_two max_three min_three max_four min_four   -- for this text's walks alone
set_option linter.unusedVariables false
set_option linter.unusedSimpArgs false
mutual
def glisterlaw04_CipherMore.j0 : Nat → List Int → List (S85) → Int → Bool → Int → Int → List (S82) → List Int → Int → Int → Option (Bool)
 | 0, _, _, _, _, _, _, _, _, _, _ => none
 | k + 1, x1, x2, x4, x39, x972000, x972001, x972002, x972003, x973000, x973001 => if x39 = true then ((glisterlaw04_awake.f).bind fun t974 => (some t974)) else ((some (([] : List (S85)) : List (S85))).bind fun y975 => (if y975.length + x2.length < 8796093022208 then ((some (y975 ++ x2 : List (S85))).bind fun y978 => ((some (([(⟨x973000, x973001⟩ : S85)] : List (S85)) : List (S85))).bind fun y981 => (if y978.length + y981.length < 8796093022208 then ((some (y978 ++ y981 : List (S85))).bind fun y984 => ((glisterlaw04_asked.f k x972000 x972001 x972002 x972003 x1 y984).bind fun t987 => (if t987 = 0 then (if (x1.length : Int) = 0 then (none) else ((glisterlaw04_Book.f k x972000 x972001 x972002 x972003).bind fun bt989 => ((glisterlaw04_list.f x1).bind fun t997 => ((glisterlaw04_Guesses.f k x2).bind fun t1000 => ((cipher_Fits.f bt989.1 bt989.2.1 bt989.2.2.1 bt989.2.2.2 t997 t1000).bind fun bt1003 => ((glisterlaw04_Book.f k x972000 x972001 x972002 x972003).bind fun bt1005 => ((glisterlaw04_list.f x1).bind fun t1013 => ((glisterlaw04_Guesses.f k y984).bind fun t1016 => ((cipher_Fits.f bt1005.1 bt1005.2.1 bt1005.2.2.1 bt1005.2.2.2 t1013 t1016).bind fun bt1019 => ((glisterlaw04_Book.f k x972000 x972001 x972002 x972003).bind fun bt1021 => ((glisterlaw04_list.f x1).bind fun t1029 => ((glisterlaw04_Guesses.f k x2).bind fun t1032 => ((cipher_Possible.f bt1021.1 bt1021.2.1 bt1021.2.2.1 bt1021.2.2.2 t1029 t1032 (Int.tmod (wrap64 (x4)) (x1.length : Int))).bind fun bt1035 => ((glisterlaw04_Book.f k x972000 x972001 x972002 x972003).bind fun bt1039 => ((glisterlaw04_list.f x1).bind fun t1047 => ((glisterlaw04_Guesses.f k y984).bind fun t1050 => ((cipher_Possible.f bt1039.1 bt1039.2.1 bt1039.2.2.1 bt1039.2.2.2 t1047 t1050 (Int.tmod (wrap64 (x4)) (x1.length : Int))).bind fun bt1053 => ((glisterlaw04_Book.f k x972000 x972001 x972002 x972003).bind fun bt1057 => ((glisterlaw04_list.f x1).bind fun t1065 => ((cipher_Fits.f bt1057.1 bt1057.2.1 bt1057.2.2.1 bt1057.2.2.2 t1065 ([] : List (S88))).bind fun bt1068 => ((glisterlaw04_Book.f k x972000 x972001 x972002 x972003).bind fun bt1070 => ((glisterlaw04_list.f x1).bind fun t1078 => ((cipher_Possible.f bt1070.1 bt1070.2.1 bt1070.2.2.1 bt1070.2.2.2 t1078 ([] : List (S88)) (Int.tmod (wrap64 (x4)) (x1.length : Int))).bind fun bt1081 => (if bt1068.2 = 0 then (if bt1068.1 = (wrap64 ((wrap64 (x972000 * x972000)) * (wrap64 (x972000 - 1)))) then (if bt1081.2 = 0 then (if (bt1081.1.length : Int) = x972000 then (if bt1003.2 = bt1035.2 then (glisterlaw04_CipherMore.j1 k bt1003.1 bt1003.2 bt1019.1 bt1019.2 bt1035.1 bt1053.1 bt1068.1 (bt1019.2 != bt1053.2)) else (glisterlaw04_CipherMore.j1 k bt1003.1 bt1003.2 bt1019.1 bt1019.2 bt1035.1 bt1053.1 bt1068.1 true)) else (glisterlaw04_CipherMore.j1 k bt1003.1 bt1003.2 bt1019.1 bt1019.2 bt1035.1 bt1053.1 bt1068.1 true)) else (glisterlaw04_CipherMore.j1 k bt1003.1 bt1003.2 bt1019.1 bt1019.2 bt1035.1 bt1053.1 bt1068.1 true)) else (glisterlaw04_CipherMore.j1 k bt1003.1 bt1003.2 bt1019.1 bt1019.2 bt1035.1 bt1053.1 bt1068.1 true)) else (glisterlaw04_CipherMore.j1 k bt1003.1 bt1003.2 bt1019.1 bt1019.2 bt1035.1 bt1053.1 bt1068.1 true))))))))))))))))))))))))) else ((glisterlaw04_awake.f).bind fun t988 => (some t988))))) else (none)))) else (none)))
def glisterlaw04_CipherMore.j1 : Nat → Int → Int → Int → Int → List Int → List Int → Int → Bool → Option (Bool)
 | 0, _, _, _, _, _, _, _, _ => none
 | k + 1, x13, x14, x15, x16, x17, x19, x21, x152 => if x152 = true then (none) else (if x16 = 0 then (if x14 = 0 then (if x15 > x13 then (glisterlaw04_CipherMore.j2 k x17 x19 true) else (glisterlaw04_CipherMore.j2 k x17 x19 (decide (x13 > x21)))) else (glisterlaw04_CipherMore.j2 k x17 x19 true)) else (if x16 = 11 then (if x15 = 0 then (if (x19.length : Int) = 0 then ((glisterlaw04_awake.f).bind fun t1085 => (some t1085)) else (none)) else (none)) else (none)))
def glisterlaw04_CipherMore.j2 : Nat → List Int → List Int → Bool → Option (Bool)
 | 0, _, _, _ => none
 | k + 1, x17, x19, x180 => if x180 = true then (none) else (glisterlaw04_CipherMore.l0 k x17 x19 0)
def glisterlaw04_CipherMore.l0 : Nat → List Int → List Int → Int → Option (Bool)
 | 0, _, _, _ => none
 | k + 1, x17, x19, x25 => if x25 < (x19.length : Int) then (if 0 ≤ x25 then ((glisterlaw04_has.f k x17 (rd x19 x25)).bind fun t1087 => (if t1087 = true then (glisterlaw04_CipherMore.l0 k x17 x19 (wrap64 (x25 + 1))) else (none))) else (none)) else ((glisterlaw04_awake.f).bind fun t1088 => (some t1088))
end
def glisterlaw04_CipherMore.f (k : Nat) (a0_0 : Int) (a0_1 : Int) (l0_2 : List (S82)) (l0_3 : List Int) (l1 : List Int) (l2 : List (S85)) (a3_0 : Int) (a3_1 : Int) (a4 : Int) : Option (Bool) := (glisterlaw04_ready.f k a0_0 a0_1 l0_2 l0_3 l1).bind fun t973 => (if t973 = true then (if (l1.length : Int) = 0 then (glisterlaw04_CipherMore.j0 k l1 l2 a4 true a0_0 a0_1 l0_2 l0_3 a3_0 a3_1) else (glisterlaw04_CipherMore.j0 k l1 l2 a4 (decide ((l2.length : Int) > 5)) a0_0 a0_1 l0_2 l0_3 a3_0 a3_1)) else (glisterlaw04_CipherMore.j0 k l1 l2 a4 true a0_0 a0_1 l0_2 l0_3 a3_0 a3_1))
set_option maxHeartbeats 8000000 in
set_option maxRecDepth 100000 in
theorem glisterlaw04_CipherMore.calls (k : Nat) (a0_0 : Int) (a0_1 : Int) (A0_2 : Option Addr) (c0_2 : Nat) (l0_2 : List (S82)) (A0_3 : Option Addr) (c0_3 : Nat) (l0_3 : List Int) (A1 : Option Addr) (c1 : Nat) (l1 : List Int) (A2 : Option Addr) (c2 : Nat) (l2 : List (S85)) (a3_0 : Int) (a3_1 : Int) (a4 : Int) (r : Bool) (w : World) (hr0_2 : Kd.C k82 w A0_2 l0_2.length l0_2) (hc0_2 : l0_2.length ≤ c0_2) (hr0_3 : Kd.C (Kd.int .i64) w A0_3 l0_3.length l0_3) (hc0_3 : l0_3.length ≤ c0_3) (hr1 : Kd.C (Kd.int .i64) w A1 l1.length l1) (hc1 : l1.length ≤ c1) (hr2 : Kd.C k85 w A2 l2.length l2) (hc2 : l2.length ≤ c2) (h : glisterlaw04_CipherMore.f k a0_0 a0_1 l0_2 l0_3 l1 l2 a3_0 a3_1 a4 = some r) :
  Calls Try.prog 14 #[.agg #[.int .i64 a0_0, .int .i64 a0_1, .slice A0_2 l0_2.length c0_2, .slice A0_3 l0_3.length c0_3], .slice A1 l1.length c1, .slice A2 l2.length c2, .agg #[.int .i64 a3_0, .int .i64 a3_1], .int .u8 a4] w fun e w' => e = .returned (.bool r) ∧ Below w.heap.size w w' := by
 have hu25 := Try.underlying25
 have hu85 := Try.underlying85
 have HR0_2 := Sd.mk hr0_2
 have HC0_2 := Sd.mk hc0_2
 clear hr0_2 hc0_2
 have HR0_3 := Sd.mk hr0_3
 have HC0_3 := Sd.mk hc0_3
 clear hr0_3 hc0_3
 have HR1 := Sd.mk hr1
 have HC1 := Sd.mk hc1
 clear hr1 hc1
 have HR2 := Sd.mk hr2
 have HC2 := Sd.mk hc2
 clear hr2 hc2
 have HB := Sd.mk (Below.refl w.heap.size w)
 have H : ((glisterlaw04_ready.f k a0_0 a0_1 l0_2 l0_3 l1).bind fun t973 => (if t973 = true then (if (l1.length : Int) = 0 then (glisterlaw04_CipherMore.j0 k l1 l2 a4 true a0_0 a0_1 l0_2 l0_3 a3_0 a3_1) else (glisterlaw04_CipherMore.j0 k l1 l2 a4 (decide ((l2.length : Int) > 5)) a0_0 a0_1 l0_2 l0_3 a3_0 a3_1)) else (glisterlaw04_CipherMore.j0 k l1 l2 a4 true a0_0 a0_1 l0_2 l0_3 a3_0 a3_1))) = some r := h
 clear h
 have HC6 := Sd.mk H
 clear H
 go_enter Try.func14, Try.ntmps14
 go_upto_region 1 with (first | ((with_reducible refine gD (N := 5) rfl ?_); (try (refine gG (by rfl) ?_; dsimp only)); refine xE ?hg (N := 5) ?hd (cs := #[.int .i64 a0_0, .int .i64 a0_1, .slice A0_2 l0_2.length c0_2, .slice A0_3 l0_3.length c0_3]) (t := 25) ?hr ?_; (case hd => rfl); (case hg => rfl); (case hr => first | (go_simp; done) ); intro gb971 hg w7 hbox hb; have BK971 := Sd.mk (hbox); have GW971 := Sd.mk ((by rw [hg]; exact (bZ (by repeat (first | (with_reducible first | exact HB.1 ) ))) : w.heap.size ≤ gb971)); have GE971 := Sd.mk ((by rw [hg]; exact (bZ (by repeat (first | (with_reducible first | exact HB.1 ) ))) : w.heap.size ≤ gb971)); replace HB := Sd.mk (bT (by repeat (first | (with_reducible first | exact HB.1 ) )) hb); clear hb hbox hg) | ((with_reducible refine gD (N := 8) rfl ?_); (try (refine gG (by rfl) ?_; dsimp only)); refine xE ?hg (N := 8) ?hd (cs := #[.int .i64 a3_0, .int .i64 a3_1]) (t := 85) ?hr ?_; (case hd => rfl); (case hg => rfl); (case hr => first | (go_simp; done) ); intro gb972 hg w8 hbox hb; have BK972 := Sd.mk (hbox); have GW972 := Sd.mk ((by rw [hg]; exact (bZ (by repeat (first | (with_reducible first | exact HB.1 ) ))) : w.heap.size ≤ gb972)); have GE972 := Sd.mk ((by rw [hg]; exact (bZ (by repeat (first | (with_reducible first | exact HB.1 ) ))) : w.heap.size ≤ gb972)); replace HB := Sd.mk (bT (by repeat (first | (with_reducible first | exact HB.1 ) )) hb); have NB971_972 := Sd.mk ((by rw [hg]; exact Nat.ne_of_lt (blk_lt (g := gb971) (o := .cells #[.int .i64 a0_0, .int .i64 a0_1, .slice A0_2 l0_2.length c0_2, .slice A0_3 l0_3.length c0_3] 25 (0, 0)) (by (with_reducible repeat (fail)); exact BK971.1)) : gb971 ≠ gb972)); have NB972_971 := Sd.mk ((by rw [hg]; exact Nat.ne_of_gt (blk_lt (g := gb971) (o := .cells #[.int .i64 a0_0, .int .i64 a0_1, .slice A0_2 l0_2.length c0_2, .slice A0_3 l0_3.length c0_3] 25 (0, 0)) (by (with_reducible repeat (fail)); exact BK971.1)) : gb972 ≠ gb971)); replace BK971 := Sd.mk (kB (g := gb971) (o := .cells #[.int .i64 a0_0, .int .i64 a0_1, .slice A0_2 l0_2.length c0_2, .slice A0_3 l0_3.length c0_3] 25 (0, 0)) (by (with_reducible repeat (fail)); exact BK971.1) hb); clear hb hbox hg))
 go_cut [39] (fun v39 wc => ∃ (kq : Nat) (x39_5 : Bool), v39 = .bool x39_5 ∧ Sd (glisterlaw04_CipherMore.j0 kq l1 l2 a4 x39_5 a0_0 a0_1 l0_2 l0_3 a3_0 a3_1 = some r) ∧ Sd (kq ≤ k) ∧ Sd (wc.heap[gb971]? = some (.cells #[.int .i64 a0_0, .int .i64 a0_1, (.slice A0_2 l0_2.length c0_2), (.slice A0_3 l0_3.length c0_3)] 25 (0, 0))) ∧ Sd (wc.heap[gb972]? = some (.cells #[.int .i64 a3_0, .int .i64 a3_1] 85 (0, 0))) ∧ Sd (Below w.heap.size w wc))
 case first =>
  have H := HC6.1
  clear HC6
  obtain ⟨t973, A90, H⟩ := Option.bind_eq_some_iff.mp H
  have A9 := Sd.mk A90
  clear A90
  by_cases c10 : t973 = true
  ·subst c10
   rw [if_pos rfl] at H
   by_cases c11 : (l1.length : Int) = 0
   ·as_aux_lemma =>
    rw [if_pos c11] at H
    have c11b0 : ((l1.length : Int) == 0) = true := beq_iff_eq.mpr c11
    have c11b1 : ((l1.length : Int) != 0) = false := bne_eq_false_iff_eq.mpr c11
    clear c11
    have H' := Sd.mk H
    clear H
    have hnb12 := NB971_972.1
    have hnc12 := NB972_971.1
    have z_13_0 : w8.cell? ⟨gb971, 0, none⟩ = some (.int .i64 a0_0) := (kC BK971.1 0).trans rfl
    have z_13_1 : w8.cell? ⟨gb971, 1, none⟩ = some (.int .i64 a0_1) := (kC BK971.1 1).trans rfl
    have z_13_2 : w8.cell? ⟨gb971, 2, none⟩ = some (.slice A0_2 l0_2.length c0_2) := (kC BK971.1 2).trans rfl
    have z_13_3 : w8.cell? ⟨gb971, 3, none⟩ = some (.slice A0_3 l0_3.length c0_3) := (kC BK971.1 3).trans rfl
    go_wp2_with (first | ((with_reducible refine gate_callee (f := 33) rfl ?_); refine goesL_ (some 28) rfl rfl Try.func33 (by kernel_rfl) rfl #[.agg #[.int .i64 a0_0, .int .i64 a0_1, .slice A0_2 l0_2.length c0_2, .slice A0_3 l0_3.length c0_3], .slice A1 l1.length c1] rfl (by (try simp only [List.map_toArray, List.map_cons, List.map_nil]); first | rfl ) ?_; (with_reducible refine (glisterlaw04_ready.calls k a0_0 a0_1 _ _ l0_2 _ _ l0_3 _ _ l1 true _ ?side1 ?side2 ?side3 ?side4 ?side5 ?side6 A9.1).mono ?_); (case side1 => repeat (first | exact (Kd.C_below HR0_2.1 HB.1) )); (case side2 => exact HC0_2.1); (case side3 => repeat (first | exact (Kd.C_below HR0_3.1 HB.1) )); (case side4 => exact HC0_3.1); (case side5 => repeat (first | exact (Kd.C_below HR1.1 HB.1) )); (case side6 => exact HC1.1); rintro e w14 ⟨rfl, hb⟩; refine ⟨_, rfl, ?_⟩; replace BK971 := Sd.mk (kB (g := gb971) (o := .cells #[.int .i64 a0_0, .int .i64 a0_1, .slice A0_2 l0_2.length c0_2, .slice A0_3 l0_3.length c0_3] 25 (0, 0)) (by (with_reducible repeat (fail)); exact BK971.1) hb); replace BK972 := Sd.mk (kB (g := gb972) (o := .cells #[.int .i64 a3_0, .int .i64 a3_1] 85 (0, 0)) (by (with_reducible repeat (fail)); exact BK972.1) hb); replace HB := Sd.mk (bT (by repeat (first | (with_reducible first | exact HB.1 ) )) hb); (try clear hb)))
    go_meet
    case rel => exact ⟨_, (true), (by first | rfl ), H', ⟨by first | omega ⟩, ⟨by (with_reducible repeat (fail)); exact BK971.1⟩, ⟨by (with_reducible repeat (fail)); exact BK972.1⟩, ⟨by repeat (first | (with_reducible first | exact HB.1 ) )⟩⟩
   ·as_aux_lemma =>
    rw [if_neg c11] at H
    have c11b0 : ((l1.length : Int) == 0) = false := beq_eq_false_iff_ne.mpr c11
    have c11b1 : ((l1.length : Int) != 0) = true := bne_iff_ne.mpr c11
    have c11b2 : ¬ (l1 = []) := fun h_ => c11 (by rw [h_]; rfl)
    have H' := Sd.mk H
    clear H
    have hnb15 := NB971_972.1
    have hnc15 := NB972_971.1
    have z_16_0 : w8.cell? ⟨gb971, 0, none⟩ = some (.int .i64 a0_0) := (kC BK971.1 0).trans rfl
    have z_16_1 : w8.cell? ⟨gb971, 1, none⟩ = some (.int .i64 a0_1) := (kC BK971.1 1).trans rfl
    have z_16_2 : w8.cell? ⟨gb971, 2, none⟩ = some (.slice A0_2 l0_2.length c0_2) := (kC BK971.1 2).trans rfl
    have z_16_3 : w8.cell? ⟨gb971, 3, none⟩ = some (.slice A0_3 l0_3.length c0_3) := (kC BK971.1 3).trans rfl
    go_wp2_with (first | ((with_reducible refine gate_callee (f := 33) rfl ?_); refine goesL_ (some 28) rfl rfl Try.func33 (by kernel_rfl) rfl #[.agg #[.int .i64 a0_0, .int .i64 a0_1, .slice A0_2 l0_2.length c0_2, .slice A0_3 l0_3.length c0_3], .slice A1 l1.length c1] rfl (by (try simp only [List.map_toArray, List.map_cons, List.map_nil]); first | rfl ) ?_; (with_reducible refine (glisterlaw04_ready.calls k a0_0 a0_1 _ _ l0_2 _ _ l0_3 _ _ l1 true _ ?side1 ?side2 ?side3 ?side4 ?side5 ?side6 A9.1).mono ?_); (case side1 => repeat (first | exact (Kd.C_below HR0_2.1 HB.1) )); (case side2 => exact HC0_2.1); (case side3 => repeat (first | exact (Kd.C_below HR0_3.1 HB.1) )); (case side4 => exact HC0_3.1); (case side5 => repeat (first | exact (Kd.C_below HR1.1 HB.1) )); (case side6 => exact HC1.1); rintro e w17 ⟨rfl, hb⟩; refine ⟨_, rfl, ?_⟩; replace BK971 := Sd.mk (kB (g := gb971) (o := .cells #[.int .i64 a0_0, .int .i64 a0_1, .slice A0_2 l0_2.length c0_2, .slice A0_3 l0_3.length c0_3] 25 (0, 0)) (by (with_reducible repeat (fail)); exact BK971.1) hb); replace BK972 := Sd.mk (kB (g := gb972) (o := .cells #[.int .i64 a3_0, .int .i64 a3_1] 85 (0, 0)) (by (with_reducible repeat (fail)); exact BK972.1) hb); replace HB := Sd.mk (bT (by repeat (first | (with_reducible first | exact HB.1 ) )) hb); (try clear hb)))
    go_meet
    case rel => exact ⟨_, (decide ((l2.length : Int) > 5)), (by first | rfl ), H', ⟨by first | omega ⟩, ⟨by (with_reducible repeat (fail)); exact BK971.1⟩, ⟨by (with_reducible repeat (fail)); exact BK972.1⟩, ⟨by repeat (first | (with_reducible first | exact HB.1 ) )⟩⟩
  ·as_aux_lemma =>
   replace c10 := Bool.eq_false_iff.mpr c10
   subst c10
   rw [if_neg (show ¬ (false = true) by decide)] at H
   have H' := Sd.mk H
   clear H
   have hnb18 := NB971_972.1
   have hnc18 := NB972_971.1
   have z_19_0 : w8.cell? ⟨gb971, 0, none⟩ = some (.int .i64 a0_0) := (kC BK971.1 0).trans rfl
   have z_19_1 : w8.cell? ⟨gb971, 1, none⟩ = some (.int .i64 a0_1) := (kC BK971.1 1).trans rfl
   have z_19_2 : w8.cell? ⟨gb971, 2, none⟩ = some (.slice A0_2 l0_2.length c0_2) := (kC BK971.1 2).trans rfl
   have z_19_3 : w8.cell? ⟨gb971, 3, none⟩ = some (.slice A0_3 l0_3.length c0_3) := (kC BK971.1 3).trans rfl
   go_wp2_with (first | ((with_reducible refine gate_callee (f := 33) rfl ?_); refine goesL_ (some 28) rfl rfl Try.func33 (by kernel_rfl) rfl #[.agg #[.int .i64 a0_0, .int .i64 a0_1, .slice A0_2 l0_2.length c0_2, .slice A0_3 l0_3.length c0_3], .slice A1 l1.length c1] rfl (by (try simp only [List.map_toArray, List.map_cons, List.map_nil]); first | rfl ) ?_; (with_reducible refine (glisterlaw04_ready.calls k a0_0 a0_1 _ _ l0_2 _ _ l0_3 _ _ l1 false _ ?side1 ?side2 ?side3 ?side4 ?side5 ?side6 A9.1).mono ?_); (case side1 => repeat (first | exact (Kd.C_below HR0_2.1 HB.1) )); (case side2 => exact HC0_2.1); (case side3 => repeat (first | exact (Kd.C_below HR0_3.1 HB.1) )); (case side4 => exact HC0_3.1); (case side5 => repeat (first | exact (Kd.C_below HR1.1 HB.1) )); (case side6 => exact HC1.1); rintro e w20 ⟨rfl, hb⟩; refine ⟨_, rfl, ?_⟩; replace BK971 := Sd.mk (kB (g := gb971) (o := .cells #[.int .i64 a0_0, .int .i64 a0_1, .slice A0_2 l0_2.length c0_2, .slice A0_3 l0_3.length c0_3] 25 (0, 0)) (by (with_reducible repeat (fail)); exact BK971.1) hb); replace BK972 := Sd.mk (kB (g := gb972) (o := .cells #[.int .i64 a3_0, .int .i64 a3_1] 85 (0, 0)) (by (with_reducible repeat (fail)); exact BK972.1) hb); replace HB := Sd.mk (bT (by repeat (first | (with_reducible first | exact HB.1 ) )) hb); (try clear hb)))
   go_meet
   case rel => exact ⟨_, (true), (by first | rfl ), H', ⟨by first | omega ⟩, ⟨by (with_reducible repeat (fail)); exact BK971.1⟩, ⟨by (with_reducible repeat (fail)); exact BK972.1⟩, ⟨by repeat (first | (with_reducible first | exact HB.1 ) )⟩⟩
 case rest =>
  clear HC6
  obtain ⟨kq, x39_5, rfl, HA, HJ5, BK971, BK972, HB⟩ := hcut
  cases kq with
  | zero => exact absurd HA.1 (by simp [glisterlaw04_CipherMore.j0])
  | succ kj5 =>
   have H := HA.1
   clear HA
   simp only [glisterlaw04_CipherMore.j0] at H
   by_cases c21 : x39_5 = true
   ·subst c21
    rw [if_pos rfl] at H
    obtain ⟨t974, A220, H⟩ := Option.bind_eq_some_iff.mp H
    have A22 := Sd.mk A220
    clear A220
    obtain rfl := Option.some.inj H
    go_wp2_with (first | ((with_reducible refine gate_callee (f := 17) rfl ?_); refine goesL_ (some 40) rfl rfl Try.func17 (by kernel_rfl) rfl #[] rfl (by (try simp only [List.map_toArray, List.map_cons, List.map_nil]); first | done ) ?_; (with_reducible refine (glisterlaw04_awake.calls  t974 _ A22.1).mono ?_); rintro e w23 ⟨rfl, hb⟩; refine ⟨_, rfl, ?_⟩; replace BK971 := Sd.mk (kB (g := gb971) (o := .cells #[.int .i64 a0_0, .int .i64 a0_1, .slice A0_2 l0_2.length c0_2, .slice A0_3 l0_3.length c0_3] 25 (0, 0)) (by (with_reducible repeat (fail)); exact BK971.1) hb); replace BK972 := Sd.mk (kB (g := gb972) (o := .cells #[.int .i64 a3_0, .int .i64 a3_1] 85 (0, 0)) (by (with_reducible repeat (fail)); exact BK972.1) hb); replace HB := Sd.mk (bT (by repeat (first | (with_reducible first | exact HB.1 ) )) hb); (try clear hb)))
    go_ret
    exact ⟨by first | rfl , by repeat (first | (with_reducible first | exact HB.1 ) )⟩
   ·replace c21 := Bool.eq_false_iff.mpr c21
    subst c21
    rw [if_neg (show ¬ (false = true) by decide)] at H
    obtain ⟨y975, hy975⟩ : ∃ y_ : List (S85), y_ = (([] : List (S85))) := ⟨_, rfl⟩
    replace H : (if y975.length + l2.length < 8796093022208 then ((some (y975 ++ l2 : List (S85))).bind fun y978 => ((some (([(⟨a3_0, a3_1⟩ : S85)] : List (S85)) : List (S85))).bind fun y981 => (if y978.length + y981.length < 8796093022208 then ((some (y978 ++ y981 : List (S85))).bind fun y984 => ((glisterlaw04_asked.f kj5 a0_0 a0_1 l0_2 l0_3 l1 y984).bind fun t987 => (if t987 = 0 then (if (l1.length : Int) = 0 then (none) else ((glisterlaw04_Book.f kj5 a0_0 a0_1 l0_2 l0_3).bind fun bt989 => ((glisterlaw04_list.f l1).bind fun t997 => ((glisterlaw04_Guesses.f kj5 l2).bind fun t1000 => ((cipher_Fits.f bt989.1 bt989.2.1 bt989.2.2.1 bt989.2.2.2 t997 t1000).bind fun bt1003 => ((glisterlaw04_Book.f kj5 a0_0 a0_1 l0_2 l0_3).bind fun bt1005 => ((glisterlaw04_list.f l1).bind fun t1013 => ((glisterlaw04_Guesses.f kj5 y984).bind fun t1016 => ((cipher_Fits.f bt1005.1 bt1005.2.1 bt1005.2.2.1 bt1005.2.2.2 t1013 t1016).bind fun bt1019 => ((glisterlaw04_Book.f kj5 a0_0 a0_1 l0_2 l0_3).bind fun bt1021 => ((glisterlaw04_list.f l1).bind fun t1029 => ((glisterlaw04_Guesses.f kj5 l2).bind fun t1032 => ((cipher_Possible.f bt1021.1 bt1021.2.1 bt1021.2.2.1 bt1021.2.2.2 t1029 t1032 (Int.tmod (wrap64 (a4)) (l1.length : Int))).bind fun bt1035 => ((glisterlaw04_Book.f kj5 a0_0 a0_1 l0_2 l0_3).bind fun bt1039 => ((glisterlaw04_list.f l1).bind fun t1047 => ((glisterlaw04_Guesses.f kj5 y984).bind fun t1050 => ((cipher_Possible.f bt1039.1 bt1039.2.1 bt1039.2.2.1 bt1039.2.2.2 t1047 t1050 (Int.tmod (wrap64 (a4)) (l1.length : Int))).bind fun bt1053 => ((glisterlaw04_Book.f kj5 a0_0 a0_1 l0_2 l0_3).bind fun bt1057 => ((glisterlaw04_list.f l1).bind fun t1065 => ((cipher_Fits.f bt1057.1 bt1057.2.1 bt1057.2.2.1 bt1057.2.2.2 t1065 ([] : List (S88))).bind fun bt1068 => ((glisterlaw04_Book.f kj5 a0_0 a0_1 l0_2 l0_3).bind fun bt1070 => ((glisterlaw04_list.f l1).bind fun t1078 => ((cipher_Possible.f bt1070.1 bt1070.2.1 bt1070.2.2.1 bt1070.2.2.2 t1078 ([] : List (S88)) (Int.tmod (wrap64 (a4)) (l1.length : Int))).bind fun bt1081 => (if bt1068.2 = 0 then (if bt1068.1 = (wrap64 ((wrap64 (a0_0 * a0_0)) * (wrap64 (a0_0 - 1)))) then (if bt1081.2 = 0 then (if (bt1081.1.length : Int) = a0_0 then (if bt1003.2 = bt1035.2 then (glisterlaw04_CipherMore.j1 kj5 bt1003.1 bt1003.2 bt1019.1 bt1019.2 bt1035.1 bt1053.1 bt1068.1 (bt1019.2 != bt1053.2)) else (glisterlaw04_CipherMore.j1 kj5 bt1003.1 bt1003.2 bt1019.1 bt1019.2 bt1035.1 bt1053.1 bt1068.1 true)) else (glisterlaw04_CipherMore.j1 kj5 bt1003.1 bt1003.2 bt1019.1 bt1019.2 bt1035.1 bt1053.1 bt1068.1 true)) else (glisterlaw04_CipherMore.j1 kj5 bt1003.1 bt1003.2 bt1019.1 bt1019.2 bt1035.1 bt1053.1 bt1068.1 true)) else (glisterlaw04_CipherMore.j1 kj5 bt1003.1 bt1003.2 bt1019.1 bt1019.2 bt1035.1 bt1053.1 bt1068.1 true)) else (glisterlaw04_CipherMore.j1 kj5 bt1003.1 bt1003.2 bt1019.1 bt1019.2 bt1035.1 bt1053.1 bt1068.1 true))))))))))))))))))))))))) else ((glisterlaw04_awake.f).bind fun t988 => (some t988))))) else (none)))) else (none)) = some r := by first | (have H2_ := (Option.bind_some _ _).symm.trans H; rw [hy975]; with_reducible exact H2_) 
    have Ny975 := Sd.mk hy975
    clear hy975
    by_cases c24 : y975.length + l2.length < 8796093022208
    ·rw [if_pos c24] at H
     have LMc24 := Sd.mk c24
     clear c24
     obtain ⟨y978, hy978⟩ : ∃ y_ : List (S85), y_ = (y975 ++ l2) := ⟨_, rfl⟩
     replace H : ((some (([(⟨a3_0, a3_1⟩ : S85)] : List (S85)) : List (S85))).bind fun y981 => (if y978.length + y981.length < 8796093022208 then ((some (y978 ++ y981 : List (S85))).bind fun y984 => ((glisterlaw04_asked.f kj5 a0_0 a0_1 l0_2 l0_3 l1 y984).bind fun t987 => (if t987 = 0 then (if (l1.length : Int) = 0 then (none) else ((glisterlaw04_Book.f kj5 a0_0 a0_1 l0_2 l0_3).bind fun bt989 => ((glisterlaw04_list.f l1).bind fun t997 => ((glisterlaw04_Guesses.f kj5 l2).bind fun t1000 => ((cipher_Fits.f bt989.1 bt989.2.1 bt989.2.2.1 bt989.2.2.2 t997 t1000).bind fun bt1003 => ((glisterlaw04_Book.f kj5 a0_0 a0_1 l0_2 l0_3).bind fun bt1005 => ((glisterlaw04_list.f l1).bind fun t1013 => ((glisterlaw04_Guesses.f kj5 y984).bind fun t1016 => ((cipher_Fits.f bt1005.1 bt1005.2.1 bt1005.2.2.1 bt1005.2.2.2 t1013 t1016).bind fun bt1019 => ((glisterlaw04_Book.f kj5 a0_0 a0_1 l0_2 l0_3).bind fun bt1021 => ((glisterlaw04_list.f l1).bind fun t1029 => ((glisterlaw04_Guesses.f kj5 l2).bind fun t1032 => ((cipher_Possible.f bt1021.1 bt1021.2.1 bt1021.2.2.1 bt1021.2.2.2 t1029 t1032 (Int.tmod (wrap64 (a4)) (l1.length : Int))).bind fun bt1035 => ((glisterlaw04_Book.f kj5 a0_0 a0_1 l0_2 l0_3).bind fun bt1039 => ((glisterlaw04_list.f l1).bind fun t1047 => ((glisterlaw04_Guesses.f kj5 y984).bind fun t1050 => ((cipher_Possible.f bt1039.1 bt1039.2.1 bt1039.2.2.1 bt1039.2.2.2 t1047 t1050 (Int.tmod (wrap64 (a4)) (l1.length : Int))).bind fun bt1053 => ((glisterlaw04_Book.f kj5 a0_0 a0_1 l0_2 l0_3).bind fun bt1057 => ((glisterlaw04_list.f l1).bind fun t1065 => ((cipher_Fits.f bt1057.1 bt1057.2.1 bt1057.2.2.1 bt1057.2.2.2 t1065 ([] : List (S88))).bind fun bt1068 => ((glisterlaw04_Book.f kj5 a0_0 a0_1 l0_2 l0_3).bind fun bt1070 => ((glisterlaw04_list.f l1).bind fun t1078 => ((cipher_Possible.f bt1070.1 bt1070.2.1 bt1070.2.2.1 bt1070.2.2.2 t1078 ([] : List (S88)) (Int.tmod (wrap64 (a4)) (l1.length : Int))).bind fun bt1081 => (if bt1068.2 = 0 then (if bt1068.1 = (wrap64 ((wrap64 (a0_0 * a0_0)) * (wrap64 (a0_0 - 1)))) then (if bt1081.2 = 0 then (if (bt1081.1.length : Int) = a0_0 then (if bt1003.2 = bt1035.2 then (glisterlaw04_CipherMore.j1 kj5 bt1003.1 bt1003.2 bt1019.1 bt1019.2 bt1035.1 bt1053.1 bt1068.1 (bt1019.2 != bt1053.2)) else (glisterlaw04_CipherMore.j1 kj5 bt1003.1 bt1003.2 bt1019.1 bt1019.2 bt1035.1 bt1053.1 bt1068.1 true)) else (glisterlaw04_CipherMore.j1 kj5 bt1003.1 bt1003.2 bt1019.1 bt1019.2 bt1035.1 bt1053.1 bt1068.1 true)) else (glisterlaw04_CipherMore.j1 kj5 bt1003.1 bt1003.2 bt1019.1 bt1019.2 bt1035.1 bt1053.1 bt1068.1 true)) else (glisterlaw04_CipherMore.j1 kj5 bt1003.1 bt1003.2 bt1019.1 bt1019.2 bt1035.1 bt1053.1 bt1068.1 true)) else (glisterlaw04_CipherMore.j1 kj5 bt1003.1 bt1003.2 bt1019.1 bt1019.2 bt1035.1 bt1053.1 bt1068.1 true))))))))))))))))))))))))) else ((glisterlaw04_awake.f).bind fun t988 => (some t988))))) else (none))) = some r := by first | (have H2_ := (Option.bind_some _ _).symm.trans H; rw [hy978]; with_reducible exact H2_) 
     have Ny978 := Sd.mk hy978
     clear hy978
     obtain ⟨y981, hy981⟩ : ∃ y_ : List (S85), y_ = (([(⟨a3_0, a3_1⟩ : S85)] : List (S85))) := ⟨_, rfl⟩
     replace H : (if y978.length + y981.length < 8796093022208 then ((some (y978 ++ y981 : List (S85))).bind fun y984 => ((glisterlaw04_asked.f kj5 a0_0 a0_1 l0_2 l0_3 l1 y984).bind fun t987 => (if t987 = 0 then (if (l1.length : Int) = 0 then (none) else ((glisterlaw04_Book.f kj5 a0_0 a0_1 l0_2 l0_3).bind fun bt989 => ((glisterlaw04_list.f l1).bind fun t997 => ((glisterlaw04_Guesses.f kj5 l2).bind fun t1000 => ((cipher_Fits.f bt989.1 bt989.2.1 bt989.2.2.1 bt989.2.2.2 t997 t1000).bind fun bt1003 => ((glisterlaw04_Book.f kj5 a0_0 a0_1 l0_2 l0_3).bind fun bt1005 => ((glisterlaw04_list.f l1).bind fun t1013 => ((glisterlaw04_Guesses.f kj5 y984).bind fun t1016 => ((cipher_Fits.f bt1005.1 bt1005.2.1 bt1005.2.2.1 bt1005.2.2.2 t1013 t1016).bind fun bt1019 => ((glisterlaw04_Book.f kj5 a0_0 a0_1 l0_2 l0_3).bind fun bt1021 => ((glisterlaw04_list.f l1).bind fun t1029 => ((glisterlaw04_Guesses.f kj5 l2).bind fun t1032 => ((cipher_Possible.f bt1021.1 bt1021.2.1 bt1021.2.2.1 bt1021.2.2.2 t1029 t1032 (Int.tmod (wrap64 (a4)) (l1.length : Int))).bind fun bt1035 => ((glisterlaw04_Book.f kj5 a0_0 a0_1 l0_2 l0_3).bind fun bt1039 => ((glisterlaw04_list.f l1).bind fun t1047 => ((glisterlaw04_Guesses.f kj5 y984).bind fun t1050 => ((cipher_Possible.f bt1039.1 bt1039.2.1 bt1039.2.2.1 bt1039.2.2.2 t1047 t1050 (Int.tmod (wrap64 (a4)) (l1.length : Int))).bind fun bt1053 => ((glisterlaw04_Book.f kj5 a0_0 a0_1 l0_2 l0_3).bind fun bt1057 => ((glisterlaw04_list.f l1).bind fun t1065 => ((cipher_Fits.f bt1057.1 bt1057.2.1 bt1057.2.2.1 bt1057.2.2.2 t1065 ([] : List (S88))).bind fun bt1068 => ((glisterlaw04_Book.f kj5 a0_0 a0_1 l0_2 l0_3).bind fun bt1070 => ((glisterlaw04_list.f l1).bind fun t1078 => ((cipher_Possible.f bt1070.1 bt1070.2.1 bt1070.2.2.1 bt1070.2.2.2 t1078 ([] : List (S88)) (Int.tmod (wrap64 (a4)) (l1.length : Int))).bind fun bt1081 => (if bt1068.2 = 0 then (if bt1068.1 = (wrap64 ((wrap64 (a0_0 * a0_0)) * (wrap64 (a0_0 - 1)))) then (if bt1081.2 = 0 then (if (bt1081.1.length : Int) = a0_0 then (if bt1003.2 = bt1035.2 then (glisterlaw04_CipherMore.j1 kj5 bt1003.1 bt1003.2 bt1019.1 bt1019.2 bt1035.1 bt1053.1 bt1068.1 (bt1019.2 != bt1053.2)) else (glisterlaw04_CipherMore.j1 kj5 bt1003.1 bt1003.2 bt1019.1 bt1019.2 bt1035.1 bt1053.1 bt1068.1 true)) else (glisterlaw04_CipherMore.j1 kj5 bt1003.1 bt1003.2 bt1019.1 bt1019.2 bt1035.1 bt1053.1 bt1068.1 true)) else (glisterlaw04_CipherMore.j1 kj5 bt1003.1 bt1003.2 bt1019.1 bt1019.2 bt1035.1 bt1053.1 bt1068.1 true)) else (glisterlaw04_CipherMore.j1 kj5 bt1003.1 bt1003.2 bt1019.1 bt1019.2 bt1035.1 bt1053.1 bt1068.1 true)) else (glisterlaw04_CipherMore.j1 kj5 bt1003.1 bt1003.2 bt1019.1 bt1019.2 bt1035.1 bt1053.1 bt1068.1 true))))))))))))))))))))))))) else ((glisterlaw04_awake.f).bind fun t988 => (some t988))))) else (none)) = some r := by first | (have H2_ := (Option.bind_some _ _).symm.trans H; rw [hy981]; with_reducible exact H2_) 
     have Ny981 := Sd.mk hy981
     clear hy981
     by_cases c25 : y978.length + y981.length < 8796093022208
     ·rw [if_pos c25] at H
      have LMc25 := Sd.mk c25
      clear c25
      obtain ⟨y984, hy984⟩ : ∃ y_ : List (S85), y_ = (y978 ++ y981) := ⟨_, rfl⟩
      replace H : ((glisterlaw04_asked.f kj5 a0_0 a0_1 l0_2 l0_3 l1 y984).bind fun t987 => (if t987 = 0 then (if (l1.length : Int) = 0 then (none) else ((glisterlaw04_Book.f kj5 a0_0 a0_1 l0_2 l0_3).bind fun bt989 => ((glisterlaw04_list.f l1).bind fun t997 => ((glisterlaw04_Guesses.f kj5 l2).bind fun t1000 => ((cipher_Fits.f bt989.1 bt989.2.1 bt989.2.2.1 bt989.2.2.2 t997 t1000).bind fun bt1003 => ((glisterlaw04_Book.f kj5 a0_0 a0_1 l0_2 l0_3).bind fun bt1005 => ((glisterlaw04_list.f l1).bind fun t1013 => ((glisterlaw04_Guesses.f kj5 y984).bind fun t1016 => ((cipher_Fits.f bt1005.1 bt1005.2.1 bt1005.2.2.1 bt1005.2.2.2 t1013 t1016).bind fun bt1019 => ((glisterlaw04_Book.f kj5 a0_0 a0_1 l0_2 l0_3).bind fun bt1021 => ((glisterlaw04_list.f l1).bind fun t1029 => ((glisterlaw04_Guesses.f kj5 l2).bind fun t1032 => ((cipher_Possible.f bt1021.1 bt1021.2.1 bt1021.2.2.1 bt1021.2.2.2 t1029 t1032 (Int.tmod (wrap64 (a4)) (l1.length : Int))).bind fun bt1035 => ((glisterlaw04_Book.f kj5 a0_0 a0_1 l0_2 l0_3).bind fun bt1039 => ((glisterlaw04_list.f l1).bind fun t1047 => ((glisterlaw04_Guesses.f kj5 y984).bind fun t1050 => ((cipher_Possible.f bt1039.1 bt1039.2.1 bt1039.2.2.1 bt1039.2.2.2 t1047 t1050 (Int.tmod (wrap64 (a4)) (l1.length : Int))).bind fun bt1053 => ((glisterlaw04_Book.f kj5 a0_0 a0_1 l0_2 l0_3).bind fun bt1057 => ((glisterlaw04_list.f l1).bind fun t1065 => ((cipher_Fits.f bt1057.1 bt1057.2.1 bt1057.2.2.1 bt1057.2.2.2 t1065 ([] : List (S88))).bind fun bt1068 => ((glisterlaw04_Book.f kj5 a0_0 a0_1 l0_2 l0_3).bind fun bt1070 => ((glisterlaw04_list.f l1).bind fun t1078 => ((cipher_Possible.f bt1070.1 bt1070.2.1 bt1070.2.2.1 bt1070.2.2.2 t1078 ([] : List (S88)) (Int.tmod (wrap64 (a4)) (l1.length : Int))).bind fun bt1081 => (if bt1068.2 = 0 then (if bt1068.1 = (wrap64 ((wrap64 (a0_0 * a0_0)) * (wrap64 (a0_0 - 1)))) then (if bt1081.2 = 0 then (if (bt1081.1.length : Int) = a0_0 then (if bt1003.2 = bt1035.2 then (glisterlaw04_CipherMore.j1 kj5 bt1003.1 bt1003.2 bt1019.1 bt1019.2 bt1035.1 bt1053.1 bt1068.1 (bt1019.2 != bt1053.2)) else (glisterlaw04_CipherMore.j1 kj5 bt1003.1 bt1003.2 bt1019.1 bt1019.2 bt1035.1 bt1053.1 bt1068.1 true)) else (glisterlaw04_CipherMore.j1 kj5 bt1003.1 bt1003.2 bt1019.1 bt1019.2 bt1035.1 bt1053.1 bt1068.1 true)) else (glisterlaw04_CipherMore.j1 kj5 bt1003.1 bt1003.2 bt1019.1 bt1019.2 bt1035.1 bt1053.1 bt1068.1 true)) else (glisterlaw04_CipherMore.j1 kj5 bt1003.1 bt1003.2 bt1019.1 bt1019.2 bt1035.1 bt1053.1 bt1068.1 true)) else (glisterlaw04_CipherMore.j1 kj5 bt1003.1 bt1003.2 bt1019.1 bt1019.2 bt1035.1 bt1053.1 bt1068.1 true))))))))))))))))))))))))) else ((glisterlaw04_awake.f).bind fun t988 => (some t988)))) = some r := by first | (have H2_ := (Option.bind_some _ _).symm.trans H; rw [hy984]; with_reducible exact H2_) 
      have Ny984 := Sd.mk hy984
      clear hy984
      obtain ⟨t987, A260, H⟩ := Option.bind_eq_some_iff.mp H
      have A26 := Sd.mk A260
      clear A260
      by_cases c27 : t987 = 0
      ·rw [if_pos c27] at H
       have c27b0 : (t987 == 0) = true := beq_iff_eq.mpr c27
       have c27b1 : (t987 != 0) = false := bne_eq_false_iff_eq.mpr c27
       clear c27
       by_cases c28 : (l1.length : Int) = 0
       ·rw [if_pos c28] at H
        exact absurd H (by simp)
       ·rw [if_neg c28] at H
        have c28b0 : ((l1.length : Int) == 0) = false := beq_eq_false_iff_ne.mpr c28
        have c28b1 : ((l1.length : Int) != 0) = true := bne_iff_ne.mpr c28
        have c28b2 : ¬ (l1 = []) := fun h_ => c28 (by rw [h_]; rfl)
        replace H := Option.bind_eq_some_iff.mp H
        obtain ⟨⟨t989, t990, t991, t994⟩, A290, H⟩ := H
        replace H : ((glisterlaw04_list.f l1).bind fun t997 => ((glisterlaw04_Guesses.f kj5 l2).bind fun t1000 => ((cipher_Fits.f t989 t990 t991 t994 t997 t1000).bind fun bt1003 => ((glisterlaw04_Book.f kj5 a0_0 a0_1 l0_2 l0_3).bind fun bt1005 => ((glisterlaw04_list.f l1).bind fun t1013 => ((glisterlaw04_Guesses.f kj5 y984).bind fun t1016 => ((cipher_Fits.f bt1005.1 bt1005.2.1 bt1005.2.2.1 bt1005.2.2.2 t1013 t1016).bind fun bt1019 => ((glisterlaw04_Book.f kj5 a0_0 a0_1 l0_2 l0_3).bind fun bt1021 => ((glisterlaw04_list.f l1).bind fun t1029 => ((glisterlaw04_Guesses.f kj5 l2).bind fun t1032 => ((cipher_Possible.f bt1021.1 bt1021.2.1 bt1021.2.2.1 bt1021.2.2.2 t1029 t1032 (Int.tmod (wrap64 (a4)) (l1.length : Int))).bind fun bt1035 => ((glisterlaw04_Book.f kj5 a0_0 a0_1 l0_2 l0_3).bind fun bt1039 => ((glisterlaw04_list.f l1).bind fun t1047 => ((glisterlaw04_Guesses.f kj5 y984).bind fun t1050 => ((cipher_Possible.f bt1039.1 bt1039.2.1 bt1039.2.2.1 bt1039.2.2.2 t1047 t1050 (Int.tmod (wrap64 (a4)) (l1.length : Int))).bind fun bt1053 => ((glisterlaw04_Book.f kj5 a0_0 a0_1 l0_2 l0_3).bind fun bt1057 => ((glisterlaw04_list.f l1).bind fun t1065 => ((cipher_Fits.f bt1057.1 bt1057.2.1 bt1057.2.2.1 bt1057.2.2.2 t1065 ([] : List (S88))).bind fun bt1068 => ((glisterlaw04_Book.f kj5 a0_0 a0_1 l0_2 l0_3).bind fun bt1070 => ((glisterlaw04_list.f l1).bind fun t1078 => ((cipher_Possible.f bt1070.1 bt1070.2.1 bt1070.2.2.1 bt1070.2.2.2 t1078 ([] : List (S88)) (Int.tmod (wrap64 (a4)) (l1.length : Int))).bind fun bt1081 => (if bt1068.2 = 0 then (if bt1068.1 = (wrap64 ((wrap64 (a0_0 * a0_0)) * (wrap64 (a0_0 - 1)))) then (if bt1081.2 = 0 then (if (bt1081.1.length : Int) = a0_0 then (if bt1003.2 = bt1035.2 then (glisterlaw04_CipherMore.j1 kj5 bt1003.1 bt1003.2 bt1019.1 bt1019.2 bt1035.1 bt1053.1 bt1068.1 (bt1019.2 != bt1053.2)) else (glisterlaw04_CipherMore.j1 kj5 bt1003.1 bt1003.2 bt1019.1 bt1019.2 bt1035.1 bt1053.1 bt1068.1 true)) else (glisterlaw04_CipherMore.j1 kj5 bt1003.1 bt1003.2 bt1019.1 bt1019.2 bt1035.1 bt1053.1 bt1068.1 true)) else (glisterlaw04_CipherMore.j1 kj5 bt1003.1 bt1003.2 bt1019.1 bt1019.2 bt1035.1 bt1053.1 bt1068.1 true)) else (glisterlaw04_CipherMore.j1 kj5 bt1003.1 bt1003.2 bt1019.1 bt1019.2 bt1035.1 bt1053.1 bt1068.1 true)) else (glisterlaw04_CipherMore.j1 kj5 bt1003.1 bt1003.2 bt1019.1 bt1019.2 bt1035.1 bt1053.1 bt1068.1 true))))))))))))))))))))))) = some r := H
        have A29 := Sd.mk A290
        clear A290
        obtain ⟨t997, A300, H⟩ := Option.bind_eq_some_iff.mp H
        have A30 := Sd.mk A300
        clear A300
        obtain ⟨t1000, A310, H⟩ := Option.bind_eq_some_iff.mp H
        have A31 := Sd.mk A310
        clear A310
        replace H := Option.bind_eq_some_iff.mp H
        obtain ⟨⟨t1003, t1004⟩, A320, H⟩ := H
        replace H : ((glisterlaw04_Book.f kj5 a0_0 a0_1 l0_2 l0_3).bind fun bt1005 => ((glisterlaw04_list.f l1).bind fun t1013 => ((glisterlaw04_Guesses.f kj5 y984).bind fun t1016 => ((cipher_Fits.f bt1005.1 bt1005.2.1 bt1005.2.2.1 bt1005.2.2.2 t1013 t1016).bind fun bt1019 => ((glisterlaw04_Book.f kj5 a0_0 a0_1 l0_2 l0_3).bind fun bt1021 => ((glisterlaw04_list.f l1).bind fun t1029 => ((glisterlaw04_Guesses.f kj5 l2).bind fun t1032 => ((cipher_Possible.f bt1021.1 bt1021.2.1 bt1021.2.2.1 bt1021.2.2.2 t1029 t1032 (Int.tmod (wrap64 (a4)) (l1.length : Int))).bind fun bt1035 => ((glisterlaw04_Book.f kj5 a0_0 a0_1 l0_2 l0_3).bind fun bt1039 => ((glisterlaw04_list.f l1).bind fun t1047 => ((glisterlaw04_Guesses.f kj5 y984).bind fun t1050 => ((cipher_Possible.f bt1039.1 bt1039.2.1 bt1039.2.2.1 bt1039.2.2.2 t1047 t1050 (Int.tmod (wrap64 (a4)) (l1.length : Int))).bind fun bt1053 => ((glisterlaw04_Book.f kj5 a0_0 a0_1 l0_2 l0_3).bind fun bt1057 => ((glisterlaw04_list.f l1).bind fun t1065 => ((cipher_Fits.f bt1057.1 bt1057.2.1 bt1057.2.2.1 bt1057.2.2.2 t1065 ([] : List (S88))).bind fun bt1068 => ((glisterlaw04_Book.f kj5 a0_0 a0_1 l0_2 l0_3).bind fun bt1070 => ((glisterlaw04_list.f l1).bind fun t1078 => ((cipher_Possible.f bt1070.1 bt1070.2.1 bt1070.2.2.1 bt1070.2.2.2 t1078 ([] : List (S88)) (Int.tmod (wrap64 (a4)) (l1.length : Int))).bind fun bt1081 => (if bt1068.2 = 0 then (if bt1068.1 = (wrap64 ((wrap64 (a0_0 * a0_0)) * (wrap64 (a0_0 - 1)))) then (if bt1081.2 = 0 then (if (bt1081.1.length : Int) = a0_0 then (if t1004 = bt1035.2 then (glisterlaw04_CipherMore.j1 kj5 t1003 t1004 bt1019.1 bt1019.2 bt1035.1 bt1053.1 bt1068.1 (bt1019.2 != bt1053.2)) else (glisterlaw04_CipherMore.j1 kj5 t1003 t1004 bt1019.1 bt1019.2 bt1035.1 bt1053.1 bt1068.1 true)) else (glisterlaw04_CipherMore.j1 kj5 t1003 t1004 bt1019.1 bt1019.2 bt1035.1 bt1053.1 bt1068.1 true)) else (glisterlaw04_CipherMore.j1 kj5 t1003 t1004 bt1019.1 bt1019.2 bt1035.1 bt1053.1 bt1068.1 true)) else (glisterlaw04_CipherMore.j1 kj5 t1003 t1004 bt1019.1 bt1019.2 bt1035.1 bt1053.1 bt1068.1 true)) else (glisterlaw04_CipherMore.j1 kj5 t1003 t1004 bt1019.1 bt1019.2 bt1035.1 bt1053.1 bt1068.1 true)))))))))))))))))))) = some r := H
        have A32 := Sd.mk A320
        clear A320
        replace H := Option.bind_eq_some_iff.mp H
        obtain ⟨⟨t1005, t1006, t1007, t1010⟩, A330, H⟩ := H
        replace H : ((glisterlaw04_list.f l1).bind fun t1013 => ((glisterlaw04_Guesses.f kj5 y984).bind fun t1016 => ((cipher_Fits.f t1005 t1006 t1007 t1010 t1013 t1016).bind fun bt1019 => ((glisterlaw04_Book.f kj5 a0_0 a0_1 l0_2 l0_3).bind fun bt1021 => ((glisterlaw04_list.f l1).bind fun t1029 => ((glisterlaw04_Guesses.f kj5 l2).bind fun t1032 => ((cipher_Possible.f bt1021.1 bt1021.2.1 bt1021.2.2.1 bt1021.2.2.2 t1029 t1032 (Int.tmod (wrap64 (a4)) (l1.length : Int))).bind fun bt1035 => ((glisterlaw04_Book.f kj5 a0_0 a0_1 l0_2 l0_3).bind fun bt1039 => ((glisterlaw04_list.f l1).bind fun t1047 => ((glisterlaw04_Guesses.f kj5 y984).bind fun t1050 => ((cipher_Possible.f bt1039.1 bt1039.2.1 bt1039.2.2.1 bt1039.2.2.2 t1047 t1050 (Int.tmod (wrap64 (a4)) (l1.length : Int))).bind fun bt1053 => ((glisterlaw04_Book.f kj5 a0_0 a0_1 l0_2 l0_3).bind fun bt1057 => ((glisterlaw04_list.f l1).bind fun t1065 => ((cipher_Fits.f bt1057.1 bt1057.2.1 bt1057.2.2.1 bt1057.2.2.2 t1065 ([] : List (S88))).bind fun bt1068 => ((glisterlaw04_Book.f kj5 a0_0 a0_1 l0_2 l0_3).bind fun bt1070 => ((glisterlaw04_list.f l1).bind fun t1078 => ((cipher_Possible.f bt1070.1 bt1070.2.1 bt1070.2.2.1 bt1070.2.2.2 t1078 ([] : List (S88)) (Int.tmod (wrap64 (a4)) (l1.length : Int))).bind fun bt1081 => (if bt1068.2 = 0 then (if bt1068.1 = (wrap64 ((wrap64 (a0_0 * a0_0)) * (wrap64 (a0_0 - 1)))) then (if bt1081.2 = 0 then (if (bt1081.1.length : Int) = a0_0 then (if t1004 = bt1035.2 then (glisterlaw04_CipherMore.j1 kj5 t1003 t1004 bt1019.1 bt1019.2 bt1035.1 bt1053.1 bt1068.1 (bt1019.2 != bt1053.2)) else (glisterlaw04_CipherMore.j1 kj5 t1003 t1004 bt1019.1 bt1019.2 bt1035.1 bt1053.1 bt1068.1 true)) else (glisterlaw04_CipherMore.j1 kj5 t1003 t1004 bt1019.1 bt1019.2 bt1035.1 bt1053.1 bt1068.1 true)) else (glisterlaw04_CipherMore.j1 kj5 t1003 t1004 bt1019.1 bt1019.2 bt1035.1 bt1053.1 bt1068.1 true)) else (glisterlaw04_CipherMore.j1 kj5 t1003 t1004 bt1019.1 bt1019.2 bt1035.1 bt1053.1 bt1068.1 true)) else (glisterlaw04_CipherMore.j1 kj5 t1003 t1004 bt1019.1 bt1019.2 bt1035.1 bt1053.1 bt1068.1 true))))))))))))))))))) = some r := H
        have A33 := Sd.mk A330
        clear A330
        obtain ⟨t1013, A340, H⟩ := Option.bind_eq_some_iff.mp H
        have A34 := Sd.mk A340
        clear A340
        obtain ⟨t1016, A350, H⟩ := Option.bind_eq_some_iff.mp H
        have A35 := Sd.mk A350
        clear A350
        replace H := Option.bind_eq_some_iff.mp H
        obtain ⟨⟨t1019, t1020⟩, A360, H⟩ := H
        replace H : ((glisterlaw04_Book.f kj5 a0_0 a0_1 l0_2 l0_3).bind fun bt1021 => ((glisterlaw04_list.f l1).bind fun t1029 => ((glisterlaw04_Guesses.f kj5 l2).bind fun t1032 => ((cipher_Possible.f bt1021.1 bt1021.2.1 bt1021.2.2.1 bt1021.2.2.2 t1029 t1032 (Int.tmod (wrap64 (a4)) (l1.length : Int))).bind fun bt1035 => ((glisterlaw04_Book.f kj5 a0_0 a0_1 l0_2 l0_3).bind fun bt1039 => ((glisterlaw04_list.f l1).bind fun t1047 => ((glisterlaw04_Guesses.f kj5 y984).bind fun t1050 => ((cipher_Possible.f bt1039.1 bt1039.2.1 bt1039.2.2.1 bt1039.2.2.2 t1047 t1050 (Int.tmod (wrap64 (a4)) (l1.length : Int))).bind fun bt1053 => ((glisterlaw04_Book.f kj5 a0_0 a0_1 l0_2 l0_3).bind fun bt1057 => ((glisterlaw04_list.f l1).bind fun t1065 => ((cipher_Fits.f bt1057.1 bt1057.2.1 bt1057.2.2.1 bt1057.2.2.2 t1065 ([] : List (S88))).bind fun bt1068 => ((glisterlaw04_Book.f kj5 a0_0 a0_1 l0_2 l0_3).bind fun bt1070 => ((glisterlaw04_list.f l1).bind fun t1078 => ((cipher_Possible.f bt1070.1 bt1070.2.1 bt1070.2.2.1 bt1070.2.2.2 t1078 ([] : List (S88)) (Int.tmod (wrap64 (a4)) (l1.length : Int))).bind fun bt1081 => (if bt1068.2 = 0 then (if bt1068.1 = (wrap64 ((wrap64 (a0_0 * a0_0)) * (wrap64 (a0_0 - 1)))) then (if bt1081.2 = 0 then (if (bt1081.1.length : Int) = a0_0 then (if t1004 = bt1035.2 then (glisterlaw04_CipherMore.j1 kj5 t1003 t1004 t1019 t1020 bt1035.1 bt1053.1 bt1068.1 (t1020 != bt1053.2)) else (glisterlaw04_CipherMore.j1 kj5 t1003 t1004 t1019 t1020 bt1035.1 bt1053.1 bt1068.1 true)) else (glisterlaw04_CipherMore.j1 kj5 t1003 t1004 t1019 t1020 bt1035.1 bt1053.1 bt1068.1 true)) else (glisterlaw04_CipherMore.j1 kj5 t1003 t1004 t1019 t1020 bt1035.1 bt1053.1 bt1068.1 true)) else (glisterlaw04_CipherMore.j1 kj5 t1003 t1004 t1019 t1020 bt1035.1 bt1053.1 bt1068.1 true)) else (glisterlaw04_CipherMore.j1 kj5 t1003 t1004 t1019 t1020 bt1035.1 bt1053.1 bt1068.1 true)))))))))))))))) = some r := H
        have A36 := Sd.mk A360
        clear A360
        replace H := Option.bind_eq_some_iff.mp H
        obtain ⟨⟨t1021, t1022, t1023, t1026⟩, A370, H⟩ := H
        replace H : ((glisterlaw04_list.f l1).bind fun t1029 => ((glisterlaw04_Guesses.f kj5 l2).bind fun t1032 => ((cipher_Possible.f t1021 t1022 t1023 t1026 t1029 t1032 (Int.tmod (wrap64 (a4)) (l1.length : Int))).bind fun bt1035 => ((glisterlaw04_Book.f kj5 a0_0 a0_1 l0_2 l0_3).bind fun bt1039 => ((glisterlaw04_list.f l1).bind fun t1047 => ((glisterlaw04_Guesses.f kj5 y984).bind fun t1050 => ((cipher_Possible.f bt1039.1 bt1039.2.1 bt1039.2.2.1 bt1039.2.2.2 t1047 t1050 (Int.tmod (wrap64 (a4)) (l1.length : Int))).bind fun bt1053 => ((glisterlaw04_Book.f kj5 a0_0 a0_1 l0_2 l0_3).bind fun bt1057 => ((glisterlaw04_list.f l1).bind fun t1065 => ((cipher_Fits.f bt1057.1 bt1057.2.1 bt1057.2.2.1 bt1057.2.2.2 t1065 ([] : List (S88))).bind fun bt1068 => ((glisterlaw04_Book.f kj5 a0_0 a0_1 l0_2 l0_3).bind fun bt1070 => ((glisterlaw04_list.f l1).bind fun t1078 => ((cipher_Possible.f bt1070.1 bt1070.2.1 bt1070.2.2.1 bt1070.2.2.2 t1078 ([] : List (S88)) (Int.tmod (wrap64 (a4)) (l1.length : Int))).bind fun bt1081 => (if bt1068.2 = 0 then (if bt1068.1 = (wrap64 ((wrap64 (a0_0 * a0_0)) * (wrap64 (a0_0 - 1)))) then (if bt1081.2 = 0 then (if (bt1081.1.length : Int) = a0_0 then (if t1004 = bt1035.2 then (glisterlaw04_CipherMore.j1 kj5 t1003 t1004 t1019 t1020 bt1035.1 bt1053.1 bt1068.1 (t1020 != bt1053.2)) else (glisterlaw04_CipherMore.j1 kj5 t1003 t1004 t1019 t1020 bt1035.1 bt1053.1 bt1068.1 true)) else (glisterlaw04_CipherMore.j1 kj5 t1003 t1004 t1019 t1020 bt1035.1 bt1053.1 bt1068.1 true)) else (glisterlaw04_CipherMore.j1 kj5 t1003 t1004 t1019 t1020 bt1035.1 bt1053.1 bt1068.1 true)) else (glisterlaw04_CipherMore.j1 kj5 t1003 t1004 t1019 t1020 bt1035.1 bt1053.1 bt1068.1 true)) else (glisterlaw04_CipherMore.j1 kj5 t1003 t1004 t1019 t1020 bt1035.1 bt1053.1 bt1068.1 true))))))))))))))) = some r := H
        have A37 := Sd.mk A370
        clear A370
        obtain ⟨t1029, A380, H⟩ := Option.bind_eq_some_iff.mp H
        have A38 := Sd.mk A380
        clear A380
        obtain ⟨t1032, A390, H⟩ := Option.bind_eq_some_iff.mp H
        have A39 := Sd.mk A390
        clear A390
        replace H := Option.bind_eq_some_iff.mp H
        obtain ⟨⟨t1035, t1038⟩, A400, H⟩ := H
        replace H : ((glisterlaw04_Book.f kj5 a0_0 a0_1 l0_2 l0_3).bind fun bt1039 => ((glisterlaw04_list.f l1).bind fun t1047 => ((glisterlaw04_Guesses.f kj5 y984).bind fun t1050 => ((cipher_Possible.f bt1039.1 bt1039.2.1 bt1039.2.2.1 bt1039.2.2.2 t1047 t1050 (Int.tmod (wrap64 (a4)) (l1.length : Int))).bind fun bt1053 => ((glisterlaw04_Book.f kj5 a0_0 a0_1 l0_2 l0_3).bind fun bt1057 => ((glisterlaw04_list.f l1).bind fun t1065 => ((cipher_Fits.f bt1057.1 bt1057.2.1 bt1057.2.2.1 bt1057.2.2.2 t1065 ([] : List (S88))).bind fun bt1068 => ((glisterlaw04_Book.f kj5 a0_0 a0_1 l0_2 l0_3).bind fun bt1070 => ((glisterlaw04_list.f l1).bind fun t1078 => ((cipher_Possible.f bt1070.1 bt1070.2.1 bt1070.2.2.1 bt1070.2.2.2 t1078 ([] : List (S88)) (Int.tmod (wrap64 (a4)) (l1.length : Int))).bind fun bt1081 => (if bt1068.2 = 0 then (if bt1068.1 = (wrap64 ((wrap64 (a0_0 * a0_0)) * (wrap64 (a0_0 - 1)))) then (if bt1081.2 = 0 then (if (bt1081.1.length : Int) = a0_0 then (if t1004 = t1038 then (glisterlaw04_CipherMore.j1 kj5 t1003 t1004 t1019 t1020 t1035 bt1053.1 bt1068.1 (t1020 != bt1053.2)) else (glisterlaw04_CipherMore.j1 kj5 t1003 t1004 t1019 t1020 t1035 bt1053.1 bt1068.1 true)) else (glisterlaw04_CipherMore.j1 kj5 t1003 t1004 t1019 t1020 t1035 bt1053.1 bt1068.1 true)) else (glisterlaw04_CipherMore.j1 kj5 t1003 t1004 t1019 t1020 t1035 bt1053.1 bt1068.1 true)) else (glisterlaw04_CipherMore.j1 kj5 t1003 t1004 t1019 t1020 t1035 bt1053.1 bt1068.1 true)) else (glisterlaw04_CipherMore.j1 kj5 t1003 t1004 t1019 t1020 t1035 bt1053.1 bt1068.1 true)))))))))))) = some r := H
        have A40 := Sd.mk A400
        clear A400
        replace H := Option.bind_eq_some_iff.mp H
        obtain ⟨⟨t1039, t1040, t1041, t1044⟩, A410, H⟩ := H
        replace H : ((glisterlaw04_list.f l1).bind fun t1047 => ((glisterlaw04_Guesses.f kj5 y984).bind fun t1050 => ((cipher_Possible.f t1039 t1040 t1041 t1044 t1047 t1050 (Int.tmod (wrap64 (a4)) (l1.length : Int))).bind fun bt1053 => ((glisterlaw04_Book.f kj5 a0_0 a0_1 l0_2 l0_3).bind fun bt1057 => ((glisterlaw04_list.f l1).bind fun t1065 => ((cipher_Fits.f bt1057.1 bt1057.2.1 bt1057.2.2.1 bt1057.2.2.2 t1065 ([] : List (S88))).bind fun bt1068 => ((glisterlaw04_Book.f kj5 a0_0 a0_1 l0_2 l0_3).bind fun bt1070 => ((glisterlaw04_list.f l1).bind fun t1078 => ((cipher_Possible.f bt1070.1 bt1070.2.1 bt1070.2.2.1 bt1070.2.2.2 t1078 ([] : List (S88)) (Int.tmod (wrap64 (a4)) (l1.length : Int))).bind fun bt1081 => (if bt1068.2 = 0 then (if bt1068.1 = (wrap64 ((wrap64 (a0_0 * a0_0)) * (wrap64 (a0_0 - 1)))) then (if bt1081.2 = 0 then (if (bt1081.1.length : Int) = a0_0 then (if t1004 = t1038 then (glisterlaw04_CipherMore.j1 kj5 t1003 t1004 t1019 t1020 t1035 bt1053.1 bt1068.1 (t1020 != bt1053.2)) else (glisterlaw04_CipherMore.j1 kj5 t1003 t1004 t1019 t1020 t1035 bt1053.1 bt1068.1 true)) else (glisterlaw04_CipherMore.j1 kj5 t1003 t1004 t1019 t1020 t1035 bt1053.1 bt1068.1 true)) else (glisterlaw04_CipherMore.j1 kj5 t1003 t1004 t1019 t1020 t1035 bt1053.1 bt1068.1 true)) else (glisterlaw04_CipherMore.j1 kj5 t1003 t1004 t1019 t1020 t1035 bt1053.1 bt1068.1 true)) else (glisterlaw04_CipherMore.j1 kj5 t1003 t1004 t1019 t1020 t1035 bt1053.1 bt1068.1 true))))))))))) = some r := H
        have A41 := Sd.mk A410
        clear A410
        obtain ⟨t1047, A420, H⟩ := Option.bind_eq_some_iff.mp H
        have A42 := Sd.mk A420
        clear A420
        obtain ⟨t1050, A430, H⟩ := Option.bind_eq_some_iff.mp H
        have A43 := Sd.mk A430
        clear A430
        replace H := Option.bind_eq_some_iff.mp H
        obtain ⟨⟨t1053, t1056⟩, A440, H⟩ := H
        replace H : ((glisterlaw04_Book.f kj5 a0_0 a0_1 l0_2 l0_3).bind fun bt1057 => ((glisterlaw04_list.f l1).bind fun t1065 => ((cipher_Fits.f bt1057.1 bt1057.2.1 bt1057.2.2.1 bt1057.2.2.2 t1065 ([] : List (S88))).bind fun bt1068 => ((glisterlaw04_Book.f kj5 a0_0 a0_1 l0_2 l0_3).bind fun bt1070 => ((glisterlaw04_list.f l1).bind fun t1078 => ((cipher_Possible.f bt1070.1 bt1070.2.1 bt1070.2.2.1 bt1070.2.2.2 t1078 ([] : List (S88)) (Int.tmod (wrap64 (a4)) (l1.length : Int))).bind fun bt1081 => (if bt1068.2 = 0 then (if bt1068.1 = (wrap64 ((wrap64 (a0_0 * a0_0)) * (wrap64 (a0_0 - 1)))) then (if bt1081.2 = 0 then (if (bt1081.1.length : Int) = a0_0 then (if t1004 = t1038 then (glisterlaw04_CipherMore.j1 kj5 t1003 t1004 t1019 t1020 t1035 t1053 bt1068.1 (t1020 != t1056)) else (glisterlaw04_CipherMore.j1 kj5 t1003 t1004 t1019 t1020 t1035 t1053 bt1068.1 true)) else (glisterlaw04_CipherMore.j1 kj5 t1003 t1004 t1019 t1020 t1035 t1053 bt1068.1 true)) else (glisterlaw04_CipherMore.j1 kj5 t1003 t1004 t1019 t1020 t1035 t1053 bt1068.1 true)) else (glisterlaw04_CipherMore.j1 kj5 t1003 t1004 t1019 t1020 t1035 t1053 bt1068.1 true)) else (glisterlaw04_CipherMore.j1 kj5 t1003 t1004 t1019 t1020 t1035 t1053 bt1068.1 true)))))))) = some r := H
        have A44 := Sd.mk A440
        clear A440
        replace H := Option.bind_eq_some_iff.mp H
        obtain ⟨⟨t1057, t1058, t1059, t1062⟩, A450, H⟩ := H
        replace H : ((glisterlaw04_list.f l1).bind fun t1065 => ((cipher_Fits.f t1057 t1058 t1059 t1062 t1065 ([] : List (S88))).bind fun bt1068 => ((glisterlaw04_Book.f kj5 a0_0 a0_1 l0_2 l0_3).bind fun bt1070 => ((glisterlaw04_list.f l1).bind fun t1078 => ((cipher_Possible.f bt1070.1 bt1070.2.1 bt1070.2.2.1 bt1070.2.2.2 t1078 ([] : List (S88)) (Int.tmod (wrap64 (a4)) (l1.length : Int))).bind fun bt1081 => (if bt1068.2 = 0 then (if bt1068.1 = (wrap64 ((wrap64 (a0_0 * a0_0)) * (wrap64 (a0_0 - 1)))) then (if bt1081.2 = 0 then (if (bt1081.1.length : Int) = a0_0 then (if t1004 = t1038 then (glisterlaw04_CipherMore.j1 kj5 t1003 t1004 t1019 t1020 t1035 t1053 bt1068.1 (t1020 != t1056)) else (glisterlaw04_CipherMore.j1 kj5 t1003 t1004 t1019 t1020 t1035 t1053 bt1068.1 true)) else (glisterlaw04_CipherMore.j1 kj5 t1003 t1004 t1019 t1020 t1035 t1053 bt1068.1 true)) else (glisterlaw04_CipherMore.j1 kj5 t1003 t1004 t1019 t1020 t1035 t1053 bt1068.1 true)) else (glisterlaw04_CipherMore.j1 kj5 t1003 t1004 t1019 t1020 t1035 t1053 bt1068.1 true)) else (glisterlaw04_CipherMore.j1 kj5 t1003 t1004 t1019 t1020 t1035 t1053 bt1068.1 true))))))) = some r := H
        have A45 := Sd.mk A450
        clear A450
        obtain ⟨t1065, A460, H⟩ := Option.bind_eq_some_iff.mp H
        have A46 := Sd.mk A460
        clear A460
        replace H := Option.bind_eq_some_iff.mp H
        obtain ⟨⟨t1068, t1069⟩, A470, H⟩ := H
        replace H : ((glisterlaw04_Book.f kj5 a0_0 a0_1 l0_2 l0_3).bind fun bt1070 => ((glisterlaw04_list.f l1).bind fun t1078 => ((cipher_Possible.f bt1070.1 bt1070.2.1 bt1070.2.2.1 bt1070.2.2.2 t1078 ([] : List (S88)) (Int.tmod (wrap64 (a4)) (l1.length : Int))).bind fun bt1081 => (if t1069 = 0 then (if t1068 = (wrap64 ((wrap64 (a0_0 * a0_0)) * (wrap64 (a0_0 - 1)))) then (if bt1081.2 = 0 then (if (bt1081.1.length : Int) = a0_0 then (if t1004 = t1038 then (glisterlaw04_CipherMore.j1 kj5 t1003 t1004 t1019 t1020 t1035 t1053 t1068 (t1020 != t1056)) else (glisterlaw04_CipherMore.j1 kj5 t1003 t1004 t1019 t1020 t1035 t1053 t1068 true)) else (glisterlaw04_CipherMore.j1 kj5 t1003 t1004 t1019 t1020 t1035 t1053 t1068 true)) else (glisterlaw04_CipherMore.j1 kj5 t1003 t1004 t1019 t1020 t1035 t1053 t1068 true)) else (glisterlaw04_CipherMore.j1 kj5 t1003 t1004 t1019 t1020 t1035 t1053 t1068 true)) else (glisterlaw04_CipherMore.j1 kj5 t1003 t1004 t1019 t1020 t1035 t1053 t1068 true))))) = some r := H
        have A47 := Sd.mk A470
        clear A470
        replace H := Option.bind_eq_some_iff.mp H
        obtain ⟨⟨t1070, t1071, t1072, t1075⟩, A480, H⟩ := H
        replace H : ((glisterlaw04_list.f l1).bind fun t1078 => ((cipher_Possible.f t1070 t1071 t1072 t1075 t1078 ([] : List (S88)) (Int.tmod (wrap64 (a4)) (l1.length : Int))).bind fun bt1081 => (if t1069 = 0 then (if t1068 = (wrap64 ((wrap64 (a0_0 * a0_0)) * (wrap64 (a0_0 - 1)))) then (if bt1081.2 = 0 then (if (bt1081.1.length : Int) = a0_0 then (if t1004 = t1038 then (glisterlaw04_CipherMore.j1 kj5 t1003 t1004 t1019 t1020 t1035 t1053 t1068 (t1020 != t1056)) else (glisterlaw04_CipherMore.j1 kj5 t1003 t1004 t1019 t1020 t1035 t1053 t1068 true)) else (glisterlaw04_CipherMore.j1 kj5 t1003 t1004 t1019 t1020 t1035 t1053 t1068 true)) else (glisterlaw04_CipherMore.j1 kj5 t1003 t1004 t1019 t1020 t1035 t1053 t1068 true)) else (glisterlaw04_CipherMore.j1 kj5 t1003 t1004 t1019 t1020 t1035 t1053 t1068 true)) else (glisterlaw04_CipherMore.j1 kj5 t1003 t1004 t1019 t1020 t1035 t1053 t1068 true)))) = some r := H
        have A48 := Sd.mk A480
        clear A480
        obtain ⟨t1078, A490, H⟩ := Option.bind_eq_some_iff.mp H
        have A49 := Sd.mk A490
        clear A490
        replace H := Option.bind_eq_some_iff.mp H
        obtain ⟨⟨t1081, t1084⟩, A500, H⟩ := H
        replace H : (if t1069 = 0 then (if t1068 = (wrap64 ((wrap64 (a0_0 * a0_0)) * (wrap64 (a0_0 - 1)))) then (if t1084 = 0 then (if (t1081.length : Int) = a0_0 then (if t1004 = t1038 then (glisterlaw04_CipherMore.j1 kj5 t1003 t1004 t1019 t1020 t1035 t1053 t1068 (t1020 != t1056)) else (glisterlaw04_CipherMore.j1 kj5 t1003 t1004 t1019 t1020 t1035 t1053 t1068 true)) else (glisterlaw04_CipherMore.j1 kj5 t1003 t1004 t1019 t1020 t1035 t1053 t1068 true)) else (glisterlaw04_CipherMore.j1 kj5 t1003 t1004 t1019 t1020 t1035 t1053 t1068 true)) else (glisterlaw04_CipherMore.j1 kj5 t1003 t1004 t1019 t1020 t1035 t1053 t1068 true)) else (glisterlaw04_CipherMore.j1 kj5 t1003 t1004 t1019 t1020 t1035 t1053 t1068 true)) = some r := H
        have A50 := Sd.mk A500
        clear A500
        have HC51 := Sd.mk H
        clear H
        try go_wp2
        have n0_ := Sd.mk (kD BK971.1)
        have n1_ := Sd.mk (kD BK972.1)
        have n2_ := Sd.mk (bD HB.1)
        clear BK971
        clear BK972
        clear HB
        have BK971 := n0_
        have BK972 := n1_
        have HB := n2_
        clear n0_ n1_ n2_
        refine start_ (n := 7) (S := fun w' => w'.cell? ⟨gb972, 0, none⟩ = some (.int .i64 a3_0) ∧ w'.cell? ⟨gb972, 1, none⟩ = some (.int .i64 a3_1)) (ds := []) #[false, false, false, false, false, false, false] (by kernel_rfl) rfl rfl ⟨(kC BK972.1 0).trans rfl, (kC BK972.1 1).trans rfl⟩ (fun hHeld => ?_)
        generalize wc.drew = w52 at BK971 BK972 HB hHeld ⊢
        refine pure_ (i := 1) (N := some 42) (v := ?_) (a' := ?_) #[false, true, false, false, false, false, false] rfl rfl (by kernel_rfl) (fun _ _ _ h => h) (Or.inl ⟨by rfl, ?_⟩) ?_ ?_
        rotate_left
        ·intro w'
         go_simp
         with_reducible rfl
        rotate_left
        ·simp only [Act.put, List.setIfInBounds_toArray, List.set_cons_zero, List.set_cons_succ, i64_w, i32_w]
         rfl
        refine take_ (i := 3) (N := some 44) (v := ?_) (a' := ?_) #[false, true, false, true, false, false, false] rfl rfl (by kernel_rfl) (fun _ _ _ h => h) (Or.inl ⟨by rfl, ?_⟩) hHeld ?_ ?_
        rotate_left
        ·rintro w' ⟨s0, s1⟩
         go_simp
         with_reducible rfl
        rotate_left
        ·simp only [Act.put, List.setIfInBounds_toArray, List.set_cons_zero, List.set_cons_succ, i64_w, i32_w]
         rfl
        refine join_ (σ := Value × Value × Value) 2 #[true, true, true, true, true, false, false] (fun s_ => [(41, s_.1), (43, s_.2.1), (45, s_.2.2)]) (fun s_ w' => (w'.cell? ⟨gb972, 0, none⟩ = some (.int .i64 a3_0) ∧ w'.cell? ⟨gb972, 1, none⟩ = some (.int .i64 a3_1)) ∧ (Kd.R k85 85 w' w.heap.size (fun k_ => some k_ ≠ (s_.2.2 : Value).ownBlock ∧ k_ ≠ gb972) s_.2.1 y978) ∧ (Kd.R k85 85 w' w.heap.size (fun k_ => some k_ ≠ (s_.2.1 : Value).ownBlock ∧ k_ ≠ gb972) s_.2.2 y981) ∧ (w'.heap[gb971]? = some (.cells #[.int .i64 a0_0, .int .i64 a0_1, .slice A0_2 l0_2.length c0_2, .slice A0_3 l0_3.length c0_3] 25 (0, 0))) ∧ (w'.heap[gb972]? = some (.cells #[.int .i64 a3_0, .int .i64 a3_1] 85 (0, 0))) ∧ (Below w.heap.size w w')) ?_ ?_
        rotate_left
        ·intro hCont
         refine two_ (i := 0) (j := 4) (Ni := some 41) (Nj := some 45) #[true, true, false, true, false, false, false] #[false, true, false, true, true, false, false] rfl rfl rfl rfl (by kernel_rfl) (by decide) (by decide) (fun K hK => ?_) (fun K hK => ?_)
         ·skip
          refine Kd.R_lit_step k85 _ 85 ?hg (N := 41) ?hd (xs := ([] : List (S85))) (inner := []) (ok := fun _ => True) (okp := fun _ => True) ?hr ?hp (fun _ hk => hk) trivial (Below.refl _ _) (Nat.le_refl _) (by simp) ?_; (case hd => rfl); (case hg => rfl); (case hr => first | (go_simp; done) ); (case hp => exact (Reps.none _ _))
          intro v976 w53 ho54 hb hg_ hnew_
          clear hg_ hnew_
          (rw [← Ny975.1] at ho54 )
          have n0_ := Sd.mk (Kd.R_lower (Kd.R_newB ho54 (g := gb972) (o := .cells #[.int .i64 a3_0, .int .i64 a3_1] 85 (0, 0)) (by (with_reducible repeat (fail)); exact BK972.1)) (bZ (by repeat (first | (with_reducible first | exact HB.1 ) ))))
          have n1_ := Sd.mk (kB (g := gb971) (o := .cells #[.int .i64 a0_0, .int .i64 a0_1, .slice A0_2 l0_2.length c0_2, .slice A0_3 l0_3.length c0_3] 25 (0, 0)) (by (with_reducible repeat (fail)); exact BK971.1) hb)
          have n2_ := Sd.mk (kB (g := gb972) (o := .cells #[.int .i64 a3_0, .int .i64 a3_1] 85 (0, 0)) (by (with_reducible repeat (fail)); exact BK972.1) hb)
          have n3_ := Sd.mk (bT (by repeat (first | (with_reducible first | exact HB.1 ) )) hb)
          clear BK971
          clear BK972
          clear HB
          have HO977 := n0_
          have BK971 := n1_
          have BK972 := n2_
          have HB := n3_
          clear n0_ n1_ n2_ n3_
          clear hb ho54
          refine hK.out _ _ ⟨(kC BK972.1 0).trans rfl, (kC BK972.1 1).trans rfl⟩ (fun hHeld => ?_)
          clear hK K
          refine norm_ (a' := ?_) ?_ ?_
          rotate_left
          ·show Act.put _ (some 41) _ = _
           simp only [Act.put, List.setIfInBounds_toArray, List.set_cons_zero, List.set_cons_succ, i64_w, i32_w]
           rfl
          refine two_ (i := 2) (j := 4) (Ni := some 43) (Nj := some 45) #[true, true, true, true, false, false, false] #[true, true, false, true, true, false, false] rfl rfl rfl rfl (by kernel_rfl) (by decide) (by decide) (fun K hK => ?_) (fun K hK => ?_)
          ·skip
           refine Kd.R_append_rows_step k85 (w0 := w) w.heap.size (by rfl) (.tmp 41) (.tmp 42) 68 85 (.agg #[(.int .i64 0), (.int .i64 0)]) 16 rfl Try.underlying68 info85 rfl (by decide) (by omega) v976 y975 l2 _ _ _ (fun k_ => k_ ≠ gb972) (fun _ => False) rfl rfl ?aO ?aR (fun _ _ h => h) (fun _ h => h.elim) ?aF ?aB ?aS ?aL ?_
           (case aR => repeat (first | exact (Kd.C_below HR2.1 HB.1) ))
           (case aB => exact (by repeat (first | (with_reducible first | exact HB.1 ) )))
           (case aF => exact (fun k_ hk => Kd.freshB (g := gb972) (o := .cells #[.int .i64 a3_0, .int .i64 a3_1] 85 (0, 0)) (by (with_reducible repeat (fail)); exact BK972.1) k_ hk))
           (case aO => exact (by (with_reducible repeat (fail)); exact Kd.R_mono HO977.1 (fun _ hk => hk.2)))
           (case aS => exact (bZ (by repeat (first | (with_reducible first | exact HB.1 ) ))))
           (case aL => have := LMc24.1; omega)
           intro v979 w55 ho hb hg hat
           rw [← Ny978.1] at ho
           have n0_ := Sd.mk (blk_grown (g := gb971) (o := .cells #[.int .i64 a0_0, .int .i64 a0_1, .slice A0_2 l0_2.length c0_2, .slice A0_3 l0_3.length c0_3] 25 (0, 0)) (by (with_reducible repeat (fail)); exact BK971.1) hg (Kd.R_ne HO977.1 BK971.1 (by decide)))
           have n1_ := Sd.mk (blk_grown (g := gb972) (o := .cells #[.int .i64 a3_0, .int .i64 a3_1] 85 (0, 0)) (by (with_reducible repeat (fail)); exact BK972.1) hg (Kd.R_away HO977.1 (fun _ hk => hk.2)))
           have n2_ := Sd.mk (hb)
           have n3_ := Sd.mk (ho)
           clear BK971
           clear BK972
           clear HB
           clear HO977
           have BK971 := n0_
           have BK972 := n1_
           have HB := n2_
           have HO980 := n3_
           clear n0_ n1_ n2_ n3_
           clear ho hb hg hat
           refine hK.out _ _ ⟨(kC BK972.1 0).trans rfl, (kC BK972.1 1).trans rfl⟩ (fun hHeld => ?_)
           clear hK K
           refine norm_ (a' := ?_) ?_ ?_
           rotate_left
           ·show Act.put _ (some 43) _ = _
            simp only [Act.put, List.setIfInBounds_toArray, List.set_cons_zero, List.set_cons_succ, i64_w, i32_w]
            rfl
           refine one_ (i := 4) (N := some 45) #[true, true, true, true, true, false, false] rfl rfl (by kernel_rfl) (by decide) (fun K hK => ?_)
           refine Kd.R_lit_step k85 _ 85 ?hg (N := 45) ?hd (xs := ([(⟨a3_0, a3_1⟩ : S85)] : List (S85))) (inner := [.int .i64 a3_0, .int .i64 a3_1]) (ok := fun _ => True) (okp := fun _ => True) ?hr ?hp (fun _ hk => hk) trivial (Below.refl _ _) (Nat.le_refl _) (by simp) ?_; (case hd => rfl); (case hg => rfl); (case hr => first | (go_simp; done) ); (case hp => exact (Reps.c2 (show Kd.M k85 _ _ _ (⟨a3_0, a3_1⟩ : S85) [.int .i64 a3_0, .int .i64 a3_1] from (k85_mkM _ _ _ (⟨a3_0, a3_1⟩ : S85) )) (Reps.none _ _)))
           intro v982 w56 ho57 hb hg_ hnew_
           clear hg_ hnew_
           (rw [← Ny981.1] at ho57 )
           have n0_ := Sd.mk (Kd.R_elder' (by (with_reducible repeat (fail)); exact HO980.1) (Kd.R_base ho57) hb)
           have n1_ := Sd.mk (Kd.R_lower (Kd.R_newB (Kd.R_new' ho57 (Kd.R_lt (by (with_reducible repeat (fail)); exact HO980.1))) (g := gb972) (o := .cells #[.int .i64 a3_0, .int .i64 a3_1] 85 (0, 0)) (by (with_reducible repeat (fail)); exact BK972.1)) (bZ (by repeat (first | (with_reducible first | exact HB.1 ) ))))
           have n2_ := Sd.mk (kB (g := gb971) (o := .cells #[.int .i64 a0_0, .int .i64 a0_1, .slice A0_2 l0_2.length c0_2, .slice A0_3 l0_3.length c0_3] 25 (0, 0)) (by (with_reducible repeat (fail)); exact BK971.1) hb)
           have n3_ := Sd.mk (kB (g := gb972) (o := .cells #[.int .i64 a3_0, .int .i64 a3_1] 85 (0, 0)) (by (with_reducible repeat (fail)); exact BK972.1) hb)
           have n4_ := Sd.mk (bT (by repeat (first | (with_reducible first | exact HB.1 ) )) hb)
           clear HO980
           clear BK971
           clear BK972
           clear HB
           have HO980 := n0_
           have HO983 := n1_
           have BK971 := n2_
           have BK972 := n3_
           have HB := n4_
           clear n0_ n1_ n2_ n3_ n4_
           clear hb ho57
           refine hK.out _ _ ⟨(kC BK972.1 0).trans rfl, (kC BK972.1 1).trans rfl⟩ (fun hHeld => ?_)
           clear hK K
           refine norm_ (a' := ?_) ?_ ?_
           rotate_left
           ·show Act.put _ (some 45) _ = _
            simp only [Act.put, List.setIfInBounds_toArray, List.set_cons_zero, List.set_cons_succ, i64_w, i32_w]
            rfl
           exact norm_ (by simp only [Go.Proofs.YtnidgkmopocdkaaW.PrintLast.putAll, Act.put, List.setIfInBounds_toArray, List.set_cons_zero, List.set_cons_succ]) (hCont (v976, v979, v982) _ ⟨hHeld, (by (with_reducible repeat (fail)); exact Kd.R_mono HO980.1 (fun _ hk => ⟨hk.2, hk.1⟩)), (by (with_reducible repeat (fail)); exact Kd.R_mono HO983.1 (fun _ hk => ⟨hk.1.2, hk.2⟩)), (by (with_reducible repeat (fail)); exact BK971.1), (by (with_reducible repeat (fail)); exact BK972.1), (by repeat (first | (with_reducible first | exact HB.1 ) ))⟩)
          ·skip
           refine Kd.R_lit_step k85 _ 85 ?hg (N := 45) ?hd (xs := ([(⟨a3_0, a3_1⟩ : S85)] : List (S85))) (inner := [.int .i64 a3_0, .int .i64 a3_1]) (ok := fun _ => True) (okp := fun _ => True) ?hr ?hp (fun _ hk => hk) trivial (Below.refl _ _) (Nat.le_refl _) (by simp) ?_; (case hd => rfl); (case hg => rfl); (case hr => first | (go_simp; done) ); (case hp => exact (Reps.c2 (show Kd.M k85 _ _ _ (⟨a3_0, a3_1⟩ : S85) [.int .i64 a3_0, .int .i64 a3_1] from (k85_mkM _ _ _ (⟨a3_0, a3_1⟩ : S85) )) (Reps.none _ _)))
           intro v982 w55 ho56 hb hg_ hnew_
           clear hg_ hnew_
           (rw [← Ny981.1] at ho56 )
           have n0_ := Sd.mk (Kd.R_elder' (by (with_reducible repeat (fail)); exact HO977.1) (Kd.R_base ho56) hb)
           have n1_ := Sd.mk (Kd.R_lower (Kd.R_newB (Kd.R_new' ho56 (Kd.R_lt (by (with_reducible repeat (fail)); exact HO977.1))) (g := gb972) (o := .cells #[.int .i64 a3_0, .int .i64 a3_1] 85 (0, 0)) (by (with_reducible repeat (fail)); exact BK972.1)) (bZ (by repeat (first | (with_reducible first | exact HB.1 ) ))))
           have n2_ := Sd.mk (kB (g := gb971) (o := .cells #[.int .i64 a0_0, .int .i64 a0_1, .slice A0_2 l0_2.length c0_2, .slice A0_3 l0_3.length c0_3] 25 (0, 0)) (by (with_reducible repeat (fail)); exact BK971.1) hb)
           have n3_ := Sd.mk (kB (g := gb972) (o := .cells #[.int .i64 a3_0, .int .i64 a3_1] 85 (0, 0)) (by (with_reducible repeat (fail)); exact BK972.1) hb)
           have n4_ := Sd.mk (bT (by repeat (first | (with_reducible first | exact HB.1 ) )) hb)
           clear HO977
           clear BK971
           clear BK972
           clear HB
           have HO977 := n0_
           have HO983 := n1_
           have BK971 := n2_
           have BK972 := n3_
           have HB := n4_
           clear n0_ n1_ n2_ n3_ n4_
           clear hb ho56
           refine hK.out _ _ ⟨(kC BK972.1 0).trans rfl, (kC BK972.1 1).trans rfl⟩ (fun hHeld => ?_)
           clear hK K
           refine norm_ (a' := ?_) ?_ ?_
           rotate_left
           ·show Act.put _ (some 45) _ = _
            simp only [Act.put, List.setIfInBounds_toArray, List.set_cons_zero, List.set_cons_succ, i64_w, i32_w]
            rfl
           refine one_ (i := 2) (N := some 43) #[true, true, true, true, true, false, false] rfl rfl (by kernel_rfl) (by decide) (fun K hK => ?_)
           refine Kd.R_append_rows_step k85 (w0 := w) w.heap.size (by rfl) (.tmp 41) (.tmp 42) 68 85 (.agg #[(.int .i64 0), (.int .i64 0)]) 16 rfl Try.underlying68 info85 rfl (by decide) (by omega) v976 y975 l2 _ _ _ (fun k_ => some k_ ≠ (v982 : Value).ownBlock ∧ k_ ≠ gb972) (fun _ => False) rfl rfl ?aO ?aR (fun _ _ h => h) (fun _ h => h.elim) ?aF ?aB ?aS ?aL ?_
           (case aR => repeat (first | exact (Kd.C_below HR2.1 HB.1) ))
           (case aB => exact (by repeat (first | (with_reducible first | exact HB.1 ) )))
           (case aF => exact (fun k_ hk => ⟨Kd.fresh' (Kd.R_lt (by (with_reducible repeat (fail)); exact HO983.1)) k_ hk, Kd.freshB (g := gb972) (o := .cells #[.int .i64 a3_0, .int .i64 a3_1] 85 (0, 0)) (by (with_reducible repeat (fail)); exact BK972.1) k_ hk⟩))
           (case aO => exact (by (with_reducible repeat (fail)); exact Kd.R_mono HO977.1 (fun _ hk => ⟨hk.2, hk.1.2⟩)))
           (case aS => exact (bZ (by repeat (first | (with_reducible first | exact HB.1 ) ))))
           (case aL => have := LMc24.1; omega)
           intro v979 w57 ho hb hg hat
           rw [← Ny978.1] at ho
           have n0_ := Sd.mk (blk_grown (g := gb971) (o := .cells #[.int .i64 a0_0, .int .i64 a0_1, .slice A0_2 l0_2.length c0_2, .slice A0_3 l0_3.length c0_3] 25 (0, 0)) (by (with_reducible repeat (fail)); exact BK971.1) hg (Kd.R_ne HO977.1 BK971.1 (by decide)))
           have n1_ := Sd.mk (blk_grown (g := gb972) (o := .cells #[.int .i64 a3_0, .int .i64 a3_1] 85 (0, 0)) (by (with_reducible repeat (fail)); exact BK972.1) hg (Kd.R_away HO977.1 (fun _ hk => hk.1.2)))
           have n2_ := Sd.mk (Kd.R_after (ok := (fun k_ => k_ ≠ gb972)) (by (with_reducible repeat (fail)); exact Kd.R_mono HO983.1 (fun _ hk => ⟨hk.2, hk.1.2⟩)) hg hat)
           have n3_ := Sd.mk (hb)
           have n4_ := Sd.mk (ho)
           clear BK971
           clear BK972
           clear HO983
           clear HB
           clear HO977
           have BK971 := n0_
           have BK972 := n1_
           have HO983 := n2_
           have HB := n3_
           have HO980 := n4_
           clear n0_ n1_ n2_ n3_ n4_
           clear ho hb hg hat
           refine hK.out _ _ ⟨(kC BK972.1 0).trans rfl, (kC BK972.1 1).trans rfl⟩ (fun hHeld => ?_)
           clear hK K
           refine norm_ (a' := ?_) ?_ ?_
           rotate_left
           ·show Act.put _ (some 43) _ = _
            simp only [Act.put, List.setIfInBounds_toArray, List.set_cons_zero, List.set_cons_succ, i64_w, i32_w]
            rfl
           exact norm_ (by simp only [Go.Proofs.YtnidgkmopocdkaaW.PrintLast.putAll, Act.put, List.setIfInBounds_toArray, List.set_cons_zero, List.set_cons_succ]) (hCont (v976, v979, v982) _ ⟨hHeld, (by (with_reducible repeat (fail)); exact HO980.1), (by (with_reducible repeat (fail)); exact Kd.R_mono HO983.1 (fun _ hk => ⟨hk.2, hk.1⟩)), (by (with_reducible repeat (fail)); exact BK971.1), (by (with_reducible repeat (fail)); exact BK972.1), (by repeat (first | (with_reducible first | exact HB.1 ) ))⟩)
         ·skip
          refine Kd.R_lit_step k85 _ 85 ?hg (N := 45) ?hd (xs := ([(⟨a3_0, a3_1⟩ : S85)] : List (S85))) (inner := [.int .i64 a3_0, .int .i64 a3_1]) (ok := fun _ => True) (okp := fun _ => True) ?hr ?hp (fun _ hk => hk) trivial (Below.refl _ _) (Nat.le_refl _) (by simp) ?_; (case hd => rfl); (case hg => rfl); (case hr => first | (go_simp; done) ); (case hp => exact (Reps.c2 (show Kd.M k85 _ _ _ (⟨a3_0, a3_1⟩ : S85) [.int .i64 a3_0, .int .i64 a3_1] from (k85_mkM _ _ _ (⟨a3_0, a3_1⟩ : S85) )) (Reps.none _ _)))
          intro v982 w53 ho54 hb hg_ hnew_
          clear hg_ hnew_
          (rw [← Ny981.1] at ho54 )
          have n0_ := Sd.mk (Kd.R_lower (Kd.R_newB ho54 (g := gb972) (o := .cells #[.int .i64 a3_0, .int .i64 a3_1] 85 (0, 0)) (by (with_reducible repeat (fail)); exact BK972.1)) (bZ (by repeat (first | (with_reducible first | exact HB.1 ) ))))
          have n1_ := Sd.mk (kB (g := gb971) (o := .cells #[.int .i64 a0_0, .int .i64 a0_1, .slice A0_2 l0_2.length c0_2, .slice A0_3 l0_3.length c0_3] 25 (0, 0)) (by (with_reducible repeat (fail)); exact BK971.1) hb)
          have n2_ := Sd.mk (kB (g := gb972) (o := .cells #[.int .i64 a3_0, .int .i64 a3_1] 85 (0, 0)) (by (with_reducible repeat (fail)); exact BK972.1) hb)
          have n3_ := Sd.mk (bT (by repeat (first | (with_reducible first | exact HB.1 ) )) hb)
          clear BK971
          clear BK972
          clear HB
          have HO983 := n0_
          have BK971 := n1_
          have BK972 := n2_
          have HB := n3_
          clear n0_ n1_ n2_ n3_
          clear hb ho54
          refine hK.out _ _ ⟨(kC BK972.1 0).trans rfl, (kC BK972.1 1).trans rfl⟩ (fun hHeld => ?_)
          clear hK K
          refine norm_ (a' := ?_) ?_ ?_
          rotate_left
          ·show Act.put _ (some 45) _ = _
           simp only [Act.put, List.setIfInBounds_toArray, List.set_cons_zero, List.set_cons_succ, i64_w, i32_w]
           rfl
          refine one_ (i := 0) (N := some 41) #[true, true, false, true, true, false, false] rfl rfl (by kernel_rfl) (by decide) (fun K hK => ?_)
          refine Kd.R_lit_step k85 _ 85 ?hg (N := 41) ?hd (xs := ([] : List (S85))) (inner := []) (ok := fun _ => True) (okp := fun _ => True) ?hr ?hp (fun _ hk => hk) trivial (Below.refl _ _) (Nat.le_refl _) (by simp) ?_; (case hd => rfl); (case hg => rfl); (case hr => first | (go_simp; done) ); (case hp => exact (Reps.none _ _))
          intro v976 w55 ho56 hb hg_ hnew_
          clear hg_ hnew_
          (rw [← Ny975.1] at ho56 )
          have n0_ := Sd.mk (Kd.R_elder' (by (with_reducible repeat (fail)); exact HO983.1) (Kd.R_base ho56) hb)
          have n1_ := Sd.mk (Kd.R_lower (Kd.R_newB (Kd.R_new' ho56 (Kd.R_lt (by (with_reducible repeat (fail)); exact HO983.1))) (g := gb972) (o := .cells #[.int .i64 a3_0, .int .i64 a3_1] 85 (0, 0)) (by (with_reducible repeat (fail)); exact BK972.1)) (bZ (by repeat (first | (with_reducible first | exact HB.1 ) ))))
          have n2_ := Sd.mk (kB (g := gb971) (o := .cells #[.int .i64 a0_0, .int .i64 a0_1, .slice A0_2 l0_2.length c0_2, .slice A0_3 l0_3.length c0_3] 25 (0, 0)) (by (with_reducible repeat (fail)); exact BK971.1) hb)
          have n3_ := Sd.mk (kB (g := gb972) (o := .cells #[.int .i64 a3_0, .int .i64 a3_1] 85 (0, 0)) (by (with_reducible repeat (fail)); exact BK972.1) hb)
          have n4_ := Sd.mk (bT (by repeat (first | (with_reducible first | exact HB.1 ) )) hb)
          clear HO983
          clear BK971
          clear BK972
          clear HB
          have HO983 := n0_
          have HO977 := n1_
          have BK971 := n2_
          have BK972 := n3_
          have HB := n4_
          clear n0_ n1_ n2_ n3_ n4_
          clear hb ho56
          refine hK.out _ _ ⟨(kC BK972.1 0).trans rfl, (kC BK972.1 1).trans rfl⟩ (fun hHeld => ?_)
          clear hK K
          refine norm_ (a' := ?_) ?_ ?_
          rotate_left
          ·show Act.put _ (some 41) _ = _
           simp only [Act.put, List.setIfInBounds_toArray, List.set_cons_zero, List.set_cons_succ, i64_w, i32_w]
           rfl
          refine one_ (i := 2) (N := some 43) #[true, true, true, true, true, false, false] rfl rfl (by kernel_rfl) (by decide) (fun K hK => ?_)
          refine Kd.R_append_rows_step k85 (w0 := w) w.heap.size (by rfl) (.tmp 41) (.tmp 42) 68 85 (.agg #[(.int .i64 0), (.int .i64 0)]) 16 rfl Try.underlying68 info85 rfl (by decide) (by omega) v976 y975 l2 _ _ _ (fun k_ => some k_ ≠ (v982 : Value).ownBlock ∧ k_ ≠ gb972) (fun _ => False) rfl rfl ?aO ?aR (fun _ _ h => h) (fun _ h => h.elim) ?aF ?aB ?aS ?aL ?_
          (case aR => repeat (first | exact (Kd.C_below HR2.1 HB.1) ))
          (case aB => exact (by repeat (first | (with_reducible first | exact HB.1 ) )))
          (case aF => exact (fun k_ hk => ⟨Kd.fresh' (Kd.R_lt (by (with_reducible repeat (fail)); exact HO983.1)) k_ hk, Kd.freshB (g := gb972) (o := .cells #[.int .i64 a3_0, .int .i64 a3_1] 85 (0, 0)) (by (with_reducible repeat (fail)); exact BK972.1) k_ hk⟩))
          (case aO => exact (by (with_reducible repeat (fail)); exact Kd.R_mono HO977.1 (fun _ hk => ⟨hk.1.2, hk.2⟩)))
          (case aS => exact (bZ (by repeat (first | (with_reducible first | exact HB.1 ) ))))
          (case aL => have := LMc24.1; omega)
          intro v979 w57 ho hb hg hat
          rw [← Ny978.1] at ho
          have n0_ := Sd.mk (blk_grown (g := gb971) (o := .cells #[.int .i64 a0_0, .int .i64 a0_1, .slice A0_2 l0_2.length c0_2, .slice A0_3 l0_3.length c0_3] 25 (0, 0)) (by (with_reducible repeat (fail)); exact BK971.1) hg (Kd.R_ne HO977.1 BK971.1 (by decide)))
          have n1_ := Sd.mk (blk_grown (g := gb972) (o := .cells #[.int .i64 a3_0, .int .i64 a3_1] 85 (0, 0)) (by (with_reducible repeat (fail)); exact BK972.1) hg (Kd.R_away HO977.1 (fun _ hk => hk.2)))
          have n2_ := Sd.mk (Kd.R_after (ok := (fun k_ => k_ ≠ gb972)) (by (with_reducible repeat (fail)); exact Kd.R_mono HO983.1 (fun _ hk => ⟨hk.1.2, hk.2⟩)) hg hat)
          have n3_ := Sd.mk (hb)
          have n4_ := Sd.mk (ho)
          clear BK971
          clear BK972
          clear HO983
          clear HB
          clear HO977
          have BK971 := n0_
          have BK972 := n1_
          have HO983 := n2_
          have HB := n3_
          have HO980 := n4_
          clear n0_ n1_ n2_ n3_ n4_
          clear ho hb hg hat
          refine hK.out _ _ ⟨(kC BK972.1 0).trans rfl, (kC BK972.1 1).trans rfl⟩ (fun hHeld => ?_)
          clear hK K
          refine norm_ (a' := ?_) ?_ ?_
          rotate_left
          ·show Act.put _ (some 43) _ = _
           simp only [Act.put, List.setIfInBounds_toArray, List.set_cons_zero, List.set_cons_succ, i64_w, i32_w]
           rfl
          exact norm_ (by simp only [Go.Proofs.YtnidgkmopocdkaaW.PrintLast.putAll, Act.put, List.setIfInBounds_toArray, List.set_cons_zero, List.set_cons_succ]) (hCont (v976, v979, v982) _ ⟨hHeld, (by (with_reducible repeat (fail)); exact HO980.1), (by (with_reducible repeat (fail)); exact Kd.R_mono HO983.1 (fun _ hk => ⟨hk.2, hk.1⟩)), (by (with_reducible repeat (fail)); exact BK971.1), (by (with_reducible repeat (fail)); exact BK972.1), (by repeat (first | (with_reducible first | exact HB.1 ) ))⟩)
        rintro ⟨v976, v979, v982⟩ w58 ⟨hS_, h0_, h1_, h2_, h3_, h4_⟩
        have n0_ : Sd (Kd.R k85 85 w58 w.heap.size (fun k_ => some k_ ≠ (v982 : Value).ownBlock ∧ k_ ≠ gb972) v979 y978) := ⟨h0_⟩
        have n1_ : Sd (Kd.R k85 85 w58 w.heap.size (fun k_ => some k_ ≠ (v979 : Value).ownBlock ∧ k_ ≠ gb972) v982 y981) := ⟨h1_⟩
        have n2_ : Sd (w58.heap[gb971]? = some (.cells #[.int .i64 a0_0, .int .i64 a0_1, .slice A0_2 l0_2.length c0_2, .slice A0_3 l0_3.length c0_3] 25 (0, 0))) := ⟨h2_⟩
        have n3_ : Sd (w58.heap[gb972]? = some (.cells #[.int .i64 a3_0, .int .i64 a3_1] 85 (0, 0))) := ⟨h3_⟩
        have n4_ : Sd (Below w.heap.size w w58) := ⟨h4_⟩
        clear BK971
        clear BK972
        clear HB
        clear h0_ h1_ h2_ h3_ h4_
        have HO980 := n0_
        have HO983 := n1_
        have BK971 := n2_
        have BK972 := n3_
        have HB := n4_
        clear n0_ n1_ n2_ n3_ n4_
        have hHeld : w58.cell? ⟨gb972, 0, none⟩ = some (.int .i64 a3_0) ∧ w58.cell? ⟨gb972, 1, none⟩ = some (.int .i64 a3_1) := hS_
        obtain ⟨Ao60, co60, eo60⟩ := Kd.R_slice HO983.1
        (subst eo60 )
        refine norm_ (a' := ?_) ?_ ?_
        rotate_left
        ·simp only [Go.Proofs.YtnidgkmopocdkaaW.PrintLast.putAll, Act.put, List.setIfInBounds_toArray, List.set_cons_zero, List.set_cons_succ]
         rfl
        refine one_ (i := 5) (N := some 46) #[true, true, true, true, true, true, false] rfl rfl (by kernel_rfl) (by decide) (fun K hK => ?_)
        refine Kd.R_append_rows_step k85 (w0 := w) w.heap.size (by rfl) (.tmp 43) (.tmp 45) 68 85 (.agg #[(.int .i64 0), (.int .i64 0)]) 16 rfl Try.underlying68 info85 rfl (by decide) (by omega) v979 y978 y981 _ _ _ (fun k_ => some k_ ≠ (.slice Ao60 y981.length co60 : Value).ownBlock ∧ k_ ≠ gb972) (fun _ => False) rfl rfl ?aO ?aR (fun _ _ h => h) (fun _ h => h.elim) ?aF ?aB ?aS ?aL ?_
        (case aR => repeat (first | exact (Kd.R_reads' HO983.1).2.2 ))
        (case aB => exact (by repeat (first | (with_reducible first | exact HB.1 ) )))
        (case aF => exact (fun k_ hk => ⟨Kd.fresh' (Kd.R_lt (by (with_reducible repeat (fail)); exact HO983.1)) k_ hk, Kd.freshB (g := gb972) (o := .cells #[.int .i64 a3_0, .int .i64 a3_1] 85 (0, 0)) (by (with_reducible repeat (fail)); exact BK972.1) k_ hk⟩))
        (case aO => exact (by (with_reducible repeat (fail)); exact HO980.1))
        (case aS => exact (bZ (by repeat (first | (with_reducible first | exact HB.1 ) ))))
        (case aL => have := LMc25.1; omega)
        intro v985 w59 ho hb hg hat
        rw [← Ny984.1] at ho
        have n0_ := Sd.mk (blk_grown (g := gb971) (o := .cells #[.int .i64 a0_0, .int .i64 a0_1, .slice A0_2 l0_2.length c0_2, .slice A0_3 l0_3.length c0_3] 25 (0, 0)) (by (with_reducible repeat (fail)); exact BK971.1) hg (Kd.R_ne HO980.1 BK971.1 (by decide)))
        have n1_ := Sd.mk (blk_grown (g := gb972) (o := .cells #[.int .i64 a3_0, .int .i64 a3_1] 85 (0, 0)) (by (with_reducible repeat (fail)); exact BK972.1) hg (Kd.R_away HO980.1 (fun _ hk => hk.2)))
        have n2_ := Sd.mk (Kd.R_after (ok := (fun k_ => k_ ≠ gb972)) (by (with_reducible repeat (fail)); exact Kd.R_mono HO983.1 (fun _ hk => ⟨hk.2, hk.1⟩)) hg hat)
        have n3_ := Sd.mk (hb)
        have n4_ := Sd.mk (ho)
        clear BK971
        clear BK972
        clear HO983
        clear HB
        clear HO980
        have BK971 := n0_
        have BK972 := n1_
        have HO983 := n2_
        have HB := n3_
        have HO986 := n4_
        clear n0_ n1_ n2_ n3_ n4_
        clear ho hb hg hat
        refine hK.out _ _ ⟨(kC BK972.1 0).trans rfl, (kC BK972.1 1).trans rfl⟩ (fun hHeld => ?_)
        clear hK K
        refine norm_ (a' := ?_) ?_ ?_
        rotate_left
        ·show Act.put _ (some 46) _ = _
         simp only [Act.put, List.setIfInBounds_toArray, List.set_cons_zero, List.set_cons_succ, i64_w, i32_w]
         rfl
        refine pure_ (i := 6) (N := some 11) (v := ?_) (a' := ?_) #[true, true, true, true, true, true, true] rfl rfl (by kernel_rfl) (fun _ _ _ h => h) (Or.inl ⟨by rfl, ?_⟩) ?_ ?_
        rotate_left
        ·intro w'
         go_simp
         with_reducible rfl
        rotate_left
        ·simp only [Act.put, List.setIfInBounds_toArray, List.set_cons_zero, List.set_cons_succ, i64_w, i32_w]
         rfl
        refine done_ (by kernel_rfl) ?_
        have hnb61 := NB971_972.1
        have hnc61 := NB972_971.1
        have z_62_0 : w59.cell? ⟨gb971, 0, none⟩ = some (.int .i64 a0_0) := (kC BK971.1 0).trans rfl
        have z_62_1 : w59.cell? ⟨gb971, 1, none⟩ = some (.int .i64 a0_1) := (kC BK971.1 1).trans rfl
        have z_62_2 : w59.cell? ⟨gb971, 2, none⟩ = some (.slice A0_2 l0_2.length c0_2) := (kC BK971.1 2).trans rfl
        have z_62_3 : w59.cell? ⟨gb971, 3, none⟩ = some (.slice A0_3 l0_3.length c0_3) := (kC BK971.1 3).trans rfl
        obtain ⟨Ao63, co63, eo63⟩ := Kd.R_slice HO986.1
        subst eo63
        go_upto_region 13 with (first | ((with_reducible refine gate_callee (f := 43) rfl ?_); refine goesL_ (some 50) rfl rfl Try.func43 (by kernel_rfl) rfl #[.agg #[.int .i64 a0_0, .int .i64 a0_1, .slice A0_2 l0_2.length c0_2, .slice A0_3 l0_3.length c0_3], .slice A1 l1.length c1, .slice Ao63 y984.length co63] rfl (by (try simp only [List.map_toArray, List.map_cons, List.map_nil]); first | rfl ) ?_; (with_reducible refine (glisterlaw04_asked.calls kj5 a0_0 a0_1 _ _ l0_2 _ _ l0_3 _ _ l1 _ _ y984 t987 _ ?side1 ?side2 ?side3 ?side4 ?side5 ?side6 ?side7 ?side8 A26.1).mono ?_); (case side1 => repeat (first | exact (Kd.C_below HR0_2.1 HB.1) )); (case side2 => exact HC0_2.1); (case side3 => repeat (first | exact (Kd.C_below HR0_3.1 HB.1) )); (case side4 => exact HC0_3.1); (case side5 => repeat (first | exact (Kd.C_below HR1.1 HB.1) )); (case side6 => exact HC1.1); (case side7 => repeat (first | exact (Kd.R_reads' HO986.1).2.2 )); (case side8 => exact (Kd.R_reads' HO986.1).2.1); rintro e w64 ⟨rfl, hb⟩; refine ⟨_, rfl, ?_⟩; replace HO983 := Sd.mk (Kd.R_below (by (with_reducible repeat (fail)); exact HO983.1) hb); replace HO986 := Sd.mk (Kd.R_below (by (with_reducible repeat (fail)); exact HO986.1) hb); replace BK971 := Sd.mk (kB (g := gb971) (o := .cells #[.int .i64 a0_0, .int .i64 a0_1, .slice A0_2 l0_2.length c0_2, .slice A0_3 l0_3.length c0_3] 25 (0, 0)) (by (with_reducible repeat (fail)); exact BK971.1) hb); replace BK972 := Sd.mk (kB (g := gb972) (o := .cells #[.int .i64 a3_0, .int .i64 a3_1] 85 (0, 0)) (by (with_reducible repeat (fail)); exact BK972.1) hb); replace HB := Sd.mk (bT (by repeat (first | (with_reducible first | exact HB.1 ) )) hb); (try clear hb); have z_65_0 : w64.cell? ⟨gb971, 0, none⟩ = some (.int .i64 a0_0) := (kC BK971.1 0).trans rfl; have z_65_1 : w64.cell? ⟨gb971, 1, none⟩ = some (.int .i64 a0_1) := (kC BK971.1 1).trans rfl; have z_65_2 : w64.cell? ⟨gb971, 2, none⟩ = some (.slice A0_2 l0_2.length c0_2) := (kC BK971.1 2).trans rfl; have z_65_3 : w64.cell? ⟨gb971, 3, none⟩ = some (.slice A0_3 l0_3.length c0_3) := (kC BK971.1 3).trans rfl) | ((with_reducible refine gate_callee (f := 19) rfl ?_); refine goesL_ (some 60) rfl rfl Try.func19 (by kernel_rfl) rfl #[.agg #[.int .i64 a0_0, .int .i64 a0_1, .slice A0_2 l0_2.length c0_2, .slice A0_3 l0_3.length c0_3]] rfl (by (try simp only [List.map_toArray, List.map_cons, List.map_nil]); first | rfl ) ?_; (with_reducible refine (glisterlaw04_Book.calls kj5 a0_0 a0_1 _ _ l0_2 _ _ l0_3 t989 t990 t991 t994 _ ?side1 ?side2 ?side3 ?side4 A29.1).mono ?_); (case side1 => repeat (first | exact (Kd.C_below HR0_2.1 HB.1) )); (case side2 => exact HC0_2.1); (case side3 => repeat (first | exact (Kd.C_below HR0_3.1 HB.1) )); (case side4 => exact HC0_3.1); rintro e w66 ⟨v992, v995, rfl, ho0, ho1, hb⟩; refine ⟨_, rfl, ?_⟩; replace HO983 := Sd.mk (Kd.R_below (by (with_reducible repeat (fail)); exact HO983.1) hb); replace HO986 := Sd.mk (Kd.R_below (by (with_reducible repeat (fail)); exact HO986.1) hb); have HO993 := Sd.mk (Kd.R_lower ho0 (bZ (by repeat (first | (with_reducible first | exact HB.1 ) )))); have HO996 := Sd.mk (Kd.R_lower ho1 (bZ (by repeat (first | (with_reducible first | exact HB.1 ) )))); replace BK971 := Sd.mk (kB (g := gb971) (o := .cells #[.int .i64 a0_0, .int .i64 a0_1, .slice A0_2 l0_2.length c0_2, .slice A0_3 l0_3.length c0_3] 25 (0, 0)) (by (with_reducible repeat (fail)); exact BK971.1) hb); replace BK972 := Sd.mk (kB (g := gb972) (o := .cells #[.int .i64 a3_0, .int .i64 a3_1] 85 (0, 0)) (by (with_reducible repeat (fail)); exact BK972.1) hb); replace HB := Sd.mk (bT (by repeat (first | (with_reducible first | exact HB.1 ) )) hb); (try clear hb); (try clear ho0); (try clear ho1); (try clear A29)) | ((with_reducible refine gate_callee (f := 21) rfl ?_); refine goesL_ (some 62) rfl rfl Try.func21 (by kernel_rfl) rfl #[.slice A1 l1.length c1] rfl (by (try simp only [List.map_toArray, List.map_cons, List.map_nil]); first | rfl ) ?_; (with_reducible refine (glisterlaw04_list.calls _ _ l1 t997 _ ?side1 ?side2 A30.1).mono ?_); (case side1 => repeat (first | exact (Kd.C_below HR1.1 HB.1) )); (case side2 => exact HC1.1); rintro e w67 ⟨v998, rfl, ho0, hb⟩; refine ⟨_, rfl, ?_⟩; replace HO983 := Sd.mk (Kd.R_below (by (with_reducible repeat (fail)); exact HO983.1) hb); replace HO986 := Sd.mk (Kd.R_below (by (with_reducible repeat (fail)); exact HO986.1) hb); replace HO993 := Sd.mk (Kd.R_below (by (with_reducible repeat (fail)); exact HO993.1) hb); have HO999 := Sd.mk (Kd.R_lower (Kd.R_new' ho0 (Kd.R_lt (by (with_reducible repeat (fail)); exact HO996.1))) (bZ (by repeat (first | (with_reducible first | exact HB.1 ) )))); replace HO996 := Sd.mk (Kd.R_elder' (by (with_reducible repeat (fail)); exact HO996.1) (Kd.R_base ho0) hb); replace BK971 := Sd.mk (kB (g := gb971) (o := .cells #[.int .i64 a0_0, .int .i64 a0_1, .slice A0_2 l0_2.length c0_2, .slice A0_3 l0_3.length c0_3] 25 (0, 0)) (by (with_reducible repeat (fail)); exact BK971.1) hb); replace BK972 := Sd.mk (kB (g := gb972) (o := .cells #[.int .i64 a3_0, .int .i64 a3_1] 85 (0, 0)) (by (with_reducible repeat (fail)); exact BK972.1) hb); replace HB := Sd.mk (bT (by repeat (first | (with_reducible first | exact HB.1 ) )) hb); (try clear hb); (try clear ho0); (try clear A30)) | ((with_reducible refine gate_callee (f := 41) rfl ?_); refine goesL_ (some 64) rfl rfl Try.func41 (by kernel_rfl) rfl #[.slice A2 l2.length c2] rfl (by (try simp only [List.map_toArray, List.map_cons, List.map_nil]); first | rfl ) ?_; (with_reducible refine (glisterlaw04_Guesses.calls kj5 _ _ l2 t1000 _ ?side1 ?side2 A31.1).mono ?_); (case side1 => repeat (first | exact (Kd.C_below HR2.1 HB.1) )); (case side2 => exact HC2.1); rintro e w68 ⟨v1001, rfl, ho0, hb⟩; refine ⟨_, rfl, ?_⟩; replace HO983 := Sd.mk (Kd.R_below (by (with_reducible repeat (fail)); exact HO983.1) hb); replace HO986 := Sd.mk (Kd.R_below (by (with_reducible repeat (fail)); exact HO986.1) hb); replace HO993 := Sd.mk (Kd.R_below (by (with_reducible repeat (fail)); exact HO993.1) hb); replace HO996 := Sd.mk (Kd.R_below (by (with_reducible repeat (fail)); exact HO996.1) hb); replace HO999 := Sd.mk (Kd.R_below (by (with_reducible repeat (fail)); exact HO999.1) hb); have HO1002 := Sd.mk (Kd.R_lower ho0 (bZ (by repeat (first | (with_reducible first | exact HB.1 ) )))); replace BK971 := Sd.mk (kB (g := gb971) (o := .cells #[.int .i64 a0_0, .int .i64 a0_1, .slice A0_2 l0_2.length c0_2, .slice A0_3 l0_3.length c0_3] 25 (0, 0)) (by (with_reducible repeat (fail)); exact BK971.1) hb); replace BK972 := Sd.mk (kB (g := gb972) (o := .cells #[.int .i64 a3_0, .int .i64 a3_1] 85 (0, 0)) (by (with_reducible repeat (fail)); exact BK972.1) hb); replace HB := Sd.mk (bT (by repeat (first | (with_reducible first | exact HB.1 ) )) hb); (try clear hb); (try clear ho0); obtain ⟨Ao69, co69, eo69⟩ := Kd.R_slice HO993.1; subst eo69; obtain ⟨Ao70, co70, eo70⟩ := Kd.R_slice HO996.1; subst eo70; obtain ⟨Ao71, co71, eo71⟩ := Kd.R_slice HO999.1; subst eo71; obtain ⟨Ao72, co72, eo72⟩ := Kd.R_slice HO1002.1; subst eo72; (try clear A31)) | ((with_reducible refine gate_callee (f := 40) rfl ?_); refine goesL_ (some 65) rfl rfl Try.func40 (by kernel_rfl) rfl #[.agg #[.int .i64 t989, .int .i64 t990, .slice Ao69 t991.length co69, .slice Ao70 t994.length co70], .slice Ao71 t997.length co71, .slice Ao72 t1000.length co72] rfl (by (try simp only [List.map_toArray, List.map_cons, List.map_nil]); first | rfl ) ?_; (with_reducible refine (cipher_Fits.calls t989 t990 _ _ t991 _ _ t994 _ _ t997 _ _ t1000 t1003 t1004 _ ?side1 ?side2 ?side3 ?side4 ?side5 ?side6 ?side7 ?side8 A32.1).mono ?_); (case side1 => repeat (first | exact (Kd.R_reads' HO993.1).2.2 )); (case side2 => exact (Kd.R_reads' HO993.1).2.1); (case side3 => repeat (first | exact (Kd.R_reads' HO996.1).2.2 )); (case side4 => exact (Kd.R_reads' HO996.1).2.1); (case side5 => repeat (first | exact (Kd.R_reads' HO999.1).2.2 )); (case side6 => exact (Kd.R_reads' HO999.1).2.1); (case side7 => repeat (first | exact (Kd.R_reads' HO1002.1).2.2 )); (case side8 => exact (Kd.R_reads' HO1002.1).2.1); rintro e w73 ⟨rfl, hb⟩; refine ⟨_, rfl, ?_⟩; replace HO983 := Sd.mk (Kd.R_below (by (with_reducible repeat (fail)); exact HO983.1) hb); replace HO986 := Sd.mk (Kd.R_below (by (with_reducible repeat (fail)); exact HO986.1) hb); replace HO993 := Sd.mk (Kd.R_below (by (with_reducible repeat (fail)); exact HO993.1) hb); replace HO996 := Sd.mk (Kd.R_below (by (with_reducible repeat (fail)); exact HO996.1) hb); replace HO999 := Sd.mk (Kd.R_below (by (with_reducible repeat (fail)); exact HO999.1) hb); replace HO1002 := Sd.mk (Kd.R_below (by (with_reducible repeat (fail)); exact HO1002.1) hb); replace BK971 := Sd.mk (kB (g := gb971) (o := .cells #[.int .i64 a0_0, .int .i64 a0_1, .slice A0_2 l0_2.length c0_2, .slice A0_3 l0_3.length c0_3] 25 (0, 0)) (by (with_reducible repeat (fail)); exact BK971.1) hb); replace BK972 := Sd.mk (kB (g := gb972) (o := .cells #[.int .i64 a3_0, .int .i64 a3_1] 85 (0, 0)) (by (with_reducible repeat (fail)); exact BK972.1) hb); replace HB := Sd.mk (bT (by repeat (first | (with_reducible first | exact HB.1 ) )) hb); (try clear hb); have z_74_0 : w73.cell? ⟨gb971, 0, none⟩ = some (.int .i64 a0_0) := (kC BK971.1 0).trans rfl; have z_74_1 : w73.cell? ⟨gb971, 1, none⟩ = some (.int .i64 a0_1) := (kC BK971.1 1).trans rfl; have z_74_2 : w73.cell? ⟨gb971, 2, none⟩ = some (.slice A0_2 l0_2.length c0_2) := (kC BK971.1 2).trans rfl; have z_74_3 : w73.cell? ⟨gb971, 3, none⟩ = some (.slice A0_3 l0_3.length c0_3) := (kC BK971.1 3).trans rfl; (try clear A32)) | ((with_reducible refine gate_callee (f := 19) rfl ?_); refine goesL_ (some 70) rfl rfl Try.func19 (by kernel_rfl) rfl #[.agg #[.int .i64 a0_0, .int .i64 a0_1, .slice A0_2 l0_2.length c0_2, .slice A0_3 l0_3.length c0_3]] rfl (by (try simp only [List.map_toArray, List.map_cons, List.map_nil]); first | rfl ) ?_; (with_reducible refine (glisterlaw04_Book.calls kj5 a0_0 a0_1 _ _ l0_2 _ _ l0_3 t1005 t1006 t1007 t1010 _ ?side1 ?side2 ?side3 ?side4 A33.1).mono ?_); (case side1 => repeat (first | exact (Kd.C_below HR0_2.1 HB.1) )); (case side2 => exact HC0_2.1); (case side3 => repeat (first | exact (Kd.C_below HR0_3.1 HB.1) )); (case side4 => exact HC0_3.1); rintro e w75 ⟨v1008, v1011, rfl, ho0, ho1, hb⟩; refine ⟨_, rfl, ?_⟩; replace HO983 := Sd.mk (Kd.R_below (by (with_reducible repeat (fail)); exact HO983.1) hb); replace HO986 := Sd.mk (Kd.R_below (by (with_reducible repeat (fail)); exact HO986.1) hb); replace HO1002 := Sd.mk (Kd.R_below (by (with_reducible repeat (fail)); exact HO1002.1) hb); have HO1009 := Sd.mk (Kd.R_lower (Kd.R_new' ho0 (Kd.R_lt (by (with_reducible repeat (fail)); exact HO993.1))) (bZ (by repeat (first | (with_reducible first | exact HB.1 ) )))); replace HO993 := Sd.mk (Kd.R_elder' (by (with_reducible repeat (fail)); exact HO993.1) (Kd.R_base ho0) hb); have HO1012 := Sd.mk (Kd.R_lower (Kd.R_new' (Kd.R_new' ho1 (Kd.R_lt (by (with_reducible repeat (fail)); exact HO996.1))) (Kd.R_lt (by (with_reducible repeat (fail)); exact HO999.1))) (bZ (by repeat (first | (with_reducible first | exact HB.1 ) )))); replace HO996 := Sd.mk (Kd.R_elder' (by (with_reducible repeat (fail)); exact HO996.1) (Kd.R_base ho1) hb); replace HO999 := Sd.mk (Kd.R_elder' (by (with_reducible repeat (fail)); exact HO999.1) (Kd.R_base ho1) hb); replace BK971 := Sd.mk (kB (g := gb971) (o := .cells #[.int .i64 a0_0, .int .i64 a0_1, .slice A0_2 l0_2.length c0_2, .slice A0_3 l0_3.length c0_3] 25 (0, 0)) (by (with_reducible repeat (fail)); exact BK971.1) hb); replace BK972 := Sd.mk (kB (g := gb972) (o := .cells #[.int .i64 a3_0, .int .i64 a3_1] 85 (0, 0)) (by (with_reducible repeat (fail)); exact BK972.1) hb); replace HB := Sd.mk (bT (by repeat (first | (with_reducible first | exact HB.1 ) )) hb); (try clear hb); (try clear ho0); (try clear ho1); (try clear A33)) | ((with_reducible refine gate_callee (f := 21) rfl ?_); refine goesL_ (some 72) rfl rfl Try.func21 (by kernel_rfl) rfl #[.slice A1 l1.length c1] rfl (by (try simp only [List.map_toArray, List.map_cons, List.map_nil]); first | rfl ) ?_; (with_reducible refine (glisterlaw04_list.calls _ _ l1 t1013 _ ?side1 ?side2 A34.1).mono ?_); (case side1 => repeat (first | exact (Kd.C_below HR1.1 HB.1) )); (case side2 => exact HC1.1); rintro e w76 ⟨v1014, rfl, ho0, hb⟩; refine ⟨_, rfl, ?_⟩; replace HO983 := Sd.mk (Kd.R_below (by (with_reducible repeat (fail)); exact HO983.1) hb); replace HO986 := Sd.mk (Kd.R_below (by (with_reducible repeat (fail)); exact HO986.1) hb); replace HO993 := Sd.mk (Kd.R_below (by (with_reducible repeat (fail)); exact HO993.1) hb); replace HO1002 := Sd.mk (Kd.R_below (by (with_reducible repeat (fail)); exact HO1002.1) hb); replace HO1009 := Sd.mk (Kd.R_below (by (with_reducible repeat (fail)); exact HO1009.1) hb); have HO1015 := Sd.mk (Kd.R_lower (Kd.R_new' (Kd.R_new' (Kd.R_new' ho0 (Kd.R_lt (by (with_reducible repeat (fail)); exact HO996.1))) (Kd.R_lt (by (with_reducible repeat (fail)); exact HO999.1))) (Kd.R_lt (by (with_reducible repeat (fail)); exact HO1012.1))) (bZ (by repeat (first | (with_reducible first | exact HB.1 ) )))); replace HO996 := Sd.mk (Kd.R_elder' (by (with_reducible repeat (fail)); exact HO996.1) (Kd.R_base ho0) hb); replace HO999 := Sd.mk (Kd.R_elder' (by (with_reducible repeat (fail)); exact HO999.1) (Kd.R_base ho0) hb); replace HO1012 := Sd.mk (Kd.R_elder' (by (with_reducible repeat (fail)); exact HO1012.1) (Kd.R_base ho0) hb); replace BK971 := Sd.mk (kB (g := gb971) (o := .cells #[.int .i64 a0_0, .int .i64 a0_1, .slice A0_2 l0_2.length c0_2, .slice A0_3 l0_3.length c0_3] 25 (0, 0)) (by (with_reducible repeat (fail)); exact BK971.1) hb); replace BK972 := Sd.mk (kB (g := gb972) (o := .cells #[.int .i64 a3_0, .int .i64 a3_1] 85 (0, 0)) (by (with_reducible repeat (fail)); exact BK972.1) hb); replace HB := Sd.mk (bT (by repeat (first | (with_reducible first | exact HB.1 ) )) hb); (try clear hb); (try clear ho0); (try clear A34)) | ((with_reducible refine gate_callee (f := 41) rfl ?_); refine goesL_ (some 74) rfl rfl Try.func41 (by kernel_rfl) rfl #[.slice Ao63 y984.length co63] rfl (by (try simp only [List.map_toArray, List.map_cons, List.map_nil]); first | rfl ) ?_; (with_reducible refine (glisterlaw04_Guesses.calls kj5 _ _ y984 t1016 _ ?side1 ?side2 A35.1).mono ?_); (case side1 => repeat (first | exact (Kd.R_reads' HO986.1).2.2 )); (case side2 => exact (Kd.R_reads' HO986.1).2.1); rintro e w77 ⟨v1017, rfl, ho0, hb⟩; refine ⟨_, rfl, ?_⟩; replace HO983 := Sd.mk (Kd.R_below (by (with_reducible repeat (fail)); exact HO983.1) hb); replace HO986 := Sd.mk (Kd.R_below (by (with_reducible repeat (fail)); exact HO986.1) hb); replace HO993 := Sd.mk (Kd.R_below (by (with_reducible repeat (fail)); exact HO993.1) hb); replace HO996 := Sd.mk (Kd.R_below (by (with_reducible repeat (fail)); exact HO996.1) hb); replace HO999 := Sd.mk (Kd.R_below (by (with_reducible repeat (fail)); exact HO999.1) hb); replace HO1009 := Sd.mk (Kd.R_below (by (with_reducible repeat (fail)); exact HO1009.1) hb); replace HO1012 := Sd.mk (Kd.R_below (by (with_reducible repeat (fail)); exact HO1012.1) hb); replace HO1015 := Sd.mk (Kd.R_below (by (with_reducible repeat (fail)); exact HO1015.1) hb); have HO1018 := Sd.mk (Kd.R_lower (Kd.R_new' ho0 (Kd.R_lt (by (with_reducible repeat (fail)); exact HO1002.1))) (bZ (by repeat (first | (with_reducible first | exact HB.1 ) )))); replace HO1002 := Sd.mk (Kd.R_elder' (by (with_reducible repeat (fail)); exact HO1002.1) (Kd.R_base ho0) hb); replace BK971 := Sd.mk (kB (g := gb971) (o := .cells #[.int .i64 a0_0, .int .i64 a0_1, .slice A0_2 l0_2.length c0_2, .slice A0_3 l0_3.length c0_3] 25 (0, 0)) (by (with_reducible repeat (fail)); exact BK971.1) hb); replace BK972 := Sd.mk (kB (g := gb972) (o := .cells #[.int .i64 a3_0, .int .i64 a3_1] 85 (0, 0)) (by (with_reducible repeat (fail)); exact BK972.1) hb); replace HB := Sd.mk (bT (by repeat (first | (with_reducible first | exact HB.1 ) )) hb); (try clear hb); (try clear ho0); obtain ⟨Ao78, co78, eo78⟩ := Kd.R_slice HO1009.1; subst eo78; obtain ⟨Ao79, co79, eo79⟩ := Kd.R_slice HO1012.1; subst eo79; obtain ⟨Ao80, co80, eo80⟩ := Kd.R_slice HO1015.1; subst eo80; obtain ⟨Ao81, co81, eo81⟩ := Kd.R_slice HO1018.1; subst eo81; (try clear A35)) | ((with_reducible refine gate_callee (f := 40) rfl ?_); refine goesL_ (some 75) rfl rfl Try.func40 (by kernel_rfl) rfl #[.agg #[.int .i64 t1005, .int .i64 t1006, .slice Ao78 t1007.length co78, .slice Ao79 t1010.length co79], .slice Ao80 t1013.length co80, .slice Ao81 t1016.length co81] rfl (by (try simp only [List.map_toArray, List.map_cons, List.map_nil]); first | rfl ) ?_; (with_reducible refine (cipher_Fits.calls t1005 t1006 _ _ t1007 _ _ t1010 _ _ t1013 _ _ t1016 t1019 t1020 _ ?side1 ?side2 ?side3 ?side4 ?side5 ?side6 ?side7 ?side8 A36.1).mono ?_); (case side1 => repeat (first | exact (Kd.R_reads' HO1009.1).2.2 )); (case side2 => exact (Kd.R_reads' HO1009.1).2.1); (case side3 => repeat (first | exact (Kd.R_reads' HO1012.1).2.2 )); (case side4 => exact (Kd.R_reads' HO1012.1).2.1); (case side5 => repeat (first | exact (Kd.R_reads' HO1015.1).2.2 )); (case side6 => exact (Kd.R_reads' HO1015.1).2.1); (case side7 => repeat (first | exact (Kd.R_reads' HO1018.1).2.2 )); (case side8 => exact (Kd.R_reads' HO1018.1).2.1); rintro e w82 ⟨rfl, hb⟩; refine ⟨_, rfl, ?_⟩; replace HO983 := Sd.mk (Kd.R_below (by (with_reducible repeat (fail)); exact HO983.1) hb); replace HO986 := Sd.mk (Kd.R_below (by (with_reducible repeat (fail)); exact HO986.1) hb); replace HO993 := Sd.mk (Kd.R_below (by (with_reducible repeat (fail)); exact HO993.1) hb); replace HO996 := Sd.mk (Kd.R_below (by (with_reducible repeat (fail)); exact HO996.1) hb); replace HO999 := Sd.mk (Kd.R_below (by (with_reducible repeat (fail)); exact HO999.1) hb); replace HO1002 := Sd.mk (Kd.R_below (by (with_reducible repeat (fail)); exact HO1002.1) hb); replace HO1009 := Sd.mk (Kd.R_below (by (with_reducible repeat (fail)); exact HO1009.1) hb); replace HO1012 := Sd.mk (Kd.R_below (by (with_reducible repeat (fail)); exact HO1012.1) hb); replace HO1015 := Sd.mk (Kd.R_below (by (with_reducible repeat (fail)); exact HO1015.1) hb); replace HO1018 := Sd.mk (Kd.R_below (by (with_reducible repeat (fail)); exact HO1018.1) hb); replace BK971 := Sd.mk (kB (g := gb971) (o := .cells #[.int .i64 a0_0, .int .i64 a0_1, .slice A0_2 l0_2.length c0_2, .slice A0_3 l0_3.length c0_3] 25 (0, 0)) (by (with_reducible repeat (fail)); exact BK971.1) hb); replace BK972 := Sd.mk (kB (g := gb972) (o := .cells #[.int .i64 a3_0, .int .i64 a3_1] 85 (0, 0)) (by (with_reducible repeat (fail)); exact BK972.1) hb); replace HB := Sd.mk (bT (by repeat (first | (with_reducible first | exact HB.1 ) )) hb); (try clear hb); have z_83_0 : w82.cell? ⟨gb971, 0, none⟩ = some (.int .i64 a0_0) := (kC BK971.1 0).trans rfl; have z_83_1 : w82.cell? ⟨gb971, 1, none⟩ = some (.int .i64 a0_1) := (kC BK971.1 1).trans rfl; have z_83_2 : w82.cell? ⟨gb971, 2, none⟩ = some (.slice A0_2 l0_2.length c0_2) := (kC BK971.1 2).trans rfl; have z_83_3 : w82.cell? ⟨gb971, 3, none⟩ = some (.slice A0_3 l0_3.length c0_3) := (kC BK971.1 3).trans rfl; (try clear A36)) | ((with_reducible refine gate_callee (f := 19) rfl ?_); refine goesL_ (some 80) rfl rfl Try.func19 (by kernel_rfl) rfl #[.agg #[.int .i64 a0_0, .int .i64 a0_1, .slice A0_2 l0_2.length c0_2, .slice A0_3 l0_3.length c0_3]] rfl (by (try simp only [List.map_toArray, List.map_cons, List.map_nil]); first | rfl ) ?_; (with_reducible refine (glisterlaw04_Book.calls kj5 a0_0 a0_1 _ _ l0_2 _ _ l0_3 t1021 t1022 t1023 t1026 _ ?side1 ?side2 ?side3 ?side4 A37.1).mono ?_); (case side1 => repeat (first | exact (Kd.C_below HR0_2.1 HB.1) )); (case side2 => exact HC0_2.1); (case side3 => repeat (first | exact (Kd.C_below HR0_3.1 HB.1) )); (case side4 => exact HC0_3.1); rintro e w84 ⟨v1024, v1027, rfl, ho0, ho1, hb⟩; refine ⟨_, rfl, ?_⟩; have n0_ := Sd.mk (Kd.R_below (by (with_reducible repeat (fail)); exact HO983.1) hb); have n1_ := Sd.mk (Kd.R_below (by (with_reducible repeat (fail)); exact HO986.1) hb); have n2_ := Sd.mk (Kd.R_elder' (by (with_reducible repeat (fail)); exact HO993.1) (Kd.R_base ho0) hb); have n3_ := Sd.mk (Kd.R_elder' (by (with_reducible repeat (fail)); exact HO996.1) (Kd.R_base ho1) hb); have n4_ := Sd.mk (Kd.R_elder' (by (with_reducible repeat (fail)); exact HO999.1) (Kd.R_base ho1) hb); have n5_ := Sd.mk (Kd.R_below (by (with_reducible repeat (fail)); exact HO1002.1) hb); have n6_ := Sd.mk (Kd.R_elder' (by (with_reducible repeat (fail)); exact HO1009.1) (Kd.R_base ho0) hb); have n7_ := Sd.mk (Kd.R_elder' (by (with_reducible repeat (fail)); exact HO1012.1) (Kd.R_base ho1) hb); have n8_ := Sd.mk (Kd.R_elder' (by (with_reducible repeat (fail)); exact HO1015.1) (Kd.R_base ho1) hb); have n9_ := Sd.mk (Kd.R_below (by (with_reducible repeat (fail)); exact HO1018.1) hb); have n10_ := Sd.mk (Kd.R_lower (Kd.R_new' (Kd.R_new' ho0 (Kd.R_lt (by (with_reducible repeat (fail)); exact HO993.1))) (Kd.R_lt (by (with_reducible repeat (fail)); exact HO1009.1))) (bZ (by repeat (first | (with_reducible first | exact HB.1 ) )))); have n11_ := Sd.mk (Kd.R_lower (Kd.R_new' (Kd.R_new' (Kd.R_new' (Kd.R_new' ho1 (Kd.R_lt (by (with_reducible repeat (fail)); exact HO996.1))) (Kd.R_lt (by (with_reducible repeat (fail)); exact HO999.1))) (Kd.R_lt (by (with_reducible repeat (fail)); exact HO1012.1))) (Kd.R_lt (by (with_reducible repeat (fail)); exact HO1015.1))) (bZ (by repeat (first | (with_reducible first | exact HB.1 ) )))); have n12_ := Sd.mk (kB (g := gb971) (o := .cells #[.int .i64 a0_0, .int .i64 a0_1, .slice A0_2 l0_2.length c0_2, .slice A0_3 l0_3.length c0_3] 25 (0, 0)) (by (with_reducible repeat (fail)); exact BK971.1) hb); have n13_ := Sd.mk (kB (g := gb972) (o := .cells #[.int .i64 a3_0, .int .i64 a3_1] 85 (0, 0)) (by (with_reducible repeat (fail)); exact BK972.1) hb); have n14_ := Sd.mk (bT (by repeat (first | (with_reducible first | exact HB.1 ) )) hb); clear HO983; clear HO986; clear HO993; clear HO996; clear HO999; clear HO1002; clear HO1009; clear HO1012; clear HO1015; clear HO1018; clear BK971; clear BK972; clear HB; have HO983 := n0_; have HO986 := n1_; have HO993 := n2_; have HO996 := n3_; have HO999 := n4_; have HO1002 := n5_; have HO1009 := n6_; have HO1012 := n7_; have HO1015 := n8_; have HO1018 := n9_; have HO1025 := n10_; have HO1028 := n11_; have BK971 := n12_; have BK972 := n13_; have HB := n14_; clear n0_ n1_ n2_ n3_ n4_ n5_ n6_ n7_ n8_ n9_ n10_ n11_ n12_ n13_ n14_; (try clear hb); (try clear ho0); (try clear ho1); (try clear A37)) | ((with_reducible refine gate_callee (f := 21) rfl ?_); refine goesL_ (some 82) rfl rfl Try.func21 (by kernel_rfl) rfl #[.slice A1 l1.length c1] rfl (by (try simp only [List.map_toArray, List.map_cons, List.map_nil]); first | rfl ) ?_; (with_reducible refine (glisterlaw04_list.calls _ _ l1 t1029 _ ?side1 ?side2 A38.1).mono ?_); (case side1 => repeat (first | exact (Kd.C_below HR1.1 HB.1) )); (case side2 => exact HC1.1); rintro e w85 ⟨v1030, rfl, ho0, hb⟩; refine ⟨_, rfl, ?_⟩; have n0_ := Sd.mk (Kd.R_below (by (with_reducible repeat (fail)); exact HO983.1) hb); have n1_ := Sd.mk (Kd.R_below (by (with_reducible repeat (fail)); exact HO986.1) hb); have n2_ := Sd.mk (Kd.R_below (by (with_reducible repeat (fail)); exact HO993.1) hb); have n3_ := Sd.mk (Kd.R_elder' (by (with_reducible repeat (fail)); exact HO996.1) (Kd.R_base ho0) hb); have n4_ := Sd.mk (Kd.R_elder' (by (with_reducible repeat (fail)); exact HO999.1) (Kd.R_base ho0) hb); have n5_ := Sd.mk (Kd.R_below (by (with_reducible repeat (fail)); exact HO1002.1) hb); have n6_ := Sd.mk (Kd.R_below (by (with_reducible repeat (fail)); exact HO1009.1) hb); have n7_ := Sd.mk (Kd.R_elder' (by (with_reducible repeat (fail)); exact HO1012.1) (Kd.R_base ho0) hb); have n8_ := Sd.mk (Kd.R_elder' (by (with_reducible repeat (fail)); exact HO1015.1) (Kd.R_base ho0) hb); have n9_ := Sd.mk (Kd.R_below (by (with_reducible repeat (fail)); exact HO1018.1) hb); have n10_ := Sd.mk (Kd.R_below (by (with_reducible repeat (fail)); exact HO1025.1) hb); have n11_ := Sd.mk (Kd.R_elder' (by (with_reducible repeat (fail)); exact HO1028.1) (Kd.R_base ho0) hb); have n12_ := Sd.mk (Kd.R_lower (Kd.R_new' (Kd.R_new' (Kd.R_new' (Kd.R_new' (Kd.R_new' ho0 (Kd.R_lt (by (with_reducible repeat (fail)); exact HO996.1))) (Kd.R_lt (by (with_reducible repeat (fail)); exact HO999.1))) (Kd.R_lt (by (with_reducible repeat (fail)); exact HO1012.1))) (Kd.R_lt (by (with_reducible repeat (fail)); exact HO1015.1))) (Kd.R_lt (by (with_reducible repeat (fail)); exact HO1028.1))) (bZ (by repeat (first | (with_reducible first | exact HB.1 ) )))); have n13_ := Sd.mk (kB (g := gb971) (o := .cells #[.int .i64 a0_0, .int .i64 a0_1, .slice A0_2 l0_2.length c0_2, .slice A0_3 l0_3.length c0_3] 25 (0, 0)) (by (with_reducible repeat (fail)); exact BK971.1) hb); have n14_ := Sd.mk (kB (g := gb972) (o := .cells #[.int .i64 a3_0, .int .i64 a3_1] 85 (0, 0)) (by (with_reducible repeat (fail)); exact BK972.1) hb); have n15_ := Sd.mk (bT (by repeat (first | (with_reducible first | exact HB.1 ) )) hb); clear HO983; clear HO986; clear HO993; clear HO996; clear HO999; clear HO1002; clear HO1009; clear HO1012; clear HO1015; clear HO1018; clear HO1025; clear HO1028; clear BK971; clear BK972; clear HB; have HO983 := n0_; have HO986 := n1_; have HO993 := n2_; have HO996 := n3_; have HO999 := n4_; have HO1002 := n5_; have HO1009 := n6_; have HO1012 := n7_; have HO1015 := n8_; have HO1018 := n9_; have HO1025 := n10_; have HO1028 := n11_; have HO1031 := n12_; have BK971 := n13_; have BK972 := n14_; have HB := n15_; clear n0_ n1_ n2_ n3_ n4_ n5_ n6_ n7_ n8_ n9_ n10_ n11_ n12_ n13_ n14_ n15_; (try clear hb); (try clear ho0); (try clear A38)) | ((with_reducible refine gate_callee (f := 41) rfl ?_); refine goesL_ (some 84) rfl rfl Try.func41 (by kernel_rfl) rfl #[.slice A2 l2.length c2] rfl (by (try simp only [List.map_toArray, List.map_cons, List.map_nil]); first | rfl ) ?_; (with_reducible refine (glisterlaw04_Guesses.calls kj5 _ _ l2 t1032 _ ?side1 ?side2 A39.1).mono ?_); (case side1 => repeat (first | exact (Kd.C_below HR2.1 HB.1) )); (case side2 => exact HC2.1); rintro e w86 ⟨v1033, rfl, ho0, hb⟩; refine ⟨_, rfl, ?_⟩; have n0_ := Sd.mk (Kd.R_below (by (with_reducible repeat (fail)); exact HO983.1) hb); have n1_ := Sd.mk (Kd.R_below (by (with_reducible repeat (fail)); exact HO986.1) hb); have n2_ := Sd.mk (Kd.R_below (by (with_reducible repeat (fail)); exact HO993.1) hb); have n3_ := Sd.mk (Kd.R_below (by (with_reducible repeat (fail)); exact HO996.1) hb); have n4_ := Sd.mk (Kd.R_below (by (with_reducible repeat (fail)); exact HO999.1) hb); have n5_ := Sd.mk (Kd.R_elder' (by (with_reducible repeat (fail)); exact HO1002.1) (Kd.R_base ho0) hb); have n6_ := Sd.mk (Kd.R_below (by (with_reducible repeat (fail)); exact HO1009.1) hb); have n7_ := Sd.mk (Kd.R_below (by (with_reducible repeat (fail)); exact HO1012.1) hb); have n8_ := Sd.mk (Kd.R_below (by (with_reducible repeat (fail)); exact HO1015.1) hb); have n9_ := Sd.mk (Kd.R_elder' (by (with_reducible repeat (fail)); exact HO1018.1) (Kd.R_base ho0) hb); have n10_ := Sd.mk (Kd.R_below (by (with_reducible repeat (fail)); exact HO1025.1) hb); have n11_ := Sd.mk (Kd.R_below (by (with_reducible repeat (fail)); exact HO1028.1) hb); have n12_ := Sd.mk (Kd.R_below (by (with_reducible repeat (fail)); exact HO1031.1) hb); have n13_ := Sd.mk (Kd.R_lower (Kd.R_new' (Kd.R_new' ho0 (Kd.R_lt (by (with_reducible repeat (fail)); exact HO1002.1))) (Kd.R_lt (by (with_reducible repeat (fail)); exact HO1018.1))) (bZ (by repeat (first | (with_reducible first | exact HB.1 ) )))); have n14_ := Sd.mk (kB (g := gb971) (o := .cells #[.int .i64 a0_0, .int .i64 a0_1, .slice A0_2 l0_2.length c0_2, .slice A0_3 l0_3.length c0_3] 25 (0, 0)) (by (with_reducible repeat (fail)); exact BK971.1) hb); have n15_ := Sd.mk (kB (g := gb972) (o := .cells #[.int .i64 a3_0, .int .i64 a3_1] 85 (0, 0)) (by (with_reducible repeat (fail)); exact BK972.1) hb); have n16_ := Sd.mk (bT (by repeat (first | (with_reducible first | exact HB.1 ) )) hb); clear HO983; clear HO986; clear HO993; clear HO996; clear HO999; clear HO1002; clear HO1009; clear HO1012; clear HO1015; clear HO1018; clear HO1025; clear HO1028; clear HO1031; clear BK971; clear BK972; clear HB; have HO983 := n0_; have HO986 := n1_; have HO993 := n2_; have HO996 := n3_; have HO999 := n4_; have HO1002 := n5_; have HO1009 := n6_; have HO1012 := n7_; have HO1015 := n8_; have HO1018 := n9_; have HO1025 := n10_; have HO1028 := n11_; have HO1031 := n12_; have HO1034 := n13_; have BK971 := n14_; have BK972 := n15_; have HB := n16_; clear n0_ n1_ n2_ n3_ n4_ n5_ n6_ n7_ n8_ n9_ n10_ n11_ n12_ n13_ n14_ n15_ n16_; (try clear hb); (try clear ho0); obtain ⟨Ao87, co87, eo87⟩ := Kd.R_slice HO1025.1; subst eo87; obtain ⟨Ao88, co88, eo88⟩ := Kd.R_slice HO1028.1; subst eo88; obtain ⟨Ao89, co89, eo89⟩ := Kd.R_slice HO1031.1; subst eo89; obtain ⟨Ao90, co90, eo90⟩ := Kd.R_slice HO1034.1; subst eo90; (try clear A39)) | ((with_reducible refine gate_callee (f := 42) rfl ?_); refine goesL_ (some 86) rfl rfl Try.func42 (by kernel_rfl) rfl #[.agg #[.int .i64 t1021, .int .i64 t1022, .slice Ao87 t1023.length co87, .slice Ao88 t1026.length co88], .slice Ao89 t1029.length co89, .slice Ao90 t1032.length co90, .int .i64 (Int.tmod (wrap64 (a4)) (l1.length : Int))] rfl (by (try simp only [List.map_toArray, List.map_cons, List.map_nil]); first | rfl ) ?_; (with_reducible refine (cipher_Possible.calls t1021 t1022 _ _ t1023 _ _ t1026 _ _ t1029 _ _ t1032 (Int.tmod (wrap64 (a4)) (l1.length : Int)) t1035 t1038 _ ?side1 ?side2 ?side3 ?side4 ?side5 ?side6 ?side7 ?side8 A40.1).mono ?_); (case side1 => repeat (first | exact (Kd.R_reads' HO1025.1).2.2 )); (case side2 => exact (Kd.R_reads' HO1025.1).2.1); (case side3 => repeat (first | exact (Kd.R_reads' HO1028.1).2.2 )); (case side4 => exact (Kd.R_reads' HO1028.1).2.1); (case side5 => repeat (first | exact (Kd.R_reads' HO1031.1).2.2 )); (case side6 => exact (Kd.R_reads' HO1031.1).2.1); (case side7 => repeat (first | exact (Kd.R_reads' HO1034.1).2.2 )); (case side8 => exact (Kd.R_reads' HO1034.1).2.1); rintro e w91 ⟨v1036, rfl, ho0, hb⟩; refine ⟨_, rfl, ?_⟩; have n0_ := Sd.mk (Kd.R_below (by (with_reducible repeat (fail)); exact HO983.1) hb); have n1_ := Sd.mk (Kd.R_below (by (with_reducible repeat (fail)); exact HO986.1) hb); have n2_ := Sd.mk (Kd.R_below (by (with_reducible repeat (fail)); exact HO993.1) hb); have n3_ := Sd.mk (Kd.R_below (by (with_reducible repeat (fail)); exact HO996.1) hb); have n4_ := Sd.mk (Kd.R_below (by (with_reducible repeat (fail)); exact HO999.1) hb); have n5_ := Sd.mk (Kd.R_below (by (with_reducible repeat (fail)); exact HO1002.1) hb); have n6_ := Sd.mk (Kd.R_below (by (with_reducible repeat (fail)); exact HO1009.1) hb); have n7_ := Sd.mk (Kd.R_below (by (with_reducible repeat (fail)); exact HO1012.1) hb); have n8_ := Sd.mk (Kd.R_below (by (with_reducible repeat (fail)); exact HO1015.1) hb); have n9_ := Sd.mk (Kd.R_below (by (with_reducible repeat (fail)); exact HO1018.1) hb); have n10_ := Sd.mk (Kd.R_below (by (with_reducible repeat (fail)); exact HO1025.1) hb); have n11_ := Sd.mk (Kd.R_below (by (with_reducible repeat (fail)); exact HO1028.1) hb); have n12_ := Sd.mk (Kd.R_below (by (with_reducible repeat (fail)); exact HO1031.1) hb); have n13_ := Sd.mk (Kd.R_below (by (with_reducible repeat (fail)); exact HO1034.1) hb); have n14_ := Sd.mk (Kd.V_lower (Kd.V_mono (ok' := fun k_ => some k_ ≠ (.slice Ao60 y981.length co60 : Value).ownBlock ∧ some k_ ≠ (.slice Ao63 y984.length co63 : Value).ownBlock ∧ some k_ ≠ (.slice Ao69 t991.length co69 : Value).ownBlock ∧ some k_ ≠ (.slice Ao70 t994.length co70 : Value).ownBlock ∧ some k_ ≠ (.slice Ao71 t997.length co71 : Value).ownBlock ∧ some k_ ≠ (.slice Ao72 t1000.length co72 : Value).ownBlock ∧ some k_ ≠ (.slice Ao78 t1007.length co78 : Value).ownBlock ∧ some k_ ≠ (.slice Ao79 t1010.length co79 : Value).ownBlock ∧ some k_ ≠ (.slice Ao80 t1013.length co80 : Value).ownBlock ∧ some k_ ≠ (.slice Ao81 t1016.length co81 : Value).ownBlock ∧ some k_ ≠ (.slice Ao87 t1023.length co87 : Value).ownBlock ∧ some k_ ≠ (.slice Ao88 t1026.length co88 : Value).ownBlock ∧ some k_ ≠ (.slice Ao89 t1029.length co89 : Value).ownBlock ∧ some k_ ≠ (.slice Ao90 t1032.length co90 : Value).ownBlock ∧ k_ ≠ gb971 ∧ k_ ≠ gb972) ho0 (fun k_ hk_ => ⟨(Kd.fresh' (Kd.R_lt (by (with_reducible repeat (fail)); exact HO983.1)) k_ hk_), (Kd.fresh' (Kd.R_lt (by (with_reducible repeat (fail)); exact HO986.1)) k_ hk_), (Kd.fresh' (Kd.R_lt (by (with_reducible repeat (fail)); exact HO993.1)) k_ hk_), (Kd.fresh' (Kd.R_lt (by (with_reducible repeat (fail)); exact HO996.1)) k_ hk_), (Kd.fresh' (Kd.R_lt (by (with_reducible repeat (fail)); exact HO999.1)) k_ hk_), (Kd.fresh' (Kd.R_lt (by (with_reducible repeat (fail)); exact HO1002.1)) k_ hk_), (Kd.fresh' (Kd.R_lt (by (with_reducible repeat (fail)); exact HO1009.1)) k_ hk_), (Kd.fresh' (Kd.R_lt (by (with_reducible repeat (fail)); exact HO1012.1)) k_ hk_), (Kd.fresh' (Kd.R_lt (by (with_reducible repeat (fail)); exact HO1015.1)) k_ hk_), (Kd.fresh' (Kd.R_lt (by (with_reducible repeat (fail)); exact HO1018.1)) k_ hk_), (Kd.fresh' (Kd.R_lt (by (with_reducible repeat (fail)); exact HO1025.1)) k_ hk_), (Kd.fresh' (Kd.R_lt (by (with_reducible repeat (fail)); exact HO1028.1)) k_ hk_), (Kd.fresh' (Kd.R_lt (by (with_reducible repeat (fail)); exact HO1031.1)) k_ hk_), (Kd.fresh' (Kd.R_lt (by (with_reducible repeat (fail)); exact HO1034.1)) k_ hk_), (Kd.freshB (g := gb971) (o := .cells #[.int .i64 a0_0, .int .i64 a0_1, .slice A0_2 l0_2.length c0_2, .slice A0_3 l0_3.length c0_3] 25 (0, 0)) (by (with_reducible repeat (fail)); exact BK971.1) k_ hk_), (Kd.freshB (g := gb972) (o := .cells #[.int .i64 a3_0, .int .i64 a3_1] 85 (0, 0)) (by (with_reducible repeat (fail)); exact BK972.1) k_ hk_)⟩)) (bZ (by repeat (first | (with_reducible first | exact HB.1 ) )))); have n15_ := Sd.mk (kB (g := gb971) (o := .cells #[.int .i64 a0_0, .int .i64 a0_1, .slice A0_2 l0_2.length c0_2, .slice A0_3 l0_3.length c0_3] 25 (0, 0)) (by (with_reducible repeat (fail)); exact BK971.1) hb); have n16_ := Sd.mk (kB (g := gb972) (o := .cells #[.int .i64 a3_0, .int .i64 a3_1] 85 (0, 0)) (by (with_reducible repeat (fail)); exact BK972.1) hb); have n17_ := Sd.mk (bT (by repeat (first | (with_reducible first | exact HB.1 ) )) hb); clear HO983; clear HO986; clear HO993; clear HO996; clear HO999; clear HO1002; clear HO1009; clear HO1012; clear HO1015; clear HO1018; clear HO1025; clear HO1028; clear HO1031; clear HO1034; clear BK971; clear BK972; clear HB; have HO983 := n0_; have HO986 := n1_; have HO993 := n2_; have HO996 := n3_; have HO999 := n4_; have HO1002 := n5_; have HO1009 := n6_; have HO1012 := n7_; have HO1015 := n8_; have HO1018 := n9_; have HO1025 := n10_; have HO1028 := n11_; have HO1031 := n12_; have HO1034 := n13_; have HO1037 := n14_; have BK971 := n15_; have BK972 := n16_; have HB := n17_; clear n0_ n1_ n2_ n3_ n4_ n5_ n6_ n7_ n8_ n9_ n10_ n11_ n12_ n13_ n14_ n15_ n16_ n17_; (try clear hb); (try clear ho0); have z_92_0 : w91.cell? ⟨gb971, 0, none⟩ = some (.int .i64 a0_0) := (kC BK971.1 0).trans rfl; have z_92_1 : w91.cell? ⟨gb971, 1, none⟩ = some (.int .i64 a0_1) := (kC BK971.1 1).trans rfl; have z_92_2 : w91.cell? ⟨gb971, 2, none⟩ = some (.slice A0_2 l0_2.length c0_2) := (kC BK971.1 2).trans rfl; have z_92_3 : w91.cell? ⟨gb971, 3, none⟩ = some (.slice A0_3 l0_3.length c0_3) := (kC BK971.1 3).trans rfl; (try clear A40)) | ((with_reducible refine gate_callee (f := 19) rfl ?_); refine goesL_ (some 91) rfl rfl Try.func19 (by kernel_rfl) rfl #[.agg #[.int .i64 a0_0, .int .i64 a0_1, .slice A0_2 l0_2.length c0_2, .slice A0_3 l0_3.length c0_3]] rfl (by (try simp only [List.map_toArray, List.map_cons, List.map_nil]); first | rfl ) ?_; (with_reducible refine (glisterlaw04_Book.calls kj5 a0_0 a0_1 _ _ l0_2 _ _ l0_3 t1039 t1040 t1041 t1044 _ ?side1 ?side2 ?side3 ?side4 A41.1).mono ?_); (case side1 => repeat (first | exact (Kd.C_below HR0_2.1 HB.1) )); (case side2 => exact HC0_2.1); (case side3 => repeat (first | exact (Kd.C_below HR0_3.1 HB.1) )); (case side4 => exact HC0_3.1); rintro e w93 ⟨v1042, v1045, rfl, ho0, ho1, hb⟩; refine ⟨_, rfl, ?_⟩; have n0_ := Sd.mk (Kd.R_below (by (with_reducible repeat (fail)); exact HO983.1) hb); have n1_ := Sd.mk (Kd.R_below (by (with_reducible repeat (fail)); exact HO986.1) hb); have n2_ := Sd.mk (Kd.R_elder' (by (with_reducible repeat (fail)); exact HO993.1) (Kd.R_base ho0) hb); have n3_ := Sd.mk (Kd.R_elder' (by (with_reducible repeat (fail)); exact HO996.1) (Kd.R_base ho1) hb); have n4_ := Sd.mk (Kd.R_elder' (by (with_reducible repeat (fail)); exact HO999.1) (Kd.R_base ho1) hb); have n5_ := Sd.mk (Kd.R_below (by (with_reducible repeat (fail)); exact HO1002.1) hb); have n6_ := Sd.mk (Kd.R_elder' (by (with_reducible repeat (fail)); exact HO1009.1) (Kd.R_base ho0) hb); have n7_ := Sd.mk (Kd.R_elder' (by (with_reducible repeat (fail)); exact HO1012.1) (Kd.R_base ho1) hb); have n8_ := Sd.mk (Kd.R_elder' (by (with_reducible repeat (fail)); exact HO1015.1) (Kd.R_base ho1) hb); have n9_ := Sd.mk (Kd.R_below (by (with_reducible repeat (fail)); exact HO1018.1) hb); have n10_ := Sd.mk (Kd.R_elder' (by (with_reducible repeat (fail)); exact HO1025.1) (Kd.R_base ho0) hb); have n11_ := Sd.mk (Kd.R_elder' (by (with_reducible repeat (fail)); exact HO1028.1) (Kd.R_base ho1) hb); have n12_ := Sd.mk (Kd.R_elder' (by (with_reducible repeat (fail)); exact HO1031.1) (Kd.R_base ho1) hb); have n13_ := Sd.mk (Kd.R_below (by (with_reducible repeat (fail)); exact HO1034.1) hb); have n14_ := Sd.mk (Kd.V_mono (Kd.V_told (Kd.V_told (Kd.V_old (by (with_reducible repeat (fail)); exact HO1037.1) hb) (Kd.R_base ho0)) (Kd.R_base ho1)) (fun _ h_ => h_.1)); have n15_ := Sd.mk (Kd.R_lower (Kd.R_new' (Kd.R_new' (Kd.R_new' ho0 (Kd.R_lt (by (with_reducible repeat (fail)); exact HO993.1))) (Kd.R_lt (by (with_reducible repeat (fail)); exact HO1009.1))) (Kd.R_lt (by (with_reducible repeat (fail)); exact HO1025.1))) (bZ (by repeat (first | (with_reducible first | exact HB.1 ) )))); have n16_ := Sd.mk (Kd.R_lower (Kd.R_new' (Kd.R_new' (Kd.R_new' (Kd.R_new' (Kd.R_new' (Kd.R_new' ho1 (Kd.R_lt (by (with_reducible repeat (fail)); exact HO996.1))) (Kd.R_lt (by (with_reducible repeat (fail)); exact HO999.1))) (Kd.R_lt (by (with_reducible repeat (fail)); exact HO1012.1))) (Kd.R_lt (by (with_reducible repeat (fail)); exact HO1015.1))) (Kd.R_lt (by (with_reducible repeat (fail)); exact HO1028.1))) (Kd.R_lt (by (with_reducible repeat (fail)); exact HO1031.1))) (bZ (by repeat (first | (with_reducible first | exact HB.1 ) )))); have n17_ := Sd.mk (kB (g := gb971) (o := .cells #[.int .i64 a0_0, .int .i64 a0_1, .slice A0_2 l0_2.length c0_2, .slice A0_3 l0_3.length c0_3] 25 (0, 0)) (by (with_reducible repeat (fail)); exact BK971.1) hb); have n18_ := Sd.mk (kB (g := gb972) (o := .cells #[.int .i64 a3_0, .int .i64 a3_1] 85 (0, 0)) (by (with_reducible repeat (fail)); exact BK972.1) hb); have n19_ := Sd.mk (bT (by repeat (first | (with_reducible first | exact HB.1 ) )) hb); clear HO983; clear HO986; clear HO993; clear HO996; clear HO999; clear HO1002; clear HO1009; clear HO1012; clear HO1015; clear HO1018; clear HO1025; clear HO1028; clear HO1031; clear HO1034; clear HO1037; clear BK971; clear BK972; clear HB; have HO983 := n0_; have HO986 := n1_; have HO993 := n2_; have HO996 := n3_; have HO999 := n4_; have HO1002 := n5_; have HO1009 := n6_; have HO1012 := n7_; have HO1015 := n8_; have HO1018 := n9_; have HO1025 := n10_; have HO1028 := n11_; have HO1031 := n12_; have HO1034 := n13_; have HO1037 := n14_; have HO1043 := n15_; have HO1046 := n16_; have BK971 := n17_; have BK972 := n18_; have HB := n19_; clear n0_ n1_ n2_ n3_ n4_ n5_ n6_ n7_ n8_ n9_ n10_ n11_ n12_ n13_ n14_ n15_ n16_ n17_ n18_ n19_; (try clear hb); (try clear ho0); (try clear ho1); (try clear A41)) | ((with_reducible refine gate_callee (f := 21) rfl ?_); refine goesL_ (some 93) rfl rfl Try.func21 (by kernel_rfl) rfl #[.slice A1 l1.length c1] rfl (by (try simp only [List.map_toArray, List.map_cons, List.map_nil]); first | rfl ) ?_; (with_reducible refine (glisterlaw04_list.calls _ _ l1 t1047 _ ?side1 ?side2 A42.1).mono ?_); (case side1 => repeat (first | exact (Kd.C_below HR1.1 HB.1) )); (case side2 => exact HC1.1); rintro e w94 ⟨v1048, rfl, ho0, hb⟩; refine ⟨_, rfl, ?_⟩; have n0_ := Sd.mk (Kd.R_below (by (with_reducible repeat (fail)); exact HO983.1) hb); have n1_ := Sd.mk (Kd.R_below (by (with_reducible repeat (fail)); exact HO986.1) hb); have n2_ := Sd.mk (Kd.R_below (by (with_reducible repeat (fail)); exact HO993.1) hb); have n3_ := Sd.mk (Kd.R_elder' (by (with_reducible repeat (fail)); exact HO996.1) (Kd.R_base ho0) hb); have n4_ := Sd.mk (Kd.R_elder' (by (with_reducible repeat (fail)); exact HO999.1) (Kd.R_base ho0) hb); have n5_ := Sd.mk (Kd.R_below (by (with_reducible repeat (fail)); exact HO1002.1) hb); have n6_ := Sd.mk (Kd.R_below (by (with_reducible repeat (fail)); exact HO1009.1) hb); have n7_ := Sd.mk (Kd.R_elder' (by (with_reducible repeat (fail)); exact HO1012.1) (Kd.R_base ho0) hb); have n8_ := Sd.mk (Kd.R_elder' (by (with_reducible repeat (fail)); exact HO1015.1) (Kd.R_base ho0) hb); have n9_ := Sd.mk (Kd.R_below (by (with_reducible repeat (fail)); exact HO1018.1) hb); have n10_ := Sd.mk (Kd.R_below (by (with_reducible repeat (fail)); exact HO1025.1) hb); have n11_ := Sd.mk (Kd.R_elder' (by (with_reducible repeat (fail)); exact HO1028.1) (Kd.R_base ho0) hb); have n12_ := Sd.mk (Kd.R_elder' (by (with_reducible repeat (fail)); exact HO1031.1) (Kd.R_base ho0) hb); have n13_ := Sd.mk (Kd.R_below (by (with_reducible repeat (fail)); exact HO1034.1) hb); have n14_ := Sd.mk (Kd.V_elder' (by (with_reducible repeat (fail)); exact HO1037.1) (Kd.R_base ho0) hb); have n15_ := Sd.mk (Kd.R_below (by (with_reducible repeat (fail)); exact HO1043.1) hb); have n16_ := Sd.mk (Kd.R_elder' (by (with_reducible repeat (fail)); exact HO1046.1) (Kd.R_base ho0) hb); have n17_ := Sd.mk (Kd.R_lower (Kd.R_new' (Kd.R_new' (Kd.R_new' (Kd.R_new' (Kd.R_new' (Kd.R_new' (Kd.R_new' ho0 (Kd.R_lt (by (with_reducible repeat (fail)); exact HO996.1))) (Kd.R_lt (by (with_reducible repeat (fail)); exact HO999.1))) (Kd.R_lt (by (with_reducible repeat (fail)); exact HO1012.1))) (Kd.R_lt (by (with_reducible repeat (fail)); exact HO1015.1))) (Kd.R_lt (by (with_reducible repeat (fail)); exact HO1028.1))) (Kd.R_lt (by (with_reducible repeat (fail)); exact HO1031.1))) (Kd.R_lt (by (with_reducible repeat (fail)); exact HO1046.1))) (bZ (by repeat (first | (with_reducible first | exact HB.1 ) )))); have n18_ := Sd.mk (kB (g := gb971) (o := .cells #[.int .i64 a0_0, .int .i64 a0_1, .slice A0_2 l0_2.length c0_2, .slice A0_3 l0_3.length c0_3] 25 (0, 0)) (by (with_reducible repeat (fail)); exact BK971.1) hb); have n19_ := Sd.mk (kB (g := gb972) (o := .cells #[.int .i64 a3_0, .int .i64 a3_1] 85 (0, 0)) (by (with_reducible repeat (fail)); exact BK972.1) hb); have n20_ := Sd.mk (bT (by repeat (first | (with_reducible first | exact HB.1 ) )) hb); clear HO983; clear HO986; clear HO993; clear HO996; clear HO999; clear HO1002; clear HO1009; clear HO1012; clear HO1015; clear HO1018; clear HO1025; clear HO1028; clear HO1031; clear HO1034; clear HO1037; clear HO1043; clear HO1046; clear BK971; clear BK972; clear HB; have HO983 := n0_; have HO986 := n1_; have HO993 := n2_; have HO996 := n3_; have HO999 := n4_; have HO1002 := n5_; have HO1009 := n6_; have HO1012 := n7_; have HO1015 := n8_; have HO1018 := n9_; have HO1025 := n10_; have HO1028 := n11_; have HO1031 := n12_; have HO1034 := n13_; have HO1037 := n14_; have HO1043 := n15_; have HO1046 := n16_; have HO1049 := n17_; have BK971 := n18_; have BK972 := n19_; have HB := n20_; clear n0_ n1_ n2_ n3_ n4_ n5_ n6_ n7_ n8_ n9_ n10_ n11_ n12_ n13_ n14_ n15_ n16_ n17_ n18_ n19_ n20_; (try clear hb); (try clear ho0); (try clear A42)) | ((with_reducible refine gate_callee (f := 41) rfl ?_); refine goesL_ (some 95) rfl rfl Try.func41 (by kernel_rfl) rfl #[.slice Ao63 y984.length co63] rfl (by (try simp only [List.map_toArray, List.map_cons, List.map_nil]); first | rfl ) ?_; (with_reducible refine (glisterlaw04_Guesses.calls kj5 _ _ y984 t1050 _ ?side1 ?side2 A43.1).mono ?_); (case side1 => repeat (first | exact (Kd.R_reads' HO986.1).2.2 )); (case side2 => exact (Kd.R_reads' HO986.1).2.1); rintro e w95 ⟨v1051, rfl, ho0, hb⟩; refine ⟨_, rfl, ?_⟩; have n0_ := Sd.mk (Kd.R_below (by (with_reducible repeat (fail)); exact HO983.1) hb); have n1_ := Sd.mk (Kd.R_below (by (with_reducible repeat (fail)); exact HO986.1) hb); have n2_ := Sd.mk (Kd.R_below (by (with_reducible repeat (fail)); exact HO993.1) hb); have n3_ := Sd.mk (Kd.R_below (by (with_reducible repeat (fail)); exact HO996.1) hb); have n4_ := Sd.mk (Kd.R_below (by (with_reducible repeat (fail)); exact HO999.1) hb); have n5_ := Sd.mk (Kd.R_elder' (by (with_reducible repeat (fail)); exact HO1002.1) (Kd.R_base ho0) hb); have n6_ := Sd.mk (Kd.R_below (by (with_reducible repeat (fail)); exact HO1009.1) hb); have n7_ := Sd.mk (Kd.R_below (by (with_reducible repeat (fail)); exact HO1012.1) hb); have n8_ := Sd.mk (Kd.R_below (by (with_reducible repeat (fail)); exact HO1015.1) hb); have n9_ := Sd.mk (Kd.R_elder' (by (with_reducible repeat (fail)); exact HO1018.1) (Kd.R_base ho0) hb); have n10_ := Sd.mk (Kd.R_below (by (with_reducible repeat (fail)); exact HO1025.1) hb); have n11_ := Sd.mk (Kd.R_below (by (with_reducible repeat (fail)); exact HO1028.1) hb); have n12_ := Sd.mk (Kd.R_below (by (with_reducible repeat (fail)); exact HO1031.1) hb); have n13_ := Sd.mk (Kd.R_elder' (by (with_reducible repeat (fail)); exact HO1034.1) (Kd.R_base ho0) hb); have n14_ := Sd.mk (Kd.V_elder' (by (with_reducible repeat (fail)); exact HO1037.1) (Kd.R_base ho0) hb); have n15_ := Sd.mk (Kd.R_below (by (with_reducible repeat (fail)); exact HO1043.1) hb); have n16_ := Sd.mk (Kd.R_below (by (with_reducible repeat (fail)); exact HO1046.1) hb); have n17_ := Sd.mk (Kd.R_below (by (with_reducible repeat (fail)); exact HO1049.1) hb); have n18_ := Sd.mk (Kd.R_lower (Kd.R_new' (Kd.R_new' (Kd.R_new' ho0 (Kd.R_lt (by (with_reducible repeat (fail)); exact HO1002.1))) (Kd.R_lt (by (with_reducible repeat (fail)); exact HO1018.1))) (Kd.R_lt (by (with_reducible repeat (fail)); exact HO1034.1))) (bZ (by repeat (first | (with_reducible first | exact HB.1 ) )))); have n19_ := Sd.mk (kB (g := gb971) (o := .cells #[.int .i64 a0_0, .int .i64 a0_1, .slice A0_2 l0_2.length c0_2, .slice A0_3 l0_3.length c0_3] 25 (0, 0)) (by (with_reducible repeat (fail)); exact BK971.1) hb); have n20_ := Sd.mk (kB (g := gb972) (o := .cells #[.int .i64 a3_0, .int .i64 a3_1] 85 (0, 0)) (by (with_reducible repeat (fail)); exact BK972.1) hb); have n21_ := Sd.mk (bT (by repeat (first | (with_reducible first | exact HB.1 ) )) hb); clear HO983; clear HO986; clear HO993; clear HO996; clear HO999; clear HO1002; clear HO1009; clear HO1012; clear HO1015; clear HO1018; clear HO1025; clear HO1028; clear HO1031; clear HO1034; clear HO1037; clear HO1043; clear HO1046; clear HO1049; clear BK971; clear BK972; clear HB; have HO983 := n0_; have HO986 := n1_; have HO993 := n2_; have HO996 := n3_; have HO999 := n4_; have HO1002 := n5_; have HO1009 := n6_; have HO1012 := n7_; have HO1015 := n8_; have HO1018 := n9_; have HO1025 := n10_; have HO1028 := n11_; have HO1031 := n12_; have HO1034 := n13_; have HO1037 := n14_; have HO1043 := n15_; have HO1046 := n16_; have HO1049 := n17_; have HO1052 := n18_; have BK971 := n19_; have BK972 := n20_; have HB := n21_; clear n0_ n1_ n2_ n3_ n4_ n5_ n6_ n7_ n8_ n9_ n10_ n11_ n12_ n13_ n14_ n15_ n16_ n17_ n18_ n19_ n20_ n21_; (try clear hb); (try clear ho0); obtain ⟨Ao96, co96, eo96⟩ := Kd.R_slice HO1043.1; subst eo96; obtain ⟨Ao97, co97, eo97⟩ := Kd.R_slice HO1046.1; subst eo97; obtain ⟨Ao98, co98, eo98⟩ := Kd.R_slice HO1049.1; subst eo98; obtain ⟨Ao99, co99, eo99⟩ := Kd.R_slice HO1052.1; subst eo99; (try clear A43)) | ((with_reducible refine gate_callee (f := 42) rfl ?_); refine goesL_ (some 97) rfl rfl Try.func42 (by kernel_rfl) rfl #[.agg #[.int .i64 t1039, .int .i64 t1040, .slice Ao96 t1041.length co96, .slice Ao97 t1044.length co97], .slice Ao98 t1047.length co98, .slice Ao99 t1050.length co99, .int .i64 (Int.tmod (wrap64 (a4)) (l1.length : Int))] rfl (by (try simp only [List.map_toArray, List.map_cons, List.map_nil]); first | rfl ) ?_; (with_reducible refine (cipher_Possible.calls t1039 t1040 _ _ t1041 _ _ t1044 _ _ t1047 _ _ t1050 (Int.tmod (wrap64 (a4)) (l1.length : Int)) t1053 t1056 _ ?side1 ?side2 ?side3 ?side4 ?side5 ?side6 ?side7 ?side8 A44.1).mono ?_); (case side1 => repeat (first | exact (Kd.R_reads' HO1043.1).2.2 )); (case side2 => exact (Kd.R_reads' HO1043.1).2.1); (case side3 => repeat (first | exact (Kd.R_reads' HO1046.1).2.2 )); (case side4 => exact (Kd.R_reads' HO1046.1).2.1); (case side5 => repeat (first | exact (Kd.R_reads' HO1049.1).2.2 )); (case side6 => exact (Kd.R_reads' HO1049.1).2.1); (case side7 => repeat (first | exact (Kd.R_reads' HO1052.1).2.2 )); (case side8 => exact (Kd.R_reads' HO1052.1).2.1); rintro e w100 ⟨v1054, rfl, ho0, hb⟩; refine ⟨_, rfl, ?_⟩; have n0_ := Sd.mk (Kd.R_below (by (with_reducible repeat (fail)); exact HO983.1) hb); have n1_ := Sd.mk (Kd.R_below (by (with_reducible repeat (fail)); exact HO986.1) hb); have n2_ := Sd.mk (Kd.R_below (by (with_reducible repeat (fail)); exact HO993.1) hb); have n3_ := Sd.mk (Kd.R_below (by (with_reducible repeat (fail)); exact HO996.1) hb); have n4_ := Sd.mk (Kd.R_below (by (with_reducible repeat (fail)); exact HO999.1) hb); have n5_ := Sd.mk (Kd.R_below (by (with_reducible repeat (fail)); exact HO1002.1) hb); have n6_ := Sd.mk (Kd.R_below (by (with_reducible repeat (fail)); exact HO1009.1) hb); have n7_ := Sd.mk (Kd.R_below (by (with_reducible repeat (fail)); exact HO1012.1) hb); have n8_ := Sd.mk (Kd.R_below (by (with_reducible repeat (fail)); exact HO1015.1) hb); have n9_ := Sd.mk (Kd.R_below (by (with_reducible repeat (fail)); exact HO1018.1) hb); have n10_ := Sd.mk (Kd.R_below (by (with_reducible repeat (fail)); exact HO1025.1) hb); have n11_ := Sd.mk (Kd.R_below (by (with_reducible repeat (fail)); exact HO1028.1) hb); have n12_ := Sd.mk (Kd.R_below (by (with_reducible repeat (fail)); exact HO1031.1) hb); have n13_ := Sd.mk (Kd.R_below (by (with_reducible repeat (fail)); exact HO1034.1) hb); have n14_ := Sd.mk (Kd.V_below (by (with_reducible repeat (fail)); exact HO1037.1) hb); have n15_ := Sd.mk (Kd.R_below (by (with_reducible repeat (fail)); exact HO1043.1) hb); have n16_ := Sd.mk (Kd.R_below (by (with_reducible repeat (fail)); exact HO1046.1) hb); have n17_ := Sd.mk (Kd.R_below (by (with_reducible repeat (fail)); exact HO1049.1) hb); have n18_ := Sd.mk (Kd.R_below (by (with_reducible repeat (fail)); exact HO1052.1) hb); have n19_ := Sd.mk (Kd.V_lower (Kd.V_mono (ok' := fun k_ => some k_ ≠ (.slice Ao60 y981.length co60 : Value).ownBlock ∧ some k_ ≠ (.slice Ao63 y984.length co63 : Value).ownBlock ∧ some k_ ≠ (.slice Ao69 t991.length co69 : Value).ownBlock ∧ some k_ ≠ (.slice Ao70 t994.length co70 : Value).ownBlock ∧ some k_ ≠ (.slice Ao71 t997.length co71 : Value).ownBlock ∧ some k_ ≠ (.slice Ao72 t1000.length co72 : Value).ownBlock ∧ some k_ ≠ (.slice Ao78 t1007.length co78 : Value).ownBlock ∧ some k_ ≠ (.slice Ao79 t1010.length co79 : Value).ownBlock ∧ some k_ ≠ (.slice Ao80 t1013.length co80 : Value).ownBlock ∧ some k_ ≠ (.slice Ao81 t1016.length co81 : Value).ownBlock ∧ some k_ ≠ (.slice Ao87 t1023.length co87 : Value).ownBlock ∧ some k_ ≠ (.slice Ao88 t1026.length co88 : Value).ownBlock ∧ some k_ ≠ (.slice Ao89 t1029.length co89 : Value).ownBlock ∧ some k_ ≠ (.slice Ao90 t1032.length co90 : Value).ownBlock ∧ some k_ ≠ (.slice Ao96 t1041.length co96 : Value).ownBlock ∧ some k_ ≠ (.slice Ao97 t1044.length co97 : Value).ownBlock ∧ some k_ ≠ (.slice Ao98 t1047.length co98 : Value).ownBlock ∧ some k_ ≠ (.slice Ao99 t1050.length co99 : Value).ownBlock ∧ k_ ≠ gb971 ∧ k_ ≠ gb972) ho0 (fun k_ hk_ => ⟨(Kd.fresh' (Kd.R_lt (by (with_reducible repeat (fail)); exact HO983.1)) k_ hk_), (Kd.fresh' (Kd.R_lt (by (with_reducible repeat (fail)); exact HO986.1)) k_ hk_), (Kd.fresh' (Kd.R_lt (by (with_reducible repeat (fail)); exact HO993.1)) k_ hk_), (Kd.fresh' (Kd.R_lt (by (with_reducible repeat (fail)); exact HO996.1)) k_ hk_), (Kd.fresh' (Kd.R_lt (by (with_reducible repeat (fail)); exact HO999.1)) k_ hk_), (Kd.fresh' (Kd.R_lt (by (with_reducible repeat (fail)); exact HO1002.1)) k_ hk_), (Kd.fresh' (Kd.R_lt (by (with_reducible repeat (fail)); exact HO1009.1)) k_ hk_), (Kd.fresh' (Kd.R_lt (by (with_reducible repeat (fail)); exact HO1012.1)) k_ hk_), (Kd.fresh' (Kd.R_lt (by (with_reducible repeat (fail)); exact HO1015.1)) k_ hk_), (Kd.fresh' (Kd.R_lt (by (with_reducible repeat (fail)); exact HO1018.1)) k_ hk_), (Kd.fresh' (Kd.R_lt (by (with_reducible repeat (fail)); exact HO1025.1)) k_ hk_), (Kd.fresh' (Kd.R_lt (by (with_reducible repeat (fail)); exact HO1028.1)) k_ hk_), (Kd.fresh' (Kd.R_lt (by (with_reducible repeat (fail)); exact HO1031.1)) k_ hk_), (Kd.fresh' (Kd.R_lt (by (with_reducible repeat (fail)); exact HO1034.1)) k_ hk_), (Kd.fresh' (Kd.R_lt (by (with_reducible repeat (fail)); exact HO1043.1)) k_ hk_), (Kd.fresh' (Kd.R_lt (by (with_reducible repeat (fail)); exact HO1046.1)) k_ hk_), (Kd.fresh' (Kd.R_lt (by (with_reducible repeat (fail)); exact HO1049.1)) k_ hk_), (Kd.fresh' (Kd.R_lt (by (with_reducible repeat (fail)); exact HO1052.1)) k_ hk_), (Kd.freshB (g := gb971) (o := .cells #[.int .i64 a0_0, .int .i64 a0_1, .slice A0_2 l0_2.length c0_2, .slice A0_3 l0_3.length c0_3] 25 (0, 0)) (by (with_reducible repeat (fail)); exact BK971.1) k_ hk_), (Kd.freshB (g := gb972) (o := .cells #[.int .i64 a3_0, .int .i64 a3_1] 85 (0, 0)) (by (with_reducible repeat (fail)); exact BK972.1) k_ hk_)⟩)) (bZ (by repeat (first | (with_reducible first | exact HB.1 ) )))); have n20_ := Sd.mk (kB (g := gb971) (o := .cells #[.int .i64 a0_0, .int .i64 a0_1, .slice A0_2 l0_2.length c0_2, .slice A0_3 l0_3.length c0_3] 25 (0, 0)) (by (with_reducible repeat (fail)); exact BK971.1) hb); have n21_ := Sd.mk (kB (g := gb972) (o := .cells #[.int .i64 a3_0, .int .i64 a3_1] 85 (0, 0)) (by (with_reducible repeat (fail)); exact BK972.1) hb); have n22_ := Sd.mk (bT (by repeat (first | (with_reducible first | exact HB.1 ) )) hb); clear HO983; clear HO986; clear HO993; clear HO996; clear HO999; clear HO1002; clear HO1009; clear HO1012; clear HO1015; clear HO1018; clear HO1025; clear HO1028; clear HO1031; clear HO1034; clear HO1037; clear HO1043; clear HO1046; clear HO1049; clear HO1052; clear BK971; clear BK972; clear HB; have HO983 := n0_; have HO986 := n1_; have HO993 := n2_; have HO996 := n3_; have HO999 := n4_; have HO1002 := n5_; have HO1009 := n6_; have HO1012 := n7_; have HO1015 := n8_; have HO1018 := n9_; have HO1025 := n10_; have HO1028 := n11_; have HO1031 := n12_; have HO1034 := n13_; have HO1037 := n14_; have HO1043 := n15_; have HO1046 := n16_; have HO1049 := n17_; have HO1052 := n18_; have HO1055 := n19_; have BK971 := n20_; have BK972 := n21_; have HB := n22_; clear n0_ n1_ n2_ n3_ n4_ n5_ n6_ n7_ n8_ n9_ n10_ n11_ n12_ n13_ n14_ n15_ n16_ n17_ n18_ n19_ n20_ n21_ n22_; (try clear hb); (try clear ho0); have z_101_0 : w100.cell? ⟨gb971, 0, none⟩ = some (.int .i64 a0_0) := (kC BK971.1 0).trans rfl; have z_101_1 : w100.cell? ⟨gb971, 1, none⟩ = some (.int .i64 a0_1) := (kC BK971.1 1).trans rfl; have z_101_2 : w100.cell? ⟨gb971, 2, none⟩ = some (.slice A0_2 l0_2.length c0_2) := (kC BK971.1 2).trans rfl; have z_101_3 : w100.cell? ⟨gb971, 3, none⟩ = some (.slice A0_3 l0_3.length c0_3) := (kC BK971.1 3).trans rfl; (try clear A44)) | ((with_reducible refine gate_callee (f := 19) rfl ?_); refine goesL_ (some 102) rfl rfl Try.func19 (by kernel_rfl) rfl #[.agg #[.int .i64 a0_0, .int .i64 a0_1, .slice A0_2 l0_2.length c0_2, .slice A0_3 l0_3.length c0_3]] rfl (by (try simp only [List.map_toArray, List.map_cons, List.map_nil]); first | rfl ) ?_; (with_reducible refine (glisterlaw04_Book.calls kj5 a0_0 a0_1 _ _ l0_2 _ _ l0_3 t1057 t1058 t1059 t1062 _ ?side1 ?side2 ?side3 ?side4 A45.1).mono ?_); (case side1 => repeat (first | exact (Kd.C_below HR0_2.1 HB.1) )); (case side2 => exact HC0_2.1); (case side3 => repeat (first | exact (Kd.C_below HR0_3.1 HB.1) )); (case side4 => exact HC0_3.1); rintro e w102 ⟨v1060, v1063, rfl, ho0, ho1, hb⟩; refine ⟨_, rfl, ?_⟩; have n0_ := Sd.mk (Kd.R_below (by (with_reducible repeat (fail)); exact HO983.1) hb); have n1_ := Sd.mk (Kd.R_below (by (with_reducible repeat (fail)); exact HO986.1) hb); have n2_ := Sd.mk (Kd.R_elder' (by (with_reducible repeat (fail)); exact HO993.1) (Kd.R_base ho0) hb); have n3_ := Sd.mk (Kd.R_elder' (by (with_reducible repeat (fail)); exact HO996.1) (Kd.R_base ho1) hb); have n4_ := Sd.mk (Kd.R_elder' (by (with_reducible repeat (fail)); exact HO999.1) (Kd.R_base ho1) hb); have n5_ := Sd.mk (Kd.R_below (by (with_reducible repeat (fail)); exact HO1002.1) hb); have n6_ := Sd.mk (Kd.R_elder' (by (with_reducible repeat (fail)); exact HO1009.1) (Kd.R_base ho0) hb); have n7_ := Sd.mk (Kd.R_elder' (by (with_reducible repeat (fail)); exact HO1012.1) (Kd.R_base ho1) hb); have n8_ := Sd.mk (Kd.R_elder' (by (with_reducible repeat (fail)); exact HO1015.1) (Kd.R_base ho1) hb); have n9_ := Sd.mk (Kd.R_below (by (with_reducible repeat (fail)); exact HO1018.1) hb); have n10_ := Sd.mk (Kd.R_elder' (by (with_reducible repeat (fail)); exact HO1025.1) (Kd.R_base ho0) hb); have n11_ := Sd.mk (Kd.R_elder' (by (with_reducible repeat (fail)); exact HO1028.1) (Kd.R_base ho1) hb); have n12_ := Sd.mk (Kd.R_elder' (by (with_reducible repeat (fail)); exact HO1031.1) (Kd.R_base ho1) hb); have n13_ := Sd.mk (Kd.R_below (by (with_reducible repeat (fail)); exact HO1034.1) hb); have n14_ := Sd.mk (Kd.V_mono (Kd.V_told (Kd.V_told (Kd.V_old (by (with_reducible repeat (fail)); exact HO1037.1) hb) (Kd.R_base ho0)) (Kd.R_base ho1)) (fun _ h_ => h_.1)); have n15_ := Sd.mk (Kd.R_elder' (by (with_reducible repeat (fail)); exact HO1043.1) (Kd.R_base ho0) hb); have n16_ := Sd.mk (Kd.R_elder' (by (with_reducible repeat (fail)); exact HO1046.1) (Kd.R_base ho1) hb); have n17_ := Sd.mk (Kd.R_elder' (by (with_reducible repeat (fail)); exact HO1049.1) (Kd.R_base ho1) hb); have n18_ := Sd.mk (Kd.R_below (by (with_reducible repeat (fail)); exact HO1052.1) hb); have n19_ := Sd.mk (Kd.V_mono (Kd.V_told (Kd.V_told (Kd.V_old (by (with_reducible repeat (fail)); exact HO1055.1) hb) (Kd.R_base ho0)) (Kd.R_base ho1)) (fun _ h_ => h_.1)); have n20_ := Sd.mk (Kd.R_lower (Kd.R_new' (Kd.R_new' (Kd.R_new' (Kd.R_new' ho0 (Kd.R_lt (by (with_reducible repeat (fail)); exact HO993.1))) (Kd.R_lt (by (with_reducible repeat (fail)); exact HO1009.1))) (Kd.R_lt (by (with_reducible repeat (fail)); exact HO1025.1))) (Kd.R_lt (by (with_reducible repeat (fail)); exact HO1043.1))) (bZ (by repeat (first | (with_reducible first | exact HB.1 ) )))); have n21_ := Sd.mk (Kd.R_lower (Kd.R_new' (Kd.R_new' (Kd.R_new' (Kd.R_new' (Kd.R_new' (Kd.R_new' (Kd.R_new' (Kd.R_new' ho1 (Kd.R_lt (by (with_reducible repeat (fail)); exact HO996.1))) (Kd.R_lt (by (with_reducible repeat (fail)); exact HO999.1))) (Kd.R_lt (by (with_reducible repeat (fail)); exact HO1012.1))) (Kd.R_lt (by (with_reducible repeat (fail)); exact HO1015.1))) (Kd.R_lt (by (with_reducible repeat (fail)); exact HO1028.1))) (Kd.R_lt (by (with_reducible repeat (fail)); exact HO1031.1))) (Kd.R_lt (by (with_reducible repeat (fail)); exact HO1046.1))) (Kd.R_lt (by (with_reducible repeat (fail)); exact HO1049.1))) (bZ (by repeat (first | (with_reducible first | exact HB.1 ) )))); have n22_ := Sd.mk (kB (g := gb971) (o := .cells #[.int .i64 a0_0, .int .i64 a0_1, .slice A0_2 l0_2.length c0_2, .slice A0_3 l0_3.length c0_3] 25 (0, 0)) (by (with_reducible repeat (fail)); exact BK971.1) hb); have n23_ := Sd.mk (kB (g := gb972) (o := .cells #[.int .i64 a3_0, .int .i64 a3_1] 85 (0, 0)) (by (with_reducible repeat (fail)); exact BK972.1) hb); have n24_ := Sd.mk (bT (by repeat (first | (with_reducible first | exact HB.1 ) )) hb); clear HO983; clear HO986; clear HO993; clear HO996; clear HO999; clear HO1002; clear HO1009; clear HO1012; clear HO1015; clear HO1018; clear HO1025; clear HO1028; clear HO1031; clear HO1034; clear HO1037; clear HO1043; clear HO1046; clear HO1049; clear HO1052; clear HO1055; clear BK971; clear BK972; clear HB; have HO983 := n0_; have HO986 := n1_; have HO993 := n2_; have HO996 := n3_; have HO999 := n4_; have HO1002 := n5_; have HO1009 := n6_; have HO1012 := n7_; have HO1015 := n8_; have HO1018 := n9_; have HO1025 := n10_; have HO1028 := n11_; have HO1031 := n12_; have HO1034 := n13_; have HO1037 := n14_; have HO1043 := n15_; have HO1046 := n16_; have HO1049 := n17_; have HO1052 := n18_; have HO1055 := n19_; have HO1061 := n20_; have HO1064 := n21_; have BK971 := n22_; have BK972 := n23_; have HB := n24_; clear n0_ n1_ n2_ n3_ n4_ n5_ n6_ n7_ n8_ n9_ n10_ n11_ n12_ n13_ n14_ n15_ n16_ n17_ n18_ n19_ n20_ n21_ n22_ n23_ n24_; (try clear hb); (try clear ho0); (try clear ho1); (try clear A45)) | ((with_reducible refine gate_callee (f := 21) rfl ?_); refine goesL_ (some 104) rfl rfl Try.func21 (by kernel_rfl) rfl #[.slice A1 l1.length c1] rfl (by (try simp only [List.map_toArray, List.map_cons, List.map_nil]); first | rfl ) ?_; (with_reducible refine (glisterlaw04_list.calls _ _ l1 t1065 _ ?side1 ?side2 A46.1).mono ?_); (case side1 => repeat (first | exact (Kd.C_below HR1.1 HB.1) )); (case side2 => exact HC1.1); rintro e w103 ⟨v1066, rfl, ho0, hb⟩; refine ⟨_, rfl, ?_⟩; have n0_ := Sd.mk (Kd.R_below (by (with_reducible repeat (fail)); exact HO983.1) hb); have n1_ := Sd.mk (Kd.R_below (by (with_reducible repeat (fail)); exact HO986.1) hb); have n2_ := Sd.mk (Kd.R_below (by (with_reducible repeat (fail)); exact HO993.1) hb); have n3_ := Sd.mk (Kd.R_elder' (by (with_reducible repeat (fail)); exact HO996.1) (Kd.R_base ho0) hb); have n4_ := Sd.mk (Kd.R_elder' (by (with_reducible repeat (fail)); exact HO999.1) (Kd.R_base ho0) hb); have n5_ := Sd.mk (Kd.R_below (by (with_reducible repeat (fail)); exact HO1002.1) hb); have n6_ := Sd.mk (Kd.R_below (by (with_reducible repeat (fail)); exact HO1009.1) hb); have n7_ := Sd.mk (Kd.R_elder' (by (with_reducible repeat (fail)); exact HO1012.1) (Kd.R_base ho0) hb); have n8_ := Sd.mk (Kd.R_elder' (by (with_reducible repeat (fail)); exact HO1015.1) (Kd.R_base ho0) hb); have n9_ := Sd.mk (Kd.R_below (by (with_reducible repeat (fail)); exact HO1018.1) hb); have n10_ := Sd.mk (Kd.R_below (by (with_reducible repeat (fail)); exact HO1025.1) hb); have n11_ := Sd.mk (Kd.R_elder' (by (with_reducible repeat (fail)); exact HO1028.1) (Kd.R_base ho0) hb); have n12_ := Sd.mk (Kd.R_elder' (by (with_reducible repeat (fail)); exact HO1031.1) (Kd.R_base ho0) hb); have n13_ := Sd.mk (Kd.R_below (by (with_reducible repeat (fail)); exact HO1034.1) hb); have n14_ := Sd.mk (Kd.V_elder' (by (with_reducible repeat (fail)); exact HO1037.1) (Kd.R_base ho0) hb); have n15_ := Sd.mk (Kd.R_below (by (with_reducible repeat (fail)); exact HO1043.1) hb); have n16_ := Sd.mk (Kd.R_elder' (by (with_reducible repeat (fail)); exact HO1046.1) (Kd.R_base ho0) hb); have n17_ := Sd.mk (Kd.R_elder' (by (with_reducible repeat (fail)); exact HO1049.1) (Kd.R_base ho0) hb); have n18_ := Sd.mk (Kd.R_below (by (with_reducible repeat (fail)); exact HO1052.1) hb); have n19_ := Sd.mk (Kd.V_elder' (by (with_reducible repeat (fail)); exact HO1055.1) (Kd.R_base ho0) hb); have n20_ := Sd.mk (Kd.R_below (by (with_reducible repeat (fail)); exact HO1061.1) hb); have n21_ := Sd.mk (Kd.R_elder' (by (with_reducible repeat (fail)); exact HO1064.1) (Kd.R_base ho0) hb); have n22_ := Sd.mk (Kd.R_lower (Kd.R_new' (Kd.R_new' (Kd.R_new' (Kd.R_new' (Kd.R_new' (Kd.R_new' (Kd.R_new' (Kd.R_new' (Kd.R_new' ho0 (Kd.R_lt (by (with_reducible repeat (fail)); exact HO996.1))) (Kd.R_lt (by (with_reducible repeat (fail)); exact HO999.1))) (Kd.R_lt (by (with_reducible repeat (fail)); exact HO1012.1))) (Kd.R_lt (by (with_reducible repeat (fail)); exact HO1015.1))) (Kd.R_lt (by (with_reducible repeat (fail)); exact HO1028.1))) (Kd.R_lt (by (with_reducible repeat (fail)); exact HO1031.1))) (Kd.R_lt (by (with_reducible repeat (fail)); exact HO1046.1))) (Kd.R_lt (by (with_reducible repeat (fail)); exact HO1049.1))) (Kd.R_lt (by (with_reducible repeat (fail)); exact HO1064.1))) (bZ (by repeat (first | (with_reducible first | exact HB.1 ) )))); have n23_ := Sd.mk (kB (g := gb971) (o := .cells #[.int .i64 a0_0, .int .i64 a0_1, .slice A0_2 l0_2.length c0_2, .slice A0_3 l0_3.length c0_3] 25 (0, 0)) (by (with_reducible repeat (fail)); exact BK971.1) hb); have n24_ := Sd.mk (kB (g := gb972) (o := .cells #[.int .i64 a3_0, .int .i64 a3_1] 85 (0, 0)) (by (with_reducible repeat (fail)); exact BK972.1) hb); have n25_ := Sd.mk (bT (by repeat (first | (with_reducible first | exact HB.1 ) )) hb); clear HO983; clear HO986; clear HO993; clear HO996; clear HO999; clear HO1002; clear HO1009; clear HO1012; clear HO1015; clear HO1018; clear HO1025; clear HO1028; clear HO1031; clear HO1034; clear HO1037; clear HO1043; clear HO1046; clear HO1049; clear HO1052; clear HO1055; clear HO1061; clear HO1064; clear BK971; clear BK972; clear HB; have HO983 := n0_; have HO986 := n1_; have HO993 := n2_; have HO996 := n3_; have HO999 := n4_; have HO1002 := n5_; have HO1009 := n6_; have HO1012 := n7_; have HO1015 := n8_; have HO1018 := n9_; have HO1025 := n10_; have HO1028 := n11_; have HO1031 := n12_; have HO1034 := n13_; have HO1037 := n14_; have HO1043 := n15_; have HO1046 := n16_; have HO1049 := n17_; have HO1052 := n18_; have HO1055 := n19_; have HO1061 := n20_; have HO1064 := n21_; have HO1067 := n22_; have BK971 := n23_; have BK972 := n24_; have HB := n25_; clear n0_ n1_ n2_ n3_ n4_ n5_ n6_ n7_ n8_ n9_ n10_ n11_ n12_ n13_ n14_ n15_ n16_ n17_ n18_ n19_ n20_ n21_ n22_ n23_ n24_ n25_; (try clear hb); (try clear ho0); obtain ⟨Ao104, co104, eo104⟩ := Kd.R_slice HO1061.1; subst eo104; obtain ⟨Ao105, co105, eo105⟩ := Kd.R_slice HO1064.1; subst eo105; obtain ⟨Ao106, co106, eo106⟩ := Kd.R_slice HO1067.1; subst eo106; (try clear A46)) | ((with_reducible refine gate_callee (f := 40) rfl ?_); refine goesL_ (some 105) rfl rfl Try.func40 (by kernel_rfl) rfl #[.agg #[.int .i64 t1057, .int .i64 t1058, .slice Ao104 t1059.length co104, .slice Ao105 t1062.length co105], .slice Ao106 t1065.length co106, .slice none 0 0] rfl (by (try simp only [List.map_toArray, List.map_cons, List.map_nil]); first | rfl ) ?_; (refine (cipher_Fits.calls t1057 t1058 _ _ t1059 _ _ t1062 _ _ t1065 _ _ ([] : List (S88)) t1068 t1069 _ ?side1 ?side2 ?side3 ?side4 ?side5 ?side6 ?side7 ?side8 A47.1).mono ?_); (case side1 => repeat (first | exact (Kd.R_reads' HO1061.1).2.2 )); (case side2 => exact (Kd.R_reads' HO1061.1).2.1); (case side3 => repeat (first | exact (Kd.R_reads' HO1064.1).2.2 )); (case side4 => exact (Kd.R_reads' HO1064.1).2.1); (case side5 => repeat (first | exact (Kd.R_reads' HO1067.1).2.2 )); (case side6 => exact (Kd.R_reads' HO1067.1).2.1); (case side7 => exact Kd.C_nil _ _); (case side8 => exact Nat.le_refl _); rintro e w107 ⟨rfl, hb⟩; refine ⟨_, rfl, ?_⟩; have n0_ := Sd.mk (Kd.R_below (by (with_reducible repeat (fail)); exact HO983.1) hb); have n1_ := Sd.mk (Kd.R_below (by (with_reducible repeat (fail)); exact HO986.1) hb); have n2_ := Sd.mk (Kd.R_below (by (with_reducible repeat (fail)); exact HO993.1) hb); have n3_ := Sd.mk (Kd.R_below (by (with_reducible repeat (fail)); exact HO996.1) hb); have n4_ := Sd.mk (Kd.R_below (by (with_reducible repeat (fail)); exact HO999.1) hb); have n5_ := Sd.mk (Kd.R_below (by (with_reducible repeat (fail)); exact HO1002.1) hb); have n6_ := Sd.mk (Kd.R_below (by (with_reducible repeat (fail)); exact HO1009.1) hb); have n7_ := Sd.mk (Kd.R_below (by (with_reducible repeat (fail)); exact HO1012.1) hb); have n8_ := Sd.mk (Kd.R_below (by (with_reducible repeat (fail)); exact HO1015.1) hb); have n9_ := Sd.mk (Kd.R_below (by (with_reducible repeat (fail)); exact HO1018.1) hb); have n10_ := Sd.mk (Kd.R_below (by (with_reducible repeat (fail)); exact HO1025.1) hb); have n11_ := Sd.mk (Kd.R_below (by (with_reducible repeat (fail)); exact HO1028.1) hb); have n12_ := Sd.mk (Kd.R_below (by (with_reducible repeat (fail)); exact HO1031.1) hb); have n13_ := Sd.mk (Kd.R_below (by (with_reducible repeat (fail)); exact HO1034.1) hb); have n14_ := Sd.mk (Kd.V_below (by (with_reducible repeat (fail)); exact HO1037.1) hb); have n15_ := Sd.mk (Kd.R_below (by (with_reducible repeat (fail)); exact HO1043.1) hb); have n16_ := Sd.mk (Kd.R_below (by (with_reducible repeat (fail)); exact HO1046.1) hb); have n17_ := Sd.mk (Kd.R_below (by (with_reducible repeat (fail)); exact HO1049.1) hb); have n18_ := Sd.mk (Kd.R_below (by (with_reducible repeat (fail)); exact HO1052.1) hb); have n19_ := Sd.mk (Kd.V_below (by (with_reducible repeat (fail)); exact HO1055.1) hb); have n20_ := Sd.mk (Kd.R_below (by (with_reducible repeat (fail)); exact HO1061.1) hb); have n21_ := Sd.mk (Kd.R_below (by (with_reducible repeat (fail)); exact HO1064.1) hb); have n22_ := Sd.mk (Kd.R_below (by (with_reducible repeat (fail)); exact HO1067.1) hb); have n23_ := Sd.mk (kB (g := gb971) (o := .cells #[.int .i64 a0_0, .int .i64 a0_1, .slice A0_2 l0_2.length c0_2, .slice A0_3 l0_3.length c0_3] 25 (0, 0)) (by (with_reducible repeat (fail)); exact BK971.1) hb); have n24_ := Sd.mk (kB (g := gb972) (o := .cells #[.int .i64 a3_0, .int .i64 a3_1] 85 (0, 0)) (by (with_reducible repeat (fail)); exact BK972.1) hb); have n25_ := Sd.mk (bT (by repeat (first | (with_reducible first | exact HB.1 ) )) hb); clear HO983; clear HO986; clear HO993; clear HO996; clear HO999; clear HO1002; clear HO1009; clear HO1012; clear HO1015; clear HO1018; clear HO1025; clear HO1028; clear HO1031; clear HO1034; clear HO1037; clear HO1043; clear HO1046; clear HO1049; clear HO1052; clear HO1055; clear HO1061; clear HO1064; clear HO1067; clear BK971; clear BK972; clear HB; have HO983 := n0_; have HO986 := n1_; have HO993 := n2_; have HO996 := n3_; have HO999 := n4_; have HO1002 := n5_; have HO1009 := n6_; have HO1012 := n7_; have HO1015 := n8_; have HO1018 := n9_; have HO1025 := n10_; have HO1028 := n11_; have HO1031 := n12_; have HO1034 := n13_; have HO1037 := n14_; have HO1043 := n15_; have HO1046 := n16_; have HO1049 := n17_; have HO1052 := n18_; have HO1055 := n19_; have HO1061 := n20_; have HO1064 := n21_; have HO1067 := n22_; have BK971 := n23_; have BK972 := n24_; have HB := n25_; clear n0_ n1_ n2_ n3_ n4_ n5_ n6_ n7_ n8_ n9_ n10_ n11_ n12_ n13_ n14_ n15_ n16_ n17_ n18_ n19_ n20_ n21_ n22_ n23_ n24_ n25_; (try clear hb); have z_108_0 : w107.cell? ⟨gb971, 0, none⟩ = some (.int .i64 a0_0) := (kC BK971.1 0).trans rfl; have z_108_1 : w107.cell? ⟨gb971, 1, none⟩ = some (.int .i64 a0_1) := (kC BK971.1 1).trans rfl; have z_108_2 : w107.cell? ⟨gb971, 2, none⟩ = some (.slice A0_2 l0_2.length c0_2) := (kC BK971.1 2).trans rfl; have z_108_3 : w107.cell? ⟨gb971, 3, none⟩ = some (.slice A0_3 l0_3.length c0_3) := (kC BK971.1 3).trans rfl; (try clear A47)) | ((with_reducible refine gate_callee (f := 19) rfl ?_); refine goesL_ (some 110) rfl rfl Try.func19 (by kernel_rfl) rfl #[.agg #[.int .i64 a0_0, .int .i64 a0_1, .slice A0_2 l0_2.length c0_2, .slice A0_3 l0_3.length c0_3]] rfl (by (try simp only [List.map_toArray, List.map_cons, List.map_nil]); first | rfl ) ?_; (with_reducible refine (glisterlaw04_Book.calls kj5 a0_0 a0_1 _ _ l0_2 _ _ l0_3 t1070 t1071 t1072 t1075 _ ?side1 ?side2 ?side3 ?side4 A48.1).mono ?_); (case side1 => repeat (first | exact (Kd.C_below HR0_2.1 HB.1) )); (case side2 => exact HC0_2.1); (case side3 => repeat (first | exact (Kd.C_below HR0_3.1 HB.1) )); (case side4 => exact HC0_3.1); rintro e w109 ⟨v1073, v1076, rfl, ho0, ho1, hb⟩; refine ⟨_, rfl, ?_⟩; have n0_ := Sd.mk (Kd.R_below (by (with_reducible repeat (fail)); exact HO983.1) hb); have n1_ := Sd.mk (Kd.R_below (by (with_reducible repeat (fail)); exact HO986.1) hb); have n2_ := Sd.mk (Kd.R_elder' (by (with_reducible repeat (fail)); exact HO993.1) (Kd.R_base ho0) hb); have n3_ := Sd.mk (Kd.R_elder' (by (with_reducible repeat (fail)); exact HO996.1) (Kd.R_base ho1) hb); have n4_ := Sd.mk (Kd.R_elder' (by (with_reducible repeat (fail)); exact HO999.1) (Kd.R_base ho1) hb); have n5_ := Sd.mk (Kd.R_below (by (with_reducible repeat (fail)); exact HO1002.1) hb); have n6_ := Sd.mk (Kd.R_elder' (by (with_reducible repeat (fail)); exact HO1009.1) (Kd.R_base ho0) hb); have n7_ := Sd.mk (Kd.R_elder' (by (with_reducible repeat (fail)); exact HO1012.1) (Kd.R_base ho1) hb); have n8_ := Sd.mk (Kd.R_elder' (by (with_reducible repeat (fail)); exact HO1015.1) (Kd.R_base ho1) hb); have n9_ := Sd.mk (Kd.R_below (by (with_reducible repeat (fail)); exact HO1018.1) hb); have n10_ := Sd.mk (Kd.R_elder' (by (with_reducible repeat (fail)); exact HO1025.1) (Kd.R_base ho0) hb); have n11_ := Sd.mk (Kd.R_elder' (by (with_reducible repeat (fail)); exact HO1028.1) (Kd.R_base ho1) hb); have n12_ := Sd.mk (Kd.R_elder' (by (with_reducible repeat (fail)); exact HO1031.1) (Kd.R_base ho1) hb); have n13_ := Sd.mk (Kd.R_below (by (with_reducible repeat (fail)); exact HO1034.1) hb); have n14_ := Sd.mk (Kd.V_mono (Kd.V_told (Kd.V_told (Kd.V_old (by (with_reducible repeat (fail)); exact HO1037.1) hb) (Kd.R_base ho0)) (Kd.R_base ho1)) (fun _ h_ => h_.1)); have n15_ := Sd.mk (Kd.R_elder' (by (with_reducible repeat (fail)); exact HO1043.1) (Kd.R_base ho0) hb); have n16_ := Sd.mk (Kd.R_elder' (by (with_reducible repeat (fail)); exact HO1046.1) (Kd.R_base ho1) hb); have n17_ := Sd.mk (Kd.R_elder' (by (with_reducible repeat (fail)); exact HO1049.1) (Kd.R_base ho1) hb); have n18_ := Sd.mk (Kd.R_below (by (with_reducible repeat (fail)); exact HO1052.1) hb); have n19_ := Sd.mk (Kd.V_mono (Kd.V_told (Kd.V_told (Kd.V_old (by (with_reducible repeat (fail)); exact HO1055.1) hb) (Kd.R_base ho0)) (Kd.R_base ho1)) (fun _ h_ => h_.1)); have n20_ := Sd.mk (Kd.R_elder' (by (with_reducible repeat (fail)); exact HO1061.1) (Kd.R_base ho0) hb); have n21_ := Sd.mk (Kd.R_elder' (by (with_reducible repeat (fail)); exact HO1064.1) (Kd.R_base ho1) hb); have n22_ := Sd.mk (Kd.R_elder' (by (with_reducible repeat (fail)); exact HO1067.1) (Kd.R_base ho1) hb); have n23_ := Sd.mk (Kd.R_lower (Kd.R_new' (Kd.R_new' (Kd.R_new' (Kd.R_new' (Kd.R_new' ho0 (Kd.R_lt (by (with_reducible repeat (fail)); exact HO993.1))) (Kd.R_lt (by (with_reducible repeat (fail)); exact HO1009.1))) (Kd.R_lt (by (with_reducible repeat (fail)); exact HO1025.1))) (Kd.R_lt (by (with_reducible repeat (fail)); exact HO1043.1))) (Kd.R_lt (by (with_reducible repeat (fail)); exact HO1061.1))) (bZ (by repeat (first | (with_reducible first | exact HB.1 ) )))); have n24_ := Sd.mk (Kd.R_lower (Kd.R_new' (Kd.R_new' (Kd.R_new' (Kd.R_new' (Kd.R_new' (Kd.R_new' (Kd.R_new' (Kd.R_new' (Kd.R_new' (Kd.R_new' ho1 (Kd.R_lt (by (with_reducible repeat (fail)); exact HO996.1))) (Kd.R_lt (by (with_reducible repeat (fail)); exact HO999.1))) (Kd.R_lt (by (with_reducible repeat (fail)); exact HO1012.1))) (Kd.R_lt (by (with_reducible repeat (fail)); exact HO1015.1))) (Kd.R_lt (by (with_reducible repeat (fail)); exact HO1028.1))) (Kd.R_lt (by (with_reducible repeat (fail)); exact HO1031.1))) (Kd.R_lt (by (with_reducible repeat (fail)); exact HO1046.1))) (Kd.R_lt (by (with_reducible repeat (fail)); exact HO1049.1))) (Kd.R_lt (by (with_reducible repeat (fail)); exact HO1064.1))) (Kd.R_lt (by (with_reducible repeat (fail)); exact HO1067.1))) (bZ (by repeat (first | (with_reducible first | exact HB.1 ) )))); have n25_ := Sd.mk (kB (g := gb971) (o := .cells #[.int .i64 a0_0, .int .i64 a0_1, .slice A0_2 l0_2.length c0_2, .slice A0_3 l0_3.length c0_3] 25 (0, 0)) (by (with_reducible repeat (fail)); exact BK971.1) hb); have n26_ := Sd.mk (kB (g := gb972) (o := .cells #[.int .i64 a3_0, .int .i64 a3_1] 85 (0, 0)) (by (with_reducible repeat (fail)); exact BK972.1) hb); have n27_ := Sd.mk (bT (by repeat (first | (with_reducible first | exact HB.1 ) )) hb); clear HO983; clear HO986; clear HO993; clear HO996; clear HO999; clear HO1002; clear HO1009; clear HO1012; clear HO1015; clear HO1018; clear HO1025; clear HO1028; clear HO1031; clear HO1034; clear HO1037; clear HO1043; clear HO1046; clear HO1049; clear HO1052; clear HO1055; clear HO1061; clear HO1064; clear HO1067; clear BK971; clear BK972; clear HB; have HO983 := n0_; have HO986 := n1_; have HO993 := n2_; have HO996 := n3_; have HO999 := n4_; have HO1002 := n5_; have HO1009 := n6_; have HO1012 := n7_; have HO1015 := n8_; have HO1018 := n9_; have HO1025 := n10_; have HO1028 := n11_; have HO1031 := n12_; have HO1034 := n13_; have HO1037 := n14_; have HO1043 := n15_; have HO1046 := n16_; have HO1049 := n17_; have HO1052 := n18_; have HO1055 := n19_; have HO1061 := n20_; have HO1064 := n21_; have HO1067 := n22_; have HO1074 := n23_; have HO1077 := n24_; have BK971 := n25_; have BK972 := n26_; have HB := n27_; clear n0_ n1_ n2_ n3_ n4_ n5_ n6_ n7_ n8_ n9_ n10_ n11_ n12_ n13_ n14_ n15_ n16_ n17_ n18_ n19_ n20_ n21_ n22_ n23_ n24_ n25_ n26_ n27_; (try clear hb); (try clear ho0); (try clear ho1); (try clear A48)) | ((with_reducible refine gate_callee (f := 21) rfl ?_); refine goesL_ (some 112) rfl rfl Try.func21 (by kernel_rfl) rfl #[.slice A1 l1.length c1] rfl (by (try simp only [List.map_toArray, List.map_cons, List.map_nil]); first | rfl ) ?_; (with_reducible refine (glisterlaw04_list.calls _ _ l1 t1078 _ ?side1 ?side2 A49.1).mono ?_); (case side1 => repeat (first | exact (Kd.C_below HR1.1 HB.1) )); (case side2 => exact HC1.1); rintro e w110 ⟨v1079, rfl, ho0, hb⟩; refine ⟨_, rfl, ?_⟩; have n0_ := Sd.mk (Kd.R_below (by (with_reducible repeat (fail)); exact HO983.1) hb); have n1_ := Sd.mk (Kd.R_below (by (with_reducible repeat (fail)); exact HO986.1) hb); have n2_ := Sd.mk (Kd.R_below (by (with_reducible repeat (fail)); exact HO993.1) hb); have n3_ := Sd.mk (Kd.R_elder' (by (with_reducible repeat (fail)); exact HO996.1) (Kd.R_base ho0) hb); have n4_ := Sd.mk (Kd.R_elder' (by (with_reducible repeat (fail)); exact HO999.1) (Kd.R_base ho0) hb); have n5_ := Sd.mk (Kd.R_below (by (with_reducible repeat (fail)); exact HO1002.1) hb); have n6_ := Sd.mk (Kd.R_below (by (with_reducible repeat (fail)); exact HO1009.1) hb); have n7_ := Sd.mk (Kd.R_elder' (by (with_reducible repeat (fail)); exact HO1012.1) (Kd.R_base ho0) hb); have n8_ := Sd.mk (Kd.R_elder' (by (with_reducible repeat (fail)); exact HO1015.1) (Kd.R_base ho0) hb); have n9_ := Sd.mk (Kd.R_below (by (with_reducible repeat (fail)); exact HO1018.1) hb); have n10_ := Sd.mk (Kd.R_below (by (with_reducible repeat (fail)); exact HO1025.1) hb); have n11_ := Sd.mk (Kd.R_elder' (by (with_reducible repeat (fail)); exact HO1028.1) (Kd.R_base ho0) hb); have n12_ := Sd.mk (Kd.R_elder' (by (with_reducible repeat (fail)); exact HO1031.1) (Kd.R_base ho0) hb); have n13_ := Sd.mk (Kd.R_below (by (with_reducible repeat (fail)); exact HO1034.1) hb); have n14_ := Sd.mk (Kd.V_elder' (by (with_reducible repeat (fail)); exact HO1037.1) (Kd.R_base ho0) hb); have n15_ := Sd.mk (Kd.R_below (by (with_reducible repeat (fail)); exact HO1043.1) hb); have n16_ := Sd.mk (Kd.R_elder' (by (with_reducible repeat (fail)); exact HO1046.1) (Kd.R_base ho0) hb); have n17_ := Sd.mk (Kd.R_elder' (by (with_reducible repeat (fail)); exact HO1049.1) (Kd.R_base ho0) hb); have n18_ := Sd.mk (Kd.R_below (by (with_reducible repeat (fail)); exact HO1052.1) hb); have n19_ := Sd.mk (Kd.V_elder' (by (with_reducible repeat (fail)); exact HO1055.1) (Kd.R_base ho0) hb); have n20_ := Sd.mk (Kd.R_below (by (with_reducible repeat (fail)); exact HO1061.1) hb); have n21_ := Sd.mk (Kd.R_elder' (by (with_reducible repeat (fail)); exact HO1064.1) (Kd.R_base ho0) hb); have n22_ := Sd.mk (Kd.R_elder' (by (with_reducible repeat (fail)); exact HO1067.1) (Kd.R_base ho0) hb); have n23_ := Sd.mk (Kd.R_below (by (with_reducible repeat (fail)); exact HO1074.1) hb); have n24_ := Sd.mk (Kd.R_elder' (by (with_reducible repeat (fail)); exact HO1077.1) (Kd.R_base ho0) hb); have n25_ := Sd.mk (Kd.R_lower (Kd.R_new' (Kd.R_new' (Kd.R_new' (Kd.R_new' (Kd.R_new' (Kd.R_new' (Kd.R_new' (Kd.R_new' (Kd.R_new' (Kd.R_new' (Kd.R_new' ho0 (Kd.R_lt (by (with_reducible repeat (fail)); exact HO996.1))) (Kd.R_lt (by (with_reducible repeat (fail)); exact HO999.1))) (Kd.R_lt (by (with_reducible repeat (fail)); exact HO1012.1))) (Kd.R_lt (by (with_reducible repeat (fail)); exact HO1015.1))) (Kd.R_lt (by (with_reducible repeat (fail)); exact HO1028.1))) (Kd.R_lt (by (with_reducible repeat (fail)); exact HO1031.1))) (Kd.R_lt (by (with_reducible repeat (fail)); exact HO1046.1))) (Kd.R_lt (by (with_reducible repeat (fail)); exact HO1049.1))) (Kd.R_lt (by (with_reducible repeat (fail)); exact HO1064.1))) (Kd.R_lt (by (with_reducible repeat (fail)); exact HO1067.1))) (Kd.R_lt (by (with_reducible repeat (fail)); exact HO1077.1))) (bZ (by repeat (first | (with_reducible first | exact HB.1 ) )))); have n26_ := Sd.mk (kB (g := gb971) (o := .cells #[.int .i64 a0_0, .int .i64 a0_1, .slice A0_2 l0_2.length c0_2, .slice A0_3 l0_3.length c0_3] 25 (0, 0)) (by (with_reducible repeat (fail)); exact BK971.1) hb); have n27_ := Sd.mk (kB (g := gb972) (o := .cells #[.int .i64 a3_0, .int .i64 a3_1] 85 (0, 0)) (by (with_reducible repeat (fail)); exact BK972.1) hb); have n28_ := Sd.mk (bT (by repeat (first | (with_reducible first | exact HB.1 ) )) hb); clear HO983; clear HO986; clear HO993; clear HO996; clear HO999; clear HO1002; clear HO1009; clear HO1012; clear HO1015; clear HO1018; clear HO1025; clear HO1028; clear HO1031; clear HO1034; clear HO1037; clear HO1043; clear HO1046; clear HO1049; clear HO1052; clear HO1055; clear HO1061; clear HO1064; clear HO1067; clear HO1074; clear HO1077; clear BK971; clear BK972; clear HB; have HO983 := n0_; have HO986 := n1_; have HO993 := n2_; have HO996 := n3_; have HO999 := n4_; have HO1002 := n5_; have HO1009 := n6_; have HO1012 := n7_; have HO1015 := n8_; have HO1018 := n9_; have HO1025 := n10_; have HO1028 := n11_; have HO1031 := n12_; have HO1034 := n13_; have HO1037 := n14_; have HO1043 := n15_; have HO1046 := n16_; have HO1049 := n17_; have HO1052 := n18_; have HO1055 := n19_; have HO1061 := n20_; have HO1064 := n21_; have HO1067 := n22_; have HO1074 := n23_; have HO1077 := n24_; have HO1080 := n25_; have BK971 := n26_; have BK972 := n27_; have HB := n28_; clear n0_ n1_ n2_ n3_ n4_ n5_ n6_ n7_ n8_ n9_ n10_ n11_ n12_ n13_ n14_ n15_ n16_ n17_ n18_ n19_ n20_ n21_ n22_ n23_ n24_ n25_ n26_ n27_ n28_; (try clear hb); (try clear ho0); obtain ⟨Ao111, co111, eo111⟩ := Kd.R_slice HO1074.1; subst eo111; obtain ⟨Ao112, co112, eo112⟩ := Kd.R_slice HO1077.1; subst eo112; obtain ⟨Ao113, co113, eo113⟩ := Kd.R_slice HO1080.1; subst eo113; (try clear A49)) | ((with_reducible refine gate_callee (f := 42) rfl ?_); refine goesL_ (some 114) rfl rfl Try.func42 (by kernel_rfl) rfl #[.agg #[.int .i64 t1070, .int .i64 t1071, .slice Ao111 t1072.length co111, .slice Ao112 t1075.length co112], .slice Ao113 t1078.length co113, .slice none 0 0, .int .i64 (Int.tmod (wrap64 (a4)) (l1.length : Int))] rfl (by (try simp only [List.map_toArray, List.map_cons, List.map_nil]); first | rfl ) ?_; (refine (cipher_Possible.calls t1070 t1071 _ _ t1072 _ _ t1075 _ _ t1078 _ _ ([] : List (S88)) (Int.tmod (wrap64 (a4)) (l1.length : Int)) t1081 t1084 _ ?side1 ?side2 ?side3 ?side4 ?side5 ?side6 ?side7 ?side8 A50.1).mono ?_); (case side1 => repeat (first | exact (Kd.R_reads' HO1074.1).2.2 )); (case side2 => exact (Kd.R_reads' HO1074.1).2.1); (case side3 => repeat (first | exact (Kd.R_reads' HO1077.1).2.2 )); (case side4 => exact (Kd.R_reads' HO1077.1).2.1); (case side5 => repeat (first | exact (Kd.R_reads' HO1080.1).2.2 )); (case side6 => exact (Kd.R_reads' HO1080.1).2.1); (case side7 => exact Kd.C_nil _ _); (case side8 => exact Nat.le_refl _); rintro e w114 ⟨v1082, rfl, ho0, hb⟩; refine ⟨_, rfl, ?_⟩; have n0_ := Sd.mk (Kd.R_below (by (with_reducible repeat (fail)); exact HO983.1) hb); have n1_ := Sd.mk (Kd.R_below (by (with_reducible repeat (fail)); exact HO986.1) hb); have n2_ := Sd.mk (Kd.R_below (by (with_reducible repeat (fail)); exact HO993.1) hb); have n3_ := Sd.mk (Kd.R_below (by (with_reducible repeat (fail)); exact HO996.1) hb); have n4_ := Sd.mk (Kd.R_below (by (with_reducible repeat (fail)); exact HO999.1) hb); have n5_ := Sd.mk (Kd.R_below (by (with_reducible repeat (fail)); exact HO1002.1) hb); have n6_ := Sd.mk (Kd.R_below (by (with_reducible repeat (fail)); exact HO1009.1) hb); have n7_ := Sd.mk (Kd.R_below (by (with_reducible repeat (fail)); exact HO1012.1) hb); have n8_ := Sd.mk (Kd.R_below (by (with_reducible repeat (fail)); exact HO1015.1) hb); have n9_ := Sd.mk (Kd.R_below (by (with_reducible repeat (fail)); exact HO1018.1) hb); have n10_ := Sd.mk (Kd.R_below (by (with_reducible repeat (fail)); exact HO1025.1) hb); have n11_ := Sd.mk (Kd.R_below (by (with_reducible repeat (fail)); exact HO1028.1) hb); have n12_ := Sd.mk (Kd.R_below (by (with_reducible repeat (fail)); exact HO1031.1) hb); have n13_ := Sd.mk (Kd.R_below (by (with_reducible repeat (fail)); exact HO1034.1) hb); have n14_ := Sd.mk (Kd.V_below (by (with_reducible repeat (fail)); exact HO1037.1) hb); have n15_ := Sd.mk (Kd.R_below (by (with_reducible repeat (fail)); exact HO1043.1) hb); have n16_ := Sd.mk (Kd.R_below (by (with_reducible repeat (fail)); exact HO1046.1) hb); have n17_ := Sd.mk (Kd.R_below (by (with_reducible repeat (fail)); exact HO1049.1) hb); have n18_ := Sd.mk (Kd.R_below (by (with_reducible repeat (fail)); exact HO1052.1) hb); have n19_ := Sd.mk (Kd.V_below (by (with_reducible repeat (fail)); exact HO1055.1) hb); have n20_ := Sd.mk (Kd.R_below (by (with_reducible repeat (fail)); exact HO1061.1) hb); have n21_ := Sd.mk (Kd.R_below (by (with_reducible repeat (fail)); exact HO1064.1) hb); have n22_ := Sd.mk (Kd.R_below (by (with_reducible repeat (fail)); exact HO1067.1) hb); have n23_ := Sd.mk (Kd.R_below (by (with_reducible repeat (fail)); exact HO1074.1) hb); have n24_ := Sd.mk (Kd.R_below (by (with_reducible repeat (fail)); exact HO1077.1) hb); have n25_ := Sd.mk (Kd.R_below (by (with_reducible repeat (fail)); exact HO1080.1) hb); have n26_ := Sd.mk (Kd.V_lower (Kd.V_mono (ok' := fun k_ => some k_ ≠ (.slice Ao60 y981.length co60 : Value).ownBlock ∧ some k_ ≠ (.slice Ao63 y984.length co63 : Value).ownBlock ∧ some k_ ≠ (.slice Ao69 t991.length co69 : Value).ownBlock ∧ some k_ ≠ (.slice Ao70 t994.length co70 : Value).ownBlock ∧ some k_ ≠ (.slice Ao71 t997.length co71 : Value).ownBlock ∧ some k_ ≠ (.slice Ao72 t1000.length co72 : Value).ownBlock ∧ some k_ ≠ (.slice Ao78 t1007.length co78 : Value).ownBlock ∧ some k_ ≠ (.slice Ao79 t1010.length co79 : Value).ownBlock ∧ some k_ ≠ (.slice Ao80 t1013.length co80 : Value).ownBlock ∧ some k_ ≠ (.slice Ao81 t1016.length co81 : Value).ownBlock ∧ some k_ ≠ (.slice Ao87 t1023.length co87 : Value).ownBlock ∧ some k_ ≠ (.slice Ao88 t1026.length co88 : Value).ownBlock ∧ some k_ ≠ (.slice Ao89 t1029.length co89 : Value).ownBlock ∧ some k_ ≠ (.slice Ao90 t1032.length co90 : Value).ownBlock ∧ some k_ ≠ (.slice Ao96 t1041.length co96 : Value).ownBlock ∧ some k_ ≠ (.slice Ao97 t1044.length co97 : Value).ownBlock ∧ some k_ ≠ (.slice Ao98 t1047.length co98 : Value).ownBlock ∧ some k_ ≠ (.slice Ao99 t1050.length co99 : Value).ownBlock ∧ some k_ ≠ (.slice Ao104 t1059.length co104 : Value).ownBlock ∧ some k_ ≠ (.slice Ao105 t1062.length co105 : Value).ownBlock ∧ some k_ ≠ (.slice Ao106 t1065.length co106 : Value).ownBlock ∧ some k_ ≠ (.slice Ao111 t1072.length co111 : Value).ownBlock ∧ some k_ ≠ (.slice Ao112 t1075.length co112 : Value).ownBlock ∧ some k_ ≠ (.slice Ao113 t1078.length co113 : Value).ownBlock ∧ k_ ≠ gb971 ∧ k_ ≠ gb972) ho0 (fun k_ hk_ => ⟨(Kd.fresh' (Kd.R_lt (by (with_reducible repeat (fail)); exact HO983.1)) k_ hk_), (Kd.fresh' (Kd.R_lt (by (with_reducible repeat (fail)); exact HO986.1)) k_ hk_), (Kd.fresh' (Kd.R_lt (by (with_reducible repeat (fail)); exact HO993.1)) k_ hk_), (Kd.fresh' (Kd.R_lt (by (with_reducible repeat (fail)); exact HO996.1)) k_ hk_), (Kd.fresh' (Kd.R_lt (by (with_reducible repeat (fail)); exact HO999.1)) k_ hk_), (Kd.fresh' (Kd.R_lt (by (with_reducible repeat (fail)); exact HO1002.1)) k_ hk_), (Kd.fresh' (Kd.R_lt (by (with_reducible repeat (fail)); exact HO1009.1)) k_ hk_), (Kd.fresh' (Kd.R_lt (by (with_reducible repeat (fail)); exact HO1012.1)) k_ hk_), (Kd.fresh' (Kd.R_lt (by (with_reducible repeat (fail)); exact HO1015.1)) k_ hk_), (Kd.fresh' (Kd.R_lt (by (with_reducible repeat (fail)); exact HO1018.1)) k_ hk_), (Kd.fresh' (Kd.R_lt (by (with_reducible repeat (fail)); exact HO1025.1)) k_ hk_), (Kd.fresh' (Kd.R_lt (by (with_reducible repeat (fail)); exact HO1028.1)) k_ hk_), (Kd.fresh' (Kd.R_lt (by (with_reducible repeat (fail)); exact HO1031.1)) k_ hk_), (Kd.fresh' (Kd.R_lt (by (with_reducible repeat (fail)); exact HO1034.1)) k_ hk_), (Kd.fresh' (Kd.R_lt (by (with_reducible repeat (fail)); exact HO1043.1)) k_ hk_), (Kd.fresh' (Kd.R_lt (by (with_reducible repeat (fail)); exact HO1046.1)) k_ hk_), (Kd.fresh' (Kd.R_lt (by (with_reducible repeat (fail)); exact HO1049.1)) k_ hk_), (Kd.fresh' (Kd.R_lt (by (with_reducible repeat (fail)); exact HO1052.1)) k_ hk_), (Kd.fresh' (Kd.R_lt (by (with_reducible repeat (fail)); exact HO1061.1)) k_ hk_), (Kd.fresh' (Kd.R_lt (by (with_reducible repeat (fail)); exact HO1064.1)) k_ hk_), (Kd.fresh' (Kd.R_lt (by (with_reducible repeat (fail)); exact HO1067.1)) k_ hk_), (Kd.fresh' (Kd.R_lt (by (with_reducible repeat (fail)); exact HO1074.1)) k_ hk_), (Kd.fresh' (Kd.R_lt (by (with_reducible repeat (fail)); exact HO1077.1)) k_ hk_), (Kd.fresh' (Kd.R_lt (by (with_reducible repeat (fail)); exact HO1080.1)) k_ hk_), (Kd.freshB (g := gb971) (o := .cells #[.int .i64 a0_0, .int .i64 a0_1, .slice A0_2 l0_2.length c0_2, .slice A0_3 l0_3.length c0_3] 25 (0, 0)) (by (with_reducible repeat (fail)); exact BK971.1) k_ hk_), (Kd.freshB (g := gb972) (o := .cells #[.int .i64 a3_0, .int .i64 a3_1] 85 (0, 0)) (by (with_reducible repeat (fail)); exact BK972.1) k_ hk_)⟩)) (bZ (by repeat (first | (with_reducible first | exact HB.1 ) )))); have n27_ := Sd.mk (kB (g := gb971) (o := .cells #[.int .i64 a0_0, .int .i64 a0_1, .slice A0_2 l0_2.length c0_2, .slice A0_3 l0_3.length c0_3] 25 (0, 0)) (by (with_reducible repeat (fail)); exact BK971.1) hb); have n28_ := Sd.mk (kB (g := gb972) (o := .cells #[.int .i64 a3_0, .int .i64 a3_1] 85 (0, 0)) (by (with_reducible repeat (fail)); exact BK972.1) hb); have n29_ := Sd.mk (bT (by repeat (first | (with_reducible first | exact HB.1 ) )) hb); clear HO983; clear HO986; clear HO993; clear HO996; clear HO999; clear HO1002; clear HO1009; clear HO1012; clear HO1015; clear HO1018; clear HO1025; clear HO1028; clear HO1031; clear HO1034; clear HO1037; clear HO1043; clear HO1046; clear HO1049; clear HO1052; clear HO1055; clear HO1061; clear HO1064; clear HO1067; clear HO1074; clear HO1077; clear HO1080; clear BK971; clear BK972; clear HB; have HO983 := n0_; have HO986 := n1_; have HO993 := n2_; have HO996 := n3_; have HO999 := n4_; have HO1002 := n5_; have HO1009 := n6_; have HO1012 := n7_; have HO1015 := n8_; have HO1018 := n9_; have HO1025 := n10_; have HO1028 := n11_; have HO1031 := n12_; have HO1034 := n13_; have HO1037 := n14_; have HO1043 := n15_; have HO1046 := n16_; have HO1049 := n17_; have HO1052 := n18_; have HO1055 := n19_; have HO1061 := n20_; have HO1064 := n21_; have HO1067 := n22_; have HO1074 := n23_; have HO1077 := n24_; have HO1080 := n25_; have HO1083 := n26_; have BK971 := n27_; have BK972 := n28_; have HB := n29_; clear n0_ n1_ n2_ n3_ n4_ n5_ n6_ n7_ n8_ n9_ n10_ n11_ n12_ n13_ n14_ n15_ n16_ n17_ n18_ n19_ n20_ n21_ n22_ n23_ n24_ n25_ n26_ n27_ n28_ n29_; (try clear hb); (try clear ho0); (try clear A50)))
        go_cut [152] (fun v152 wc => ∃ (kq : Nat) (x152_50 : Bool), v152 = .bool x152_50 ∧ Sd (glisterlaw04_CipherMore.j1 kq t1003 t1004 t1019 t1020 t1035 t1053 t1068 x152_50 = some r) ∧ Sd (kq ≤ kj5) ∧ Sd (Kd.V (Kd.int .i64) 3 wc w.heap.size (fun k_ => k_ ≠ gb971 ∧ k_ ≠ gb972) v1036 t1035) ∧ Sd (Kd.V (Kd.int .i64) 3 wc w.heap.size (fun k_ => k_ ≠ gb971 ∧ k_ ≠ gb972) v1054 t1053) ∧ Sd (wc.heap[gb971]? = some (.cells #[.int .i64 a0_0, .int .i64 a0_1, (.slice A0_2 l0_2.length c0_2), (.slice A0_3 l0_3.length c0_3)] 25 (0, 0))) ∧ Sd (wc.heap[gb972]? = some (.cells #[.int .i64 a3_0, .int .i64 a3_1] 85 (0, 0))) ∧ Sd (Below w.heap.size w wc))
        case first =>
         have H := HC51.1
         clear HC51
         by_cases c115 : t1069 = 0
         ·rw [if_pos c115] at H
          have c115b0 : (t1069 == 0) = true := beq_iff_eq.mpr c115
          have c115b1 : (t1069 != 0) = false := bne_eq_false_iff_eq.mpr c115
          clear c115
          by_cases c116 : t1068 = (wrap64 ((wrap64 (a0_0 * a0_0)) * (wrap64 (a0_0 - 1))))
          ·rw [if_pos c116] at H
           have c116b0 : (t1068 == (wrap64 ((wrap64 (a0_0 * a0_0)) * (wrap64 (a0_0 - 1))))) = true := beq_iff_eq.mpr c116
           have c116b1 : (t1068 != (wrap64 ((wrap64 (a0_0 * a0_0)) * (wrap64 (a0_0 - 1))))) = false := bne_eq_false_iff_eq.mpr c116
           clear c116
           by_cases c117 : t1084 = 0
           ·rw [if_pos c117] at H
            have c117b0 : (t1084 == 0) = true := beq_iff_eq.mpr c117
            have c117b1 : (t1084 != 0) = false := bne_eq_false_iff_eq.mpr c117
            clear c117
            by_cases c118 : (t1081.length : Int) = a0_0
            ·rw [if_pos c118] at H
             have c118b0 : ((t1081.length : Int) == a0_0) = true := beq_iff_eq.mpr c118
             have c118b1 : ((t1081.length : Int) != a0_0) = false := bne_eq_false_iff_eq.mpr c118
             clear c118
             by_cases c119 : t1004 = t1038
             ·as_aux_lemma =>
              rw [if_pos c119] at H
              have c119b0 : (t1004 == t1038) = true := beq_iff_eq.mpr c119
              have c119b1 : (t1004 != t1038) = false := bne_eq_false_iff_eq.mpr c119
              clear c119
              have H' := Sd.mk H
              clear H
              have hnb120 := NB971_972.1
              have hnc120 := NB972_971.1
              have z_121_0 : w114.cell? ⟨gb971, 0, none⟩ = some (.int .i64 a0_0) := (kC BK971.1 0).trans rfl
              obtain ⟨Ao122, co122, eo122⟩ := Kd.V_slice HO1083.1
              subst eo122
              go_wp2
              go_meet
              case rel => exact ⟨_, ((t1020 != t1056)), (by first | rfl ), H', ⟨by have := HJ5.1; first | omega ⟩, ⟨by (with_reducible repeat (fail)); exact Kd.V_mono HO1037.1 (fun _ hk => ⟨hk.1.1.1.1.1.1.1.1.1.1.2.2.2.2.2.2.2.2.2.2.2.2.2.2.1, hk.1.1.1.1.1.1.1.1.1.1.2.2.2.2.2.2.2.2.2.2.2.2.2.2.2⟩)⟩, ⟨by (with_reducible repeat (fail)); exact Kd.V_mono HO1055.1 (fun _ hk => ⟨hk.1.1.1.1.1.1.2.2.2.2.2.2.2.2.2.2.2.2.2.2.2.2.2.2.1, hk.1.1.1.1.1.1.2.2.2.2.2.2.2.2.2.2.2.2.2.2.2.2.2.2.2⟩)⟩, ⟨by (with_reducible repeat (fail)); exact BK971.1⟩, ⟨by (with_reducible repeat (fail)); exact BK972.1⟩, ⟨by repeat (first | (with_reducible first | exact HB.1 ) )⟩⟩
             ·as_aux_lemma =>
              rw [if_neg c119] at H
              have c119b0 : (t1004 == t1038) = false := beq_eq_false_iff_ne.mpr c119
              have c119b1 : (t1004 != t1038) = true := bne_iff_ne.mpr c119
              have H' := Sd.mk H
              clear H
              have hnb123 := NB971_972.1
              have hnc123 := NB972_971.1
              have z_124_0 : w114.cell? ⟨gb971, 0, none⟩ = some (.int .i64 a0_0) := (kC BK971.1 0).trans rfl
              obtain ⟨Ao125, co125, eo125⟩ := Kd.V_slice HO1083.1
              subst eo125
              go_wp2
              go_meet
              case rel => exact ⟨_, (true), (by first | rfl ), H', ⟨by have := HJ5.1; first | omega ⟩, ⟨by (with_reducible repeat (fail)); exact Kd.V_mono HO1037.1 (fun _ hk => ⟨hk.1.1.1.1.1.1.1.1.1.1.2.2.2.2.2.2.2.2.2.2.2.2.2.2.1, hk.1.1.1.1.1.1.1.1.1.1.2.2.2.2.2.2.2.2.2.2.2.2.2.2.2⟩)⟩, ⟨by (with_reducible repeat (fail)); exact Kd.V_mono HO1055.1 (fun _ hk => ⟨hk.1.1.1.1.1.1.2.2.2.2.2.2.2.2.2.2.2.2.2.2.2.2.2.2.1, hk.1.1.1.1.1.1.2.2.2.2.2.2.2.2.2.2.2.2.2.2.2.2.2.2.2⟩)⟩, ⟨by (with_reducible repeat (fail)); exact BK971.1⟩, ⟨by (with_reducible repeat (fail)); exact BK972.1⟩, ⟨by repeat (first | (with_reducible first | exact HB.1 ) )⟩⟩
            ·as_aux_lemma =>
             rw [if_neg c118] at H
             have c118b0 : ((t1081.length : Int) == a0_0) = false := beq_eq_false_iff_ne.mpr c118
             have c118b1 : ((t1081.length : Int) != a0_0) = true := bne_iff_ne.mpr c118
             have H' := Sd.mk H
             clear H
             have hnb126 := NB971_972.1
             have hnc126 := NB972_971.1
             have z_127_0 : w114.cell? ⟨gb971, 0, none⟩ = some (.int .i64 a0_0) := (kC BK971.1 0).trans rfl
             obtain ⟨Ao128, co128, eo128⟩ := Kd.V_slice HO1083.1
             subst eo128
             go_wp2
             go_meet
             case rel => exact ⟨_, (true), (by first | rfl ), H', ⟨by have := HJ5.1; first | omega ⟩, ⟨by (with_reducible repeat (fail)); exact Kd.V_mono HO1037.1 (fun _ hk => ⟨hk.1.1.1.1.1.1.1.1.1.1.2.2.2.2.2.2.2.2.2.2.2.2.2.2.1, hk.1.1.1.1.1.1.1.1.1.1.2.2.2.2.2.2.2.2.2.2.2.2.2.2.2⟩)⟩, ⟨by (with_reducible repeat (fail)); exact Kd.V_mono HO1055.1 (fun _ hk => ⟨hk.1.1.1.1.1.1.2.2.2.2.2.2.2.2.2.2.2.2.2.2.2.2.2.2.1, hk.1.1.1.1.1.1.2.2.2.2.2.2.2.2.2.2.2.2.2.2.2.2.2.2.2⟩)⟩, ⟨by (with_reducible repeat (fail)); exact BK971.1⟩, ⟨by (with_reducible repeat (fail)); exact BK972.1⟩, ⟨by repeat (first | (with_reducible first | exact HB.1 ) )⟩⟩
           ·rw [if_neg c117] at H
            have c117b0 : (t1084 == 0) = false := beq_eq_false_iff_ne.mpr c117
            have c117b1 : (t1084 != 0) = true := bne_iff_ne.mpr c117
            have H' := Sd.mk H
            clear H
            have hnb129 := NB971_972.1
            have hnc129 := NB972_971.1
            have z_130_0 : w114.cell? ⟨gb971, 0, none⟩ = some (.int .i64 a0_0) := (kC BK971.1 0).trans rfl
            go_wp2
            go_meet
            case rel => exact ⟨_, (true), (by first | rfl ), H', ⟨by have := HJ5.1; first | omega ⟩, ⟨by (with_reducible repeat (fail)); exact Kd.V_mono HO1037.1 (fun _ hk => ⟨hk.1.1.1.1.1.1.1.1.1.1.2.2.2.2.2.2.2.2.2.2.2.2.2.2.1, hk.1.1.1.1.1.1.1.1.1.1.2.2.2.2.2.2.2.2.2.2.2.2.2.2.2⟩)⟩, ⟨by (with_reducible repeat (fail)); exact Kd.V_mono HO1055.1 (fun _ hk => ⟨hk.1.1.1.1.1.1.2.2.2.2.2.2.2.2.2.2.2.2.2.2.2.2.2.2.1, hk.1.1.1.1.1.1.2.2.2.2.2.2.2.2.2.2.2.2.2.2.2.2.2.2.2⟩)⟩, ⟨by (with_reducible repeat (fail)); exact BK971.1⟩, ⟨by (with_reducible repeat (fail)); exact BK972.1⟩, ⟨by repeat (first | (with_reducible first | exact HB.1 ) )⟩⟩
          ·rw [if_neg c116] at H
           have c116b0 : (t1068 == (wrap64 ((wrap64 (a0_0 * a0_0)) * (wrap64 (a0_0 - 1))))) = false := beq_eq_false_iff_ne.mpr c116
           have c116b1 : (t1068 != (wrap64 ((wrap64 (a0_0 * a0_0)) * (wrap64 (a0_0 - 1))))) = true := bne_iff_ne.mpr c116
           have H' := Sd.mk H
           clear H
           have hnb131 := NB971_972.1
           have hnc131 := NB972_971.1
           have z_132_0 : w114.cell? ⟨gb971, 0, none⟩ = some (.int .i64 a0_0) := (kC BK971.1 0).trans rfl
           go_wp2
           go_meet
           case rel => exact ⟨_, (true), (by first | rfl ), H', ⟨by have := HJ5.1; first | omega ⟩, ⟨by (with_reducible repeat (fail)); exact Kd.V_mono HO1037.1 (fun _ hk => ⟨hk.1.1.1.1.1.1.1.1.1.1.2.2.2.2.2.2.2.2.2.2.2.2.2.2.1, hk.1.1.1.1.1.1.1.1.1.1.2.2.2.2.2.2.2.2.2.2.2.2.2.2.2⟩)⟩, ⟨by (with_reducible repeat (fail)); exact Kd.V_mono HO1055.1 (fun _ hk => ⟨hk.1.1.1.1.1.1.2.2.2.2.2.2.2.2.2.2.2.2.2.2.2.2.2.2.1, hk.1.1.1.1.1.1.2.2.2.2.2.2.2.2.2.2.2.2.2.2.2.2.2.2.2⟩)⟩, ⟨by (with_reducible repeat (fail)); exact BK971.1⟩, ⟨by (with_reducible repeat (fail)); exact BK972.1⟩, ⟨by repeat (first | (with_reducible first | exact HB.1 ) )⟩⟩
         ·rw [if_neg c115] at H
          have c115b0 : (t1069 == 0) = false := beq_eq_false_iff_ne.mpr c115
          have c115b1 : (t1069 != 0) = true := bne_iff_ne.mpr c115
          have H' := Sd.mk H
          clear H
          go_wp2
          go_meet
          case rel => exact ⟨_, (true), (by first | rfl ), H', ⟨by have := HJ5.1; first | omega ⟩, ⟨by (with_reducible repeat (fail)); exact Kd.V_mono HO1037.1 (fun _ hk => ⟨hk.1.1.1.1.1.1.1.1.1.1.2.2.2.2.2.2.2.2.2.2.2.2.2.2.1, hk.1.1.1.1.1.1.1.1.1.1.2.2.2.2.2.2.2.2.2.2.2.2.2.2.2⟩)⟩, ⟨by (with_reducible repeat (fail)); exact Kd.V_mono HO1055.1 (fun _ hk => ⟨hk.1.1.1.1.1.1.2.2.2.2.2.2.2.2.2.2.2.2.2.2.2.2.2.2.1, hk.1.1.1.1.1.1.2.2.2.2.2.2.2.2.2.2.2.2.2.2.2.2.2.2.2⟩)⟩, ⟨by (with_reducible repeat (fail)); exact BK971.1⟩, ⟨by (with_reducible repeat (fail)); exact BK972.1⟩, ⟨by repeat (first | (with_reducible first | exact HB.1 ) )⟩⟩
        case rest =>
         clear HC51
         clear c28 c28b0 c28b1 c28b2
         clear z_101_0 z_101_1 z_101_2 z_101_3 z_108_0 z_108_1 z_108_2 z_108_3
         clear z_62_0 z_62_1 z_62_2 z_62_3 z_65_0 z_65_1 z_65_2 z_65_3 z_74_0 z_74_1 z_74_2 z_74_3 z_83_0 z_83_1 z_83_2 z_83_3 z_92_0 z_92_1 z_92_2 z_92_3
         obtain ⟨kq, x152_50, rfl, HA, HJ50, HO_17, HO_19, BK971, BK972, HB⟩ := hcut
         cases kq with
         | zero => exact absurd HA.1 (by simp [glisterlaw04_CipherMore.j1])
         | succ kj50 =>
          have H := HA.1
          clear HA
          simp only [glisterlaw04_CipherMore.j1] at H
          by_cases c133 : x152_50 = true
          ·subst c133
           rw [if_pos rfl] at H
           exact absurd H (by simp)
          ·replace c133 := Bool.eq_false_iff.mpr c133
           subst c133
           rw [if_neg (show ¬ (false = true) by decide)] at H
           by_cases c134 : t1020 = 0
           ·rw [if_pos c134] at H
            have c134b0 : (t1020 == 0) = true := beq_iff_eq.mpr c134
            have c134b1 : (t1020 != 0) = false := bne_eq_false_iff_eq.mpr c134
            clear c134
            have HC135 := Sd.mk H
            clear H
            go_upto_region 17 with (fail)
            go_cut [180] (fun v180 wc => ∃ (kq : Nat) (x180_134 : Bool), v180 = .bool x180_134 ∧ Sd (glisterlaw04_CipherMore.j2 kq t1035 t1053 x180_134 = some r) ∧ Sd (kq ≤ kj50) ∧ Sd (Kd.V (Kd.int .i64) 3 wc w.heap.size (fun k_ => k_ ≠ gb971 ∧ k_ ≠ gb972) v1036 t1035) ∧ Sd (Kd.V (Kd.int .i64) 3 wc w.heap.size (fun k_ => k_ ≠ gb971 ∧ k_ ≠ gb972) v1054 t1053) ∧ Sd (wc.heap[gb971]? = some (.cells #[.int .i64 a0_0, .int .i64 a0_1, (.slice A0_2 l0_2.length c0_2), (.slice A0_3 l0_3.length c0_3)] 25 (0, 0))) ∧ Sd (wc.heap[gb972]? = some (.cells #[.int .i64 a3_0, .int .i64 a3_1] 85 (0, 0))) ∧ Sd (Below w.heap.size w wc))
            case first =>
             have H := HC135.1
             clear HC135
             by_cases c136 : t1004 = 0
             ·as_aux_lemma =>
              rw [if_pos c136] at H
              have c136b0 : (t1004 == 0) = true := beq_iff_eq.mpr c136
              have c136b1 : (t1004 != 0) = false := bne_eq_false_iff_eq.mpr c136
              clear c136
              by_cases c137 : t1019 > t1003
              ·rw [if_pos c137] at H
               have c137b0 : decide (t1003 < t1019) = true := decide_eq_true c137
               clear c137
               have H' := Sd.mk H
               clear H
               go_wp2
               go_meet
               case rel => exact ⟨_, (true), (by first | rfl ), H', ⟨by have := HJ5.1; have := HJ50.1; first | omega ⟩, ⟨by (with_reducible repeat (fail)); exact HO_17.1⟩, ⟨by (with_reducible repeat (fail)); exact HO_19.1⟩, ⟨by (with_reducible repeat (fail)); exact BK971.1⟩, ⟨by (with_reducible repeat (fail)); exact BK972.1⟩, ⟨by repeat (first | (with_reducible first | exact HB.1 ) )⟩⟩
              ·rw [if_neg c137] at H
               have c137b0 : decide (t1003 < t1019) = false := decide_eq_false c137
               clear c137
               have H' := Sd.mk H
               clear H
               go_wp2
               go_meet
               case rel => exact ⟨_, (decide (t1003 > t1068)), (by first | rfl ), H', ⟨by have := HJ5.1; have := HJ50.1; first | omega ⟩, ⟨by (with_reducible repeat (fail)); exact HO_17.1⟩, ⟨by (with_reducible repeat (fail)); exact HO_19.1⟩, ⟨by (with_reducible repeat (fail)); exact BK971.1⟩, ⟨by (with_reducible repeat (fail)); exact BK972.1⟩, ⟨by repeat (first | (with_reducible first | exact HB.1 ) )⟩⟩
             ·rw [if_neg c136] at H
              have c136b0 : (t1004 == 0) = false := beq_eq_false_iff_ne.mpr c136
              have c136b1 : (t1004 != 0) = true := bne_iff_ne.mpr c136
              have H' := Sd.mk H
              clear H
              go_wp2
              go_meet
              case rel => exact ⟨_, (true), (by first | rfl ), H', ⟨by have := HJ5.1; have := HJ50.1; first | omega ⟩, ⟨by (with_reducible repeat (fail)); exact HO_17.1⟩, ⟨by (with_reducible repeat (fail)); exact HO_19.1⟩, ⟨by (with_reducible repeat (fail)); exact BK971.1⟩, ⟨by (with_reducible repeat (fail)); exact BK972.1⟩, ⟨by repeat (first | (with_reducible first | exact HB.1 ) )⟩⟩
            case rest =>
             clear HC135
             clear c134b0 c134b1
             obtain ⟨kq, x180_134, rfl, HA, HJ134, HO_17, HO_19, BK971, BK972, HB⟩ := hcut
             cases kq with
             | zero => exact absurd HA.1 (by simp [glisterlaw04_CipherMore.j2])
             | succ kj134 =>
              have H := HA.1
              clear HA
              simp only [glisterlaw04_CipherMore.j2] at H
              by_cases c138 : x180_134 = true
              ·subst c138
               rw [if_pos rfl] at H
               exact absurd H (by simp)
              ·replace c138 := Bool.eq_false_iff.mpr c138
               subst c138
               rw [if_neg (show ¬ (false = true) by decide)] at H
               have H' := Sd.mk H
               clear H
               go_wp2
               go_loopg [25] kj134 (fun kq v25 w' => ∃ (x25_4 : Int), v25 = .int .i64 x25_4 ∧ Sd (glisterlaw04_CipherMore.l0 kq t1035 t1053 x25_4 = some r) ∧ Sd (kq ≤ kj134) ∧ Sd (Kd.V (Kd.int .i64) 3 w' w.heap.size (fun k_ => k_ ≠ gb971 ∧ k_ ≠ gb972) v1036 t1035) ∧ Sd (Kd.V (Kd.int .i64) 3 w' w.heap.size (fun k_ => k_ ≠ gb971 ∧ k_ ≠ gb972) v1054 t1053) ∧ Sd (w'.heap[gb971]? = some (.cells #[.int .i64 a0_0, .int .i64 a0_1, (.slice A0_2 l0_2.length c0_2), (.slice A0_3 l0_3.length c0_3)] 25 (0, 0))) ∧ Sd (w'.heap[gb972]? = some (.cells #[.int .i64 a3_0, .int .i64 a3_1] 85 (0, 0))) ∧ Sd (Below w.heap.size w w'))
               case atStart => exact ⟨(0), (by first | rfl ), H', ⟨Nat.le_refl _⟩, ⟨by (with_reducible repeat (fail)); exact HO_17.1⟩, ⟨by (with_reducible repeat (fail)); exact HO_19.1⟩, ⟨by (with_reducible repeat (fail)); exact BK971.1⟩, ⟨by (with_reducible repeat (fail)); exact BK972.1⟩, ⟨by repeat (first | (with_reducible first | exact HB.1 ) )⟩⟩
               case round =>
                clear H'
                obtain ⟨x25_4, rfl, HA, HK4, HO_17, HO_19, BK971, BK972, HB⟩ := hrel
                cases gk with
                | zero => exact absurd HA.1 (by simp [glisterlaw04_CipherMore.l0])
                | succ k4 =>
                 have H := HA.1
                 clear HA
                 simp only [glisterlaw04_CipherMore.l0] at H
                 by_cases c139 : x25_4 < (t1053.length : Int)
                 ·rw [if_pos c139] at H
                  have c139b0 : decide (x25_4 < (t1053.length : Int)) = true := decide_eq_true c139
                  clear c139
                  by_cases c140 : 0 ≤ x25_4
                  ·rw [if_pos c140] at H
                   have c140b0 : decide (0 ≤ x25_4) = true := decide_eq_true c140
                   clear c140
                   obtain ⟨t1087, A1410, H⟩ := Option.bind_eq_some_iff.mp H
                   have A141 := Sd.mk A1410
                   clear A1410
                   by_cases c142 : t1087 = true
                   ·as_aux_lemma =>
                    subst c142
                    rw [if_pos rfl] at H
                    have H' := Sd.mk H
                    clear H
                    obtain ⟨Ao143, co143, eo143⟩ := Kd.V_slice HO_19.1
                    subst eo143
                    have p1086 : 0 ≤ (x25_4 : Int) := of_decide_eq_true (by first | (with_reducible assumption) )
                    have q1086 : x25_4 < (t1053.length : Int) := of_decide_eq_true (by first | (with_reducible assumption) )
                    obtain ⟨ad1086, e1086, hx1086_0⟩ := Kd.at_int (Kd.V_reads' HO_19.1).2.2 x25_4 p1086 q1086
                    cases e1086
                    replace p1086 := eq_true p1086
                    replace q1086 := eq_true q1086
                    obtain ⟨Ao144, co144, eo144⟩ := Kd.V_slice HO_17.1
                    subst eo144
                    go_wp2_with (first | ((with_reducible refine gate_callee (f := 46) rfl ?_); refine goesL_ (some 192) rfl rfl Try.func46 (by kernel_rfl) rfl #[.slice Ao144 t1035.length co144, .int .i64 (rd t1053 x25_4)] rfl (by (try simp only [List.map_toArray, List.map_cons, List.map_nil]); first | rfl ) ?_; (with_reducible refine (glisterlaw04_has.calls k4 _ _ t1035 (rd t1053 x25_4) true _ ?side1 ?side2 A141.1).mono ?_); (case side1 => repeat (first | exact (Kd.V_reads' HO_17.1).2.2 )); (case side2 => exact (Kd.V_reads' HO_17.1).2.1); rintro e w' ⟨rfl, ⟨nd, rfl⟩⟩; refine ⟨_, rfl, ?_⟩))
                    go_roundg k4
                    case measure => have := HJ5.1; have := HJ50.1; have := HJ134.1; have := HK4.1; omega
                    case rel => exact ⟨(wrap64 (x25_4 + 1)), (by first | rfl ), H', ⟨by have := HJ5.1; have := HJ50.1; have := HJ134.1; have := HK4.1; omega⟩, ⟨by (with_reducible repeat (apply Kd.V_drewN )); exact HO_17.1⟩, ⟨by (with_reducible repeat (apply Kd.V_drewN )); exact HO_19.1⟩, ⟨by (with_reducible repeat (refine kN ?_ _ )); exact BK971.1⟩, ⟨by (with_reducible repeat (refine kN ?_ _ )); exact BK972.1⟩, ⟨by repeat (first | (with_reducible first | exact HB.1 | apply bN ) )⟩⟩
                   ·replace c142 := Bool.eq_false_iff.mpr c142
                    subst c142
                    rw [if_neg (show ¬ (false = true) by decide)] at H
                    exact absurd H (by simp)
                  ·rw [if_neg c140] at H
                   exact absurd H (by simp)
                 ·rw [if_neg c139] at H
                  have c139b0 : decide (x25_4 < (t1053.length : Int)) = false := decide_eq_false c139
                  clear c139
                  obtain ⟨t1088, A1450, H⟩ := Option.bind_eq_some_iff.mp H
                  have A145 := Sd.mk A1450
                  clear A1450
                  obtain rfl := Option.some.inj H
                  obtain ⟨Ao146, co146, eo146⟩ := Kd.V_slice HO_19.1
                  subst eo146
                  go_wp2_with (first | ((with_reducible refine gate_callee (f := 17) rfl ?_); refine goesL_ (some 194) rfl rfl Try.func17 (by kernel_rfl) rfl #[] rfl (by (try simp only [List.map_toArray, List.map_cons, List.map_nil]); first | done ) ?_; (with_reducible refine (glisterlaw04_awake.calls  t1088 _ A145.1).mono ?_); rintro e w147 ⟨rfl, hb⟩; refine ⟨_, rfl, ?_⟩; replace HO_17 := Sd.mk (Kd.V_below (by (with_reducible repeat (fail)); exact HO_17.1) hb); replace HO_19 := Sd.mk (Kd.V_below (by (with_reducible repeat (fail)); exact HO_19.1) hb); replace BK971 := Sd.mk (kB (g := gb971) (o := .cells #[.int .i64 a0_0, .int .i64 a0_1, .slice A0_2 l0_2.length c0_2, .slice A0_3 l0_3.length c0_3] 25 (0, 0)) (by (with_reducible repeat (fail)); exact BK971.1) hb); replace BK972 := Sd.mk (kB (g := gb972) (o := .cells #[.int .i64 a3_0, .int .i64 a3_1] 85 (0, 0)) (by (with_reducible repeat (fail)); exact BK972.1) hb); replace HB := Sd.mk (bT (by repeat (first | (with_reducible first | exact HB.1 ) )) hb); (try clear hb)))
                  go_ret
                  exact ⟨by first | rfl , by repeat (first | (with_reducible first | exact HB.1 ) )⟩
           ·rw [if_neg c134] at H
            have c134b0 : (t1020 == 0) = false := beq_eq_false_iff_ne.mpr c134
            have c134b1 : (t1020 != 0) = true := bne_iff_ne.mpr c134
            by_cases c148 : t1020 = 11
            ·rw [if_pos c148] at H
             have c148b0 : (t1020 == 11) = true := beq_iff_eq.mpr c148
             have c148b1 : (t1020 != 11) = false := bne_eq_false_iff_eq.mpr c148
             clear c148
             by_cases c149 : t1019 = 0
             ·as_aux_lemma =>
              rw [if_pos c149] at H
              have c149b0 : (t1019 == 0) = true := beq_iff_eq.mpr c149
              have c149b1 : (t1019 != 0) = false := bne_eq_false_iff_eq.mpr c149
              clear c149
              by_cases c150 : (t1053.length : Int) = 0
              ·rw [if_pos c150] at H
               have c150b0 : ((t1053.length : Int) == 0) = true := beq_iff_eq.mpr c150
               have c150b1 : ((t1053.length : Int) != 0) = false := bne_eq_false_iff_eq.mpr c150
               clear c150
               obtain ⟨t1085, A1510, H⟩ := Option.bind_eq_some_iff.mp H
               have A151 := Sd.mk A1510
               clear A1510
               obtain rfl := Option.some.inj H
               obtain ⟨Ao152, co152, eo152⟩ := Kd.V_slice HO_19.1
               subst eo152
               go_wp2_with (first | (go_at_call 17; (with_reducible refine (glisterlaw04_awake.calls  t1085 _ A151.1).mono ?_); rintro e w153 ⟨rfl, hb⟩; replace HO_17 := Sd.mk (Kd.V_below (by (with_reducible repeat (fail)); exact HO_17.1) hb); replace HO_19 := Sd.mk (Kd.V_below (by (with_reducible repeat (fail)); exact HO_19.1) hb); replace BK971 := Sd.mk (kB (g := gb971) (o := .cells #[.int .i64 a0_0, .int .i64 a0_1, .slice A0_2 l0_2.length c0_2, .slice A0_3 l0_3.length c0_3] 25 (0, 0)) (by (with_reducible repeat (fail)); exact BK971.1) hb); replace BK972 := Sd.mk (kB (g := gb972) (o := .cells #[.int .i64 a3_0, .int .i64 a3_1] 85 (0, 0)) (by (with_reducible repeat (fail)); exact BK972.1) hb); replace HB := Sd.mk (bT (by repeat (first | (with_reducible first | exact HB.1 ) )) hb); (try clear hb)))
               go_ret
               exact ⟨by first | rfl , by repeat (first | (with_reducible first | exact HB.1 ) )⟩
              ·rw [if_neg c150] at H
               exact absurd H (by simp)
             ·rw [if_neg c149] at H
              exact absurd H (by simp)
            ·rw [if_neg c148] at H
             exact absurd H (by simp)
      ·as_aux_lemma =>
       rw [if_neg c27] at H
       have c27b0 : (t987 == 0) = false := beq_eq_false_iff_ne.mpr c27
       have c27b1 : (t987 != 0) = true := bne_iff_ne.mpr c27
       obtain ⟨t988, A1540, H⟩ := Option.bind_eq_some_iff.mp H
       have A154 := Sd.mk A1540
       clear A1540
       obtain rfl := Option.some.inj H
       try go_wp2
       have n0_ := Sd.mk (kD BK971.1)
       have n1_ := Sd.mk (kD BK972.1)
       have n2_ := Sd.mk (bD HB.1)
       clear BK971
       clear BK972
       clear HB
       have BK971 := n0_
       have BK972 := n1_
       have HB := n2_
       clear n0_ n1_ n2_
       refine start_ (n := 7) (S := fun w' => w'.cell? ⟨gb972, 0, none⟩ = some (.int .i64 a3_0) ∧ w'.cell? ⟨gb972, 1, none⟩ = some (.int .i64 a3_1)) (ds := []) #[false, false, false, false, false, false, false] (by kernel_rfl) rfl rfl ⟨(kC BK972.1 0).trans rfl, (kC BK972.1 1).trans rfl⟩ (fun hHeld => ?_)
       generalize wc.drew = w155 at BK971 BK972 HB hHeld ⊢
       refine pure_ (i := 1) (N := some 42) (v := ?_) (a' := ?_) #[false, true, false, false, false, false, false] rfl rfl (by kernel_rfl) (fun _ _ _ h => h) (Or.inl ⟨by rfl, ?_⟩) ?_ ?_
       rotate_left
       ·intro w'
        go_simp
        with_reducible rfl
       rotate_left
       ·simp only [Act.put, List.setIfInBounds_toArray, List.set_cons_zero, List.set_cons_succ, i64_w, i32_w]
        rfl
       refine take_ (i := 3) (N := some 44) (v := ?_) (a' := ?_) #[false, true, false, true, false, false, false] rfl rfl (by kernel_rfl) (fun _ _ _ h => h) (Or.inl ⟨by rfl, ?_⟩) hHeld ?_ ?_
       rotate_left
       ·rintro w' ⟨s0, s1⟩
        go_simp
        with_reducible rfl
       rotate_left
       ·simp only [Act.put, List.setIfInBounds_toArray, List.set_cons_zero, List.set_cons_succ, i64_w, i32_w]
        rfl
       refine join_ (σ := Value × Value × Value) 2 #[true, true, true, true, true, false, false] (fun s_ => [(41, s_.1), (43, s_.2.1), (45, s_.2.2)]) (fun s_ w' => (w'.cell? ⟨gb972, 0, none⟩ = some (.int .i64 a3_0) ∧ w'.cell? ⟨gb972, 1, none⟩ = some (.int .i64 a3_1)) ∧ (Kd.R k85 85 w' w.heap.size (fun k_ => some k_ ≠ (s_.2.2 : Value).ownBlock ∧ k_ ≠ gb972) s_.2.1 y978) ∧ (Kd.R k85 85 w' w.heap.size (fun k_ => some k_ ≠ (s_.2.1 : Value).ownBlock ∧ k_ ≠ gb972) s_.2.2 y981) ∧ (w'.heap[gb971]? = some (.cells #[.int .i64 a0_0, .int .i64 a0_1, .slice A0_2 l0_2.length c0_2, .slice A0_3 l0_3.length c0_3] 25 (0, 0))) ∧ (w'.heap[gb972]? = some (.cells #[.int .i64 a3_0, .int .i64 a3_1] 85 (0, 0))) ∧ (Below w.heap.size w w')) ?_ ?_
       rotate_left
       ·intro hCont
        refine two_ (i := 0) (j := 4) (Ni := some 41) (Nj := some 45) #[true, true, false, true, false, false, false] #[false, true, false, true, true, false, false] rfl rfl rfl rfl (by kernel_rfl) (by decide) (by decide) (fun K hK => ?_) (fun K hK => ?_)
        ·skip
         refine Kd.R_lit_step k85 _ 85 ?hg (N := 41) ?hd (xs := ([] : List (S85))) (inner := []) (ok := fun _ => True) (okp := fun _ => True) ?hr ?hp (fun _ hk => hk) trivial (Below.refl _ _) (Nat.le_refl _) (by simp) ?_; (case hd => rfl); (case hg => rfl); (case hr => first | (go_simp; done) ); (case hp => exact (Reps.none _ _))
         intro v976 w156 ho157 hb hg_ hnew_
         clear hg_ hnew_
         (rw [← Ny975.1] at ho157 )
         have n0_ := Sd.mk (Kd.R_lower (Kd.R_newB ho157 (g := gb972) (o := .cells #[.int .i64 a3_0, .int .i64 a3_1] 85 (0, 0)) (by (with_reducible repeat (fail)); exact BK972.1)) (bZ (by repeat (first | (with_reducible first | exact HB.1 ) ))))
         have n1_ := Sd.mk (kB (g := gb971) (o := .cells #[.int .i64 a0_0, .int .i64 a0_1, .slice A0_2 l0_2.length c0_2, .slice A0_3 l0_3.length c0_3] 25 (0, 0)) (by (with_reducible repeat (fail)); exact BK971.1) hb)
         have n2_ := Sd.mk (kB (g := gb972) (o := .cells #[.int .i64 a3_0, .int .i64 a3_1] 85 (0, 0)) (by (with_reducible repeat (fail)); exact BK972.1) hb)
         have n3_ := Sd.mk (bT (by repeat (first | (with_reducible first | exact HB.1 ) )) hb)
         clear BK971
         clear BK972
         clear HB
         have HO977 := n0_
         have BK971 := n1_
         have BK972 := n2_
         have HB := n3_
         clear n0_ n1_ n2_ n3_
         clear hb ho157
         refine hK.out _ _ ⟨(kC BK972.1 0).trans rfl, (kC BK972.1 1).trans rfl⟩ (fun hHeld => ?_)
         clear hK K
         refine norm_ (a' := ?_) ?_ ?_
         rotate_left
         ·show Act.put _ (some 41) _ = _
          simp only [Act.put, List.setIfInBounds_toArray, List.set_cons_zero, List.set_cons_succ, i64_w, i32_w]
          rfl
         refine two_ (i := 2) (j := 4) (Ni := some 43) (Nj := some 45) #[true, true, true, true, false, false, false] #[true, true, false, true, true, false, false] rfl rfl rfl rfl (by kernel_rfl) (by decide) (by decide) (fun K hK => ?_) (fun K hK => ?_)
         ·skip
          refine Kd.R_append_rows_step k85 (w0 := w) w.heap.size (by rfl) (.tmp 41) (.tmp 42) 68 85 (.agg #[(.int .i64 0), (.int .i64 0)]) 16 rfl Try.underlying68 info85 rfl (by decide) (by omega) v976 y975 l2 _ _ _ (fun k_ => k_ ≠ gb972) (fun _ => False) rfl rfl ?aO ?aR (fun _ _ h => h) (fun _ h => h.elim) ?aF ?aB ?aS ?aL ?_
          (case aR => repeat (first | exact (Kd.C_below HR2.1 HB.1) ))
          (case aB => exact (by repeat (first | (with_reducible first | exact HB.1 ) )))
          (case aF => exact (fun k_ hk => Kd.freshB (g := gb972) (o := .cells #[.int .i64 a3_0, .int .i64 a3_1] 85 (0, 0)) (by (with_reducible repeat (fail)); exact BK972.1) k_ hk))
          (case aO => exact (by (with_reducible repeat (fail)); exact Kd.R_mono HO977.1 (fun _ hk => hk.2)))
          (case aS => exact (bZ (by repeat (first | (with_reducible first | exact HB.1 ) ))))
          (case aL => have := LMc24.1; omega)
          intro v979 w158 ho hb hg hat
          rw [← Ny978.1] at ho
          have n0_ := Sd.mk (blk_grown (g := gb971) (o := .cells #[.int .i64 a0_0, .int .i64 a0_1, .slice A0_2 l0_2.length c0_2, .slice A0_3 l0_3.length c0_3] 25 (0, 0)) (by (with_reducible repeat (fail)); exact BK971.1) hg (Kd.R_ne HO977.1 BK971.1 (by decide)))
          have n1_ := Sd.mk (blk_grown (g := gb972) (o := .cells #[.int .i64 a3_0, .int .i64 a3_1] 85 (0, 0)) (by (with_reducible repeat (fail)); exact BK972.1) hg (Kd.R_away HO977.1 (fun _ hk => hk.2)))
          have n2_ := Sd.mk (hb)
          have n3_ := Sd.mk (ho)
          clear BK971
          clear BK972
          clear HB
          clear HO977
          have BK971 := n0_
          have BK972 := n1_
          have HB := n2_
          have HO980 := n3_
          clear n0_ n1_ n2_ n3_
          clear ho hb hg hat
          refine hK.out _ _ ⟨(kC BK972.1 0).trans rfl, (kC BK972.1 1).trans rfl⟩ (fun hHeld => ?_)
          clear hK K
          refine norm_ (a' := ?_) ?_ ?_
          rotate_left
          ·show Act.put _ (some 43) _ = _
           simp only [Act.put, List.setIfInBounds_toArray, List.set_cons_zero, List.set_cons_succ, i64_w, i32_w]
           rfl
          refine one_ (i := 4) (N := some 45) #[true, true, true, true, true, false, false] rfl rfl (by kernel_rfl) (by decide) (fun K hK => ?_)
          refine Kd.R_lit_step k85 _ 85 ?hg (N := 45) ?hd (xs := ([(⟨a3_0, a3_1⟩ : S85)] : List (S85))) (inner := [.int .i64 a3_0, .int .i64 a3_1]) (ok := fun _ => True) (okp := fun _ => True) ?hr ?hp (fun _ hk => hk) trivial (Below.refl _ _) (Nat.le_refl _) (by simp) ?_; (case hd => rfl); (case hg => rfl); (case hr => first | (go_simp; done) ); (case hp => exact (Reps.c2 (show Kd.M k85 _ _ _ (⟨a3_0, a3_1⟩ : S85) [.int .i64 a3_0, .int .i64 a3_1] from (k85_mkM _ _ _ (⟨a3_0, a3_1⟩ : S85) )) (Reps.none _ _)))
          intro v982 w159 ho160 hb hg_ hnew_
          clear hg_ hnew_
          (rw [← Ny981.1] at ho160 )
          have n0_ := Sd.mk (Kd.R_elder' (by (with_reducible repeat (fail)); exact HO980.1) (Kd.R_base ho160) hb)
          have n1_ := Sd.mk (Kd.R_lower (Kd.R_newB (Kd.R_new' ho160 (Kd.R_lt (by (with_reducible repeat (fail)); exact HO980.1))) (g := gb972) (o := .cells #[.int .i64 a3_0, .int .i64 a3_1] 85 (0, 0)) (by (with_reducible repeat (fail)); exact BK972.1)) (bZ (by repeat (first | (with_reducible first | exact HB.1 ) ))))
          have n2_ := Sd.mk (kB (g := gb971) (o := .cells #[.int .i64 a0_0, .int .i64 a0_1, .slice A0_2 l0_2.length c0_2, .slice A0_3 l0_3.length c0_3] 25 (0, 0)) (by (with_reducible repeat (fail)); exact BK971.1) hb)
          have n3_ := Sd.mk (kB (g := gb972) (o := .cells #[.int .i64 a3_0, .int .i64 a3_1] 85 (0, 0)) (by (with_reducible repeat (fail)); exact BK972.1) hb)
          have n4_ := Sd.mk (bT (by repeat (first | (with_reducible first | exact HB.1 ) )) hb)
          clear HO980
          clear BK971
          clear BK972
          clear HB
          have HO980 := n0_
          have HO983 := n1_
          have BK971 := n2_
          have BK972 := n3_
          have HB := n4_
          clear n0_ n1_ n2_ n3_ n4_
          clear hb ho160
          refine hK.out _ _ ⟨(kC BK972.1 0).trans rfl, (kC BK972.1 1).trans rfl⟩ (fun hHeld => ?_)
          clear hK K
          refine norm_ (a' := ?_) ?_ ?_
          rotate_left
          ·show Act.put _ (some 45) _ = _
           simp only [Act.put, List.setIfInBounds_toArray, List.set_cons_zero, List.set_cons_succ, i64_w, i32_w]
           rfl
          exact norm_ (by simp only [Go.Proofs.YtnidgkmopocdkaaW.PrintLast.putAll, Act.put, List.setIfInBounds_toArray, List.set_cons_zero, List.set_cons_succ]) (hCont (v976, v979, v982) _ ⟨hHeld, (by (with_reducible repeat (fail)); exact Kd.R_mono HO980.1 (fun _ hk => ⟨hk.2, hk.1⟩)), (by (with_reducible repeat (fail)); exact Kd.R_mono HO983.1 (fun _ hk => ⟨hk.1.2, hk.2⟩)), (by (with_reducible repeat (fail)); exact BK971.1), (by (with_reducible repeat (fail)); exact BK972.1), (by repeat (first | (with_reducible first | exact HB.1 ) ))⟩)
         ·skip
          refine Kd.R_lit_step k85 _ 85 ?hg (N := 45) ?hd (xs := ([(⟨a3_0, a3_1⟩ : S85)] : List (S85))) (inner := [.int .i64 a3_0, .int .i64 a3_1]) (ok := fun _ => True) (okp := fun _ => True) ?hr ?hp (fun _ hk => hk) trivial (Below.refl _ _) (Nat.le_refl _) (by simp) ?_; (case hd => rfl); (case hg => rfl); (case hr => first | (go_simp; done) ); (case hp => exact (Reps.c2 (show Kd.M k85 _ _ _ (⟨a3_0, a3_1⟩ : S85) [.int .i64 a3_0, .int .i64 a3_1] from (k85_mkM _ _ _ (⟨a3_0, a3_1⟩ : S85) )) (Reps.none _ _)))
          intro v982 w158 ho159 hb hg_ hnew_
          clear hg_ hnew_
          (rw [← Ny981.1] at ho159 )
          have n0_ := Sd.mk (Kd.R_elder' (by (with_reducible repeat (fail)); exact HO977.1) (Kd.R_base ho159) hb)
          have n1_ := Sd.mk (Kd.R_lower (Kd.R_newB (Kd.R_new' ho159 (Kd.R_lt (by (with_reducible repeat (fail)); exact HO977.1))) (g := gb972) (o := .cells #[.int .i64 a3_0, .int .i64 a3_1] 85 (0, 0)) (by (with_reducible repeat (fail)); exact BK972.1)) (bZ (by repeat (first | (with_reducible first | exact HB.1 ) ))))
          have n2_ := Sd.mk (kB (g := gb971) (o := .cells #[.int .i64 a0_0, .int .i64 a0_1, .slice A0_2 l0_2.length c0_2, .slice A0_3 l0_3.length c0_3] 25 (0, 0)) (by (with_reducible repeat (fail)); exact BK971.1) hb)
          have n3_ := Sd.mk (kB (g := gb972) (o := .cells #[.int .i64 a3_0, .int .i64 a3_1] 85 (0, 0)) (by (with_reducible repeat (fail)); exact BK972.1) hb)
          have n4_ := Sd.mk (bT (by repeat (first | (with_reducible first | exact HB.1 ) )) hb)
          clear HO977
          clear BK971
          clear BK972
          clear HB
          have HO977 := n0_
          have HO983 := n1_
          have BK971 := n2_
          have BK972 := n3_
          have HB := n4_
          clear n0_ n1_ n2_ n3_ n4_
          clear hb ho159
          refine hK.out _ _ ⟨(kC BK972.1 0).trans rfl, (kC BK972.1 1).trans rfl⟩ (fun hHeld => ?_)
          clear hK K
          refine norm_ (a' := ?_) ?_ ?_
          rotate_left
          ·show Act.put _ (some 45) _ = _
           simp only [Act.put, List.setIfInBounds_toArray, List.set_cons_zero, List.set_cons_succ, i64_w, i32_w]
           rfl
          refine one_ (i := 2) (N := some 43) #[true, true, true, true, true, false, false] rfl rfl (by kernel_rfl) (by decide) (fun K hK => ?_)
          refine Kd.R_append_rows_step k85 (w0 := w) w.heap.size (by rfl) (.tmp 41) (.tmp 42) 68 85 (.agg #[(.int .i64 0), (.int .i64 0)]) 16 rfl Try.underlying68 info85 rfl (by decide) (by omega) v976 y975 l2 _ _ _ (fun k_ => some k_ ≠ (v982 : Value).ownBlock ∧ k_ ≠ gb972) (fun _ => False) rfl rfl ?aO ?aR (fun _ _ h => h) (fun _ h => h.elim) ?aF ?aB ?aS ?aL ?_
          (case aR => repeat (first | exact (Kd.C_below HR2.1 HB.1) ))
          (case aB => exact (by repeat (first | (with_reducible first | exact HB.1 ) )))
          (case aF => exact (fun k_ hk => ⟨Kd.fresh' (Kd.R_lt (by (with_reducible repeat (fail)); exact HO983.1)) k_ hk, Kd.freshB (g := gb972) (o := .cells #[.int .i64 a3_0, .int .i64 a3_1] 85 (0, 0)) (by (with_reducible repeat (fail)); exact BK972.1) k_ hk⟩))
          (case aO => exact (by (with_reducible repeat (fail)); exact Kd.R_mono HO977.1 (fun _ hk => ⟨hk.2, hk.1.2⟩)))
          (case aS => exact (bZ (by repeat (first | (with_reducible first | exact HB.1 ) ))))
          (case aL => have := LMc24.1; omega)
          intro v979 w160 ho hb hg hat
          rw [← Ny978.1] at ho
          have n0_ := Sd.mk (blk_grown (g := gb971) (o := .cells #[.int .i64 a0_0, .int .i64 a0_1, .slice A0_2 l0_2.length c0_2, .slice A0_3 l0_3.length c0_3] 25 (0, 0)) (by (with_reducible repeat (fail)); exact BK971.1) hg (Kd.R_ne HO977.1 BK971.1 (by decide)))
          have n1_ := Sd.mk (blk_grown (g := gb972) (o := .cells #[.int .i64 a3_0, .int .i64 a3_1] 85 (0, 0)) (by (with_reducible repeat (fail)); exact BK972.1) hg (Kd.R_away HO977.1 (fun _ hk => hk.1.2)))
          have n2_ := Sd.mk (Kd.R_after (ok := (fun k_ => k_ ≠ gb972)) (by (with_reducible repeat (fail)); exact Kd.R_mono HO983.1 (fun _ hk => ⟨hk.2, hk.1.2⟩)) hg hat)
          have n3_ := Sd.mk (hb)
          have n4_ := Sd.mk (ho)
          clear BK971
          clear BK972
          clear HO983
          clear HB
          clear HO977
          have BK971 := n0_
          have BK972 := n1_
          have HO983 := n2_
          have HB := n3_
          have HO980 := n4_
          clear n0_ n1_ n2_ n3_ n4_
          clear ho hb hg hat
          refine hK.out _ _ ⟨(kC BK972.1 0).trans rfl, (kC BK972.1 1).trans rfl⟩ (fun hHeld => ?_)
          clear hK K
          refine norm_ (a' := ?_) ?_ ?_
          rotate_left
          ·show Act.put _ (some 43) _ = _
           simp only [Act.put, List.setIfInBounds_toArray, List.set_cons_zero, List.set_cons_succ, i64_w, i32_w]
           rfl
          exact norm_ (by simp only [Go.Proofs.YtnidgkmopocdkaaW.PrintLast.putAll, Act.put, List.setIfInBounds_toArray, List.set_cons_zero, List.set_cons_succ]) (hCont (v976, v979, v982) _ ⟨hHeld, (by (with_reducible repeat (fail)); exact HO980.1), (by (with_reducible repeat (fail)); exact Kd.R_mono HO983.1 (fun _ hk => ⟨hk.2, hk.1⟩)), (by (with_reducible repeat (fail)); exact BK971.1), (by (with_reducible repeat (fail)); exact BK972.1), (by repeat (first | (with_reducible first | exact HB.1 ) ))⟩)
        ·skip
         refine Kd.R_lit_step k85 _ 85 ?hg (N := 45) ?hd (xs := ([(⟨a3_0, a3_1⟩ : S85)] : List (S85))) (inner := [.int .i64 a3_0, .int .i64 a3_1]) (ok := fun _ => True) (okp := fun _ => True) ?hr ?hp (fun _ hk => hk) trivial (Below.refl _ _) (Nat.le_refl _) (by simp) ?_; (case hd => rfl); (case hg => rfl); (case hr => first | (go_simp; done) ); (case hp => exact (Reps.c2 (show Kd.M k85 _ _ _ (⟨a3_0, a3_1⟩ : S85) [.int .i64 a3_0, .int .i64 a3_1] from (k85_mkM _ _ _ (⟨a3_0, a3_1⟩ : S85) )) (Reps.none _ _)))
         intro v982 w156 ho157 hb hg_ hnew_
         clear hg_ hnew_
         (rw [← Ny981.1] at ho157 )
         have n0_ := Sd.mk (Kd.R_lower (Kd.R_newB ho157 (g := gb972) (o := .cells #[.int .i64 a3_0, .int .i64 a3_1] 85 (0, 0)) (by (with_reducible repeat (fail)); exact BK972.1)) (bZ (by repeat (first | (with_reducible first | exact HB.1 ) ))))
         have n1_ := Sd.mk (kB (g := gb971) (o := .cells #[.int .i64 a0_0, .int .i64 a0_1, .slice A0_2 l0_2.length c0_2, .slice A0_3 l0_3.length c0_3] 25 (0, 0)) (by (with_reducible repeat (fail)); exact BK971.1) hb)
         have n2_ := Sd.mk (kB (g := gb972) (o := .cells #[.int .i64 a3_0, .int .i64 a3_1] 85 (0, 0)) (by (with_reducible repeat (fail)); exact BK972.1) hb)
         have n3_ := Sd.mk (bT (by repeat (first | (with_reducible first | exact HB.1 ) )) hb)
         clear BK971
         clear BK972
         clear HB
         have HO983 := n0_
         have BK971 := n1_
         have BK972 := n2_
         have HB := n3_
         clear n0_ n1_ n2_ n3_
         clear hb ho157
         refine hK.out _ _ ⟨(kC BK972.1 0).trans rfl, (kC BK972.1 1).trans rfl⟩ (fun hHeld => ?_)
         clear hK K
         refine norm_ (a' := ?_) ?_ ?_
         rotate_left
         ·show Act.put _ (some 45) _ = _
          simp only [Act.put, List.setIfInBounds_toArray, List.set_cons_zero, List.set_cons_succ, i64_w, i32_w]
          rfl
         refine one_ (i := 0) (N := some 41) #[true, true, false, true, true, false, false] rfl rfl (by kernel_rfl) (by decide) (fun K hK => ?_)
         refine Kd.R_lit_step k85 _ 85 ?hg (N := 41) ?hd (xs := ([] : List (S85))) (inner := []) (ok := fun _ => True) (okp := fun _ => True) ?hr ?hp (fun _ hk => hk) trivial (Below.refl _ _) (Nat.le_refl _) (by simp) ?_; (case hd => rfl); (case hg => rfl); (case hr => first | (go_simp; done) ); (case hp => exact (Reps.none _ _))
         intro v976 w158 ho159 hb hg_ hnew_
         clear hg_ hnew_
         (rw [← Ny975.1] at ho159 )
         have n0_ := Sd.mk (Kd.R_elder' (by (with_reducible repeat (fail)); exact HO983.1) (Kd.R_base ho159) hb)
         have n1_ := Sd.mk (Kd.R_lower (Kd.R_newB (Kd.R_new' ho159 (Kd.R_lt (by (with_reducible repeat (fail)); exact HO983.1))) (g := gb972) (o := .cells #[.int .i64 a3_0, .int .i64 a3_1] 85 (0, 0)) (by (with_reducible repeat (fail)); exact BK972.1)) (bZ (by repeat (first | (with_reducible first | exact HB.1 ) ))))
         have n2_ := Sd.mk (kB (g := gb971) (o := .cells #[.int .i64 a0_0, .int .i64 a0_1, .slice A0_2 l0_2.length c0_2, .slice A0_3 l0_3.length c0_3] 25 (0, 0)) (by (with_reducible repeat (fail)); exact BK971.1) hb)
         have n3_ := Sd.mk (kB (g := gb972) (o := .cells #[.int .i64 a3_0, .int .i64 a3_1] 85 (0, 0)) (by (with_reducible repeat (fail)); exact BK972.1) hb)
         have n4_ := Sd.mk (bT (by repeat (first | (with_reducible first | exact HB.1 ) )) hb)
         clear HO983
         clear BK971
         clear BK972
         clear HB
         have HO983 := n0_
         have HO977 := n1_
         have BK971 := n2_
         have BK972 := n3_
         have HB := n4_
         clear n0_ n1_ n2_ n3_ n4_
         clear hb ho159
         refine hK.out _ _ ⟨(kC BK972.1 0).trans rfl, (kC BK972.1 1).trans rfl⟩ (fun hHeld => ?_)
         clear hK K
         refine norm_ (a' := ?_) ?_ ?_
         rotate_left
         ·show Act.put _ (some 41) _ = _
          simp only [Act.put, List.setIfInBounds_toArray, List.set_cons_zero, List.set_cons_succ, i64_w, i32_w]
          rfl
         refine one_ (i := 2) (N := some 43) #[true, true, true, true, true, false, false] rfl rfl (by kernel_rfl) (by decide) (fun K hK => ?_)
         refine Kd.R_append_rows_step k85 (w0 := w) w.heap.size (by rfl) (.tmp 41) (.tmp 42) 68 85 (.agg #[(.int .i64 0), (.int .i64 0)]) 16 rfl Try.underlying68 info85 rfl (by decide) (by omega) v976 y975 l2 _ _ _ (fun k_ => some k_ ≠ (v982 : Value).ownBlock ∧ k_ ≠ gb972) (fun _ => False) rfl rfl ?aO ?aR (fun _ _ h => h) (fun _ h => h.elim) ?aF ?aB ?aS ?aL ?_
         (case aR => repeat (first | exact (Kd.C_below HR2.1 HB.1) ))
         (case aB => exact (by repeat (first | (with_reducible first | exact HB.1 ) )))
         (case aF => exact (fun k_ hk => ⟨Kd.fresh' (Kd.R_lt (by (with_reducible repeat (fail)); exact HO983.1)) k_ hk, Kd.freshB (g := gb972) (o := .cells #[.int .i64 a3_0, .int .i64 a3_1] 85 (0, 0)) (by (with_reducible repeat (fail)); exact BK972.1) k_ hk⟩))
         (case aO => exact (by (with_reducible repeat (fail)); exact Kd.R_mono HO977.1 (fun _ hk => ⟨hk.1.2, hk.2⟩)))
         (case aS => exact (bZ (by repeat (first | (with_reducible first | exact HB.1 ) ))))
         (case aL => have := LMc24.1; omega)
         intro v979 w160 ho hb hg hat
         rw [← Ny978.1] at ho
         have n0_ := Sd.mk (blk_grown (g := gb971) (o := .cells #[.int .i64 a0_0, .int .i64 a0_1, .slice A0_2 l0_2.length c0_2, .slice A0_3 l0_3.length c0_3] 25 (0, 0)) (by (with_reducible repeat (fail)); exact BK971.1) hg (Kd.R_ne HO977.1 BK971.1 (by decide)))
         have n1_ := Sd.mk (blk_grown (g := gb972) (o := .cells #[.int .i64 a3_0, .int .i64 a3_1] 85 (0, 0)) (by (with_reducible repeat (fail)); exact BK972.1) hg (Kd.R_away HO977.1 (fun _ hk => hk.2)))
         have n2_ := Sd.mk (Kd.R_after (ok := (fun k_ => k_ ≠ gb972)) (by (with_reducible repeat (fail)); exact Kd.R_mono HO983.1 (fun _ hk => ⟨hk.1.2, hk.2⟩)) hg hat)
         have n3_ := Sd.mk (hb)
         have n4_ := Sd.mk (ho)
         clear BK971
         clear BK972
         clear HO983
         clear HB
         clear HO977
         have BK971 := n0_
         have BK972 := n1_
         have HO983 := n2_
         have HB := n3_
         have HO980 := n4_
         clear n0_ n1_ n2_ n3_ n4_
         clear ho hb hg hat
         refine hK.out _ _ ⟨(kC BK972.1 0).trans rfl, (kC BK972.1 1).trans rfl⟩ (fun hHeld => ?_)
         clear hK K
         refine norm_ (a' := ?_) ?_ ?_
         rotate_left
         ·show Act.put _ (some 43) _ = _
          simp only [Act.put, List.setIfInBounds_toArray, List.set_cons_zero, List.set_cons_succ, i64_w, i32_w]
          rfl
         exact norm_ (by simp only [Go.Proofs.YtnidgkmopocdkaaW.PrintLast.putAll, Act.put, List.setIfInBounds_toArray, List.set_cons_zero, List.set_cons_succ]) (hCont (v976, v979, v982) _ ⟨hHeld, (by (with_reducible repeat (fail)); exact HO980.1), (by (with_reducible repeat (fail)); exact Kd.R_mono HO983.1 (fun _ hk => ⟨hk.2, hk.1⟩)), (by (with_reducible repeat (fail)); exact BK971.1), (by (with_reducible repeat (fail)); exact BK972.1), (by repeat (first | (with_reducible first | exact HB.1 ) ))⟩)
       rintro ⟨v976, v979, v982⟩ w161 ⟨hS_, h0_, h1_, h2_, h3_, h4_⟩
       have n0_ : Sd (Kd.R k85 85 w161 w.heap.size (fun k_ => some k_ ≠ (v982 : Value).ownBlock ∧ k_ ≠ gb972) v979 y978) := ⟨h0_⟩
       have n1_ : Sd (Kd.R k85 85 w161 w.heap.size (fun k_ => some k_ ≠ (v979 : Value).ownBlock ∧ k_ ≠ gb972) v982 y981) := ⟨h1_⟩
       have n2_ : Sd (w161.heap[gb971]? = some (.cells #[.int .i64 a0_0, .int .i64 a0_1, .slice A0_2 l0_2.length c0_2, .slice A0_3 l0_3.length c0_3] 25 (0, 0))) := ⟨h2_⟩
       have n3_ : Sd (w161.heap[gb972]? = some (.cells #[.int .i64 a3_0, .int .i64 a3_1] 85 (0, 0))) := ⟨h3_⟩
       have n4_ : Sd (Below w.heap.size w w161) := ⟨h4_⟩
       clear BK971
       clear BK972
       clear HB
       clear h0_ h1_ h2_ h3_ h4_
       have HO980 := n0_
       have HO983 := n1_
       have BK971 := n2_
       have BK972 := n3_
       have HB := n4_
       clear n0_ n1_ n2_ n3_ n4_
       have hHeld : w161.cell? ⟨gb972, 0, none⟩ = some (.int .i64 a3_0) ∧ w161.cell? ⟨gb972, 1, none⟩ = some (.int .i64 a3_1) := hS_
       obtain ⟨Ao163, co163, eo163⟩ := Kd.R_slice HO983.1
       (subst eo163 )
       refine norm_ (a' := ?_) ?_ ?_
       rotate_left
       ·simp only [Go.Proofs.YtnidgkmopocdkaaW.PrintLast.putAll, Act.put, List.setIfInBounds_toArray, List.set_cons_zero, List.set_cons_succ]
        rfl
       refine one_ (i := 5) (N := some 46) #[true, true, true, true, true, true, false] rfl rfl (by kernel_rfl) (by decide) (fun K hK => ?_)
       refine Kd.R_append_rows_step k85 (w0 := w) w.heap.size (by rfl) (.tmp 43) (.tmp 45) 68 85 (.agg #[(.int .i64 0), (.int .i64 0)]) 16 rfl Try.underlying68 info85 rfl (by decide) (by omega) v979 y978 y981 _ _ _ (fun k_ => some k_ ≠ (.slice Ao163 y981.length co163 : Value).ownBlock ∧ k_ ≠ gb972) (fun _ => False) rfl rfl ?aO ?aR (fun _ _ h => h) (fun _ h => h.elim) ?aF ?aB ?aS ?aL ?_
       (case aR => repeat (first | exact (Kd.R_reads' HO983.1).2.2 ))
       (case aB => exact (by repeat (first | (with_reducible first | exact HB.1 ) )))
       (case aF => exact (fun k_ hk => ⟨Kd.fresh' (Kd.R_lt (by (with_reducible repeat (fail)); exact HO983.1)) k_ hk, Kd.freshB (g := gb972) (o := .cells #[.int .i64 a3_0, .int .i64 a3_1] 85 (0, 0)) (by (with_reducible repeat (fail)); exact BK972.1) k_ hk⟩))
       (case aO => exact (by (with_reducible repeat (fail)); exact HO980.1))
       (case aS => exact (bZ (by repeat (first | (with_reducible first | exact HB.1 ) ))))
       (case aL => have := LMc25.1; omega)
       intro v985 w162 ho hb hg hat
       rw [← Ny984.1] at ho
       have n0_ := Sd.mk (blk_grown (g := gb971) (o := .cells #[.int .i64 a0_0, .int .i64 a0_1, .slice A0_2 l0_2.length c0_2, .slice A0_3 l0_3.length c0_3] 25 (0, 0)) (by (with_reducible repeat (fail)); exact BK971.1) hg (Kd.R_ne HO980.1 BK971.1 (by decide)))
       have n1_ := Sd.mk (blk_grown (g := gb972) (o := .cells #[.int .i64 a3_0, .int .i64 a3_1] 85 (0, 0)) (by (with_reducible repeat (fail)); exact BK972.1) hg (Kd.R_away HO980.1 (fun _ hk => hk.2)))
       have n2_ := Sd.mk (Kd.R_after (ok := (fun k_ => k_ ≠ gb972)) (by (with_reducible repeat (fail)); exact Kd.R_mono HO983.1 (fun _ hk => ⟨hk.2, hk.1⟩)) hg hat)
       have n3_ := Sd.mk (hb)
       have n4_ := Sd.mk (ho)
       clear BK971
       clear BK972
       clear HO983
       clear HB
       clear HO980
       have BK971 := n0_
       have BK972 := n1_
       have HO983 := n2_
       have HB := n3_
       have HO986 := n4_
       clear n0_ n1_ n2_ n3_ n4_
       clear ho hb hg hat
       refine hK.out _ _ ⟨(kC BK972.1 0).trans rfl, (kC BK972.1 1).trans rfl⟩ (fun hHeld => ?_)
       clear hK K
       refine norm_ (a' := ?_) ?_ ?_
       rotate_left
       ·show Act.put _ (some 46) _ = _
        simp only [Act.put, List.setIfInBounds_toArray, List.set_cons_zero, List.set_cons_succ, i64_w, i32_w]
        rfl
       refine pure_ (i := 6) (N := some 11) (v := ?_) (a' := ?_) #[true, true, true, true, true, true, true] rfl rfl (by kernel_rfl) (fun _ _ _ h => h) (Or.inl ⟨by rfl, ?_⟩) ?_ ?_
       rotate_left
       ·intro w'
        go_simp
        with_reducible rfl
       rotate_left
       ·simp only [Act.put, List.setIfInBounds_toArray, List.set_cons_zero, List.set_cons_succ, i64_w, i32_w]
        rfl
       refine done_ (by kernel_rfl) ?_
       have hnb164 := NB971_972.1
       have hnc164 := NB972_971.1
       have z_165_0 : w162.cell? ⟨gb971, 0, none⟩ = some (.int .i64 a0_0) := (kC BK971.1 0).trans rfl
       have z_165_1 : w162.cell? ⟨gb971, 1, none⟩ = some (.int .i64 a0_1) := (kC BK971.1 1).trans rfl
       have z_165_2 : w162.cell? ⟨gb971, 2, none⟩ = some (.slice A0_2 l0_2.length c0_2) := (kC BK971.1 2).trans rfl
       have z_165_3 : w162.cell? ⟨gb971, 3, none⟩ = some (.slice A0_3 l0_3.length c0_3) := (kC BK971.1 3).trans rfl
       obtain ⟨Ao166, co166, eo166⟩ := Kd.R_slice HO986.1
       subst eo166
       try go_wp2_with (first | ((with_reducible refine gate_callee (f := 43) rfl ?_); refine goesL_ (some 50) rfl rfl Try.func43 (by kernel_rfl) rfl #[.agg #[.int .i64 a0_0, .int .i64 a0_1, .slice A0_2 l0_2.length c0_2, .slice A0_3 l0_3.length c0_3], .slice A1 l1.length c1, .slice Ao166 y984.length co166] rfl (by (try simp only [List.map_toArray, List.map_cons, List.map_nil]); first | rfl ) ?_; (with_reducible refine (glisterlaw04_asked.calls kj5 a0_0 a0_1 _ _ l0_2 _ _ l0_3 _ _ l1 _ _ y984 t987 _ ?side1 ?side2 ?side3 ?side4 ?side5 ?side6 ?side7 ?side8 A26.1).mono ?_); (case side1 => repeat (first | exact (Kd.C_below HR0_2.1 HB.1) )); (case side2 => exact HC0_2.1); (case side3 => repeat (first | exact (Kd.C_below HR0_3.1 HB.1) )); (case side4 => exact HC0_3.1); (case side5 => repeat (first | exact (Kd.C_below HR1.1 HB.1) )); (case side6 => exact HC1.1); (case side7 => repeat (first | exact (Kd.R_reads' HO986.1).2.2 )); (case side8 => exact (Kd.R_reads' HO986.1).2.1); rintro e w167 ⟨rfl, hb⟩; refine ⟨_, rfl, ?_⟩; replace HO983 := Sd.mk (Kd.R_below (by (with_reducible repeat (fail)); exact HO983.1) hb); replace HO986 := Sd.mk (Kd.R_below (by (with_reducible repeat (fail)); exact HO986.1) hb); replace BK971 := Sd.mk (kB (g := gb971) (o := .cells #[.int .i64 a0_0, .int .i64 a0_1, .slice A0_2 l0_2.length c0_2, .slice A0_3 l0_3.length c0_3] 25 (0, 0)) (by (with_reducible repeat (fail)); exact BK971.1) hb); replace BK972 := Sd.mk (kB (g := gb972) (o := .cells #[.int .i64 a3_0, .int .i64 a3_1] 85 (0, 0)) (by (with_reducible repeat (fail)); exact BK972.1) hb); replace HB := Sd.mk (bT (by repeat (first | (with_reducible first | exact HB.1 ) )) hb); (try clear hb)) | ((with_reducible refine gate_callee (f := 17) rfl ?_); refine goesL_ (some 52) rfl rfl Try.func17 (by kernel_rfl) rfl #[] rfl (by (try simp only [List.map_toArray, List.map_cons, List.map_nil]); first | done ) ?_; (with_reducible refine (glisterlaw04_awake.calls  t988 _ A154.1).mono ?_); rintro e w168 ⟨rfl, hb⟩; refine ⟨_, rfl, ?_⟩; replace HO983 := Sd.mk (Kd.R_below (by (with_reducible repeat (fail)); exact HO983.1) hb); replace HO986 := Sd.mk (Kd.R_below (by (with_reducible repeat (fail)); exact HO986.1) hb); replace BK971 := Sd.mk (kB (g := gb971) (o := .cells #[.int .i64 a0_0, .int .i64 a0_1, .slice A0_2 l0_2.length c0_2, .slice A0_3 l0_3.length c0_3] 25 (0, 0)) (by (with_reducible repeat (fail)); exact BK971.1) hb); replace BK972 := Sd.mk (kB (g := gb972) (o := .cells #[.int .i64 a3_0, .int .i64 a3_1] 85 (0, 0)) (by (with_reducible repeat (fail)); exact BK972.1) hb); replace HB := Sd.mk (bT (by repeat (first | (with_reducible first | exact HB.1 ) )) hb); (try clear hb)))
       go_ret
       exact ⟨by first | rfl , by repeat (first | (with_reducible first | exact HB.1 ) )⟩
     ·rw [if_neg c25] at H
      exact absurd H (by simp)
    ·rw [if_neg c24] at H
     exact absurd H (by simp)
end Go.Proofs.Ytnidgkmopocdkaa.P
