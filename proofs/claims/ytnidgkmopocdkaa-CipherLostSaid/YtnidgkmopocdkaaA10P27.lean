import Derived.Test.YtnidgkmopocdkaaA10P0
import Derived.Test.YtnidgkmopocdkaaA10P4
import Derived.Test.YtnidgkmopocdkaaA10P8
import Derived.Test.YtnidgkmopocdkaaA10P15
import Derived.Test.YtnidgkmopocdkaaA10P17
import Derived.Test.YtnidgkmopocdkaaA10HAwake
import Derived.Test.YtnidgkmopocdkaaA10HPlan
namespace Go.Proofs.Ytnidgkmopocdkaa.P
open Go.RowKit Go.Proofs.YtnidgkmopocdkaaW.PrintWords Go.Proofs.YtnidgkmopocdkaaW.PrintLast Go.Proofs.YtnidgkmopocdkaaW.PrintMore
attribute [local go_sem] max2_int min2_int max_two min_two max_three min_three max_four min_four   -- for this text's walks alone
set_option linter.unusedVariables false
set_option linter.unusedSimpArgs false
mutual
def glisterlaw04_CipherLost.j0 : Nat → List (S58) → Int → Int → List (S58) → Bool → Int → Int → List (S82) → List Int → Option (Bool)
 | 0, _, _, _, _, _, _, _, _, _ => none
 | k + 1, x1, x3, x4, x11, x43, x864000, x864001, x864002, x864003 => if x43 = true then ((glisterlaw04_awake.f).bind fun t879 => (some t879)) else ((glisterlaw04_Book.f k x864000 x864001 x864002 x864003).bind fun bt880 => ((glisterlaw04_Losses.f k x1).bind fun t888 => ((cipher_Plan.f bt880.1 bt880.2.1 bt880.2.2.1 bt880.2.2.2 t888 (Int.tmod (wrap64 (x3)) 9)).bind fun bt891 => ((glisterlaw04_Book.f k x864000 x864001 x864002 x864003).bind fun bt896 => ((glisterlaw04_Losses.f k x11).bind fun t904 => ((cipher_Plan.f bt896.1 bt896.2.1 bt896.2.2.1 bt896.2.2.2 t904 (Int.tmod (wrap64 (x3)) 9)).bind fun bt907 => ((glisterlaw04_Book.f k x864000 x864001 x864002 x864003).bind fun bt912 => ((glisterlaw04_Losses.f k x1).bind fun t920 => ((cipher_Plan.f bt912.1 bt912.2.1 bt912.2.2.1 bt912.2.2.2 t920 (mx 0 (wrap64 ((Int.tmod (wrap64 (x3)) 9) - (Int.tmod (wrap64 (x4)) 3))))).bind fun bt923 => ((glisterlaw04_Book.f k x864000 x864001 x864002 x864003).bind fun bt928 => ((glisterlaw04_Losses.f k x1).bind fun t936 => ((cipher_Exposed.f k bt928.1 bt928.2.1 bt928.2.2.1 bt928.2.2.2 t936).bind fun bt939 => ((glisterlaw04_Book.f k x864000 x864001 x864002 x864003).bind fun bt943 => ((glisterlaw04_Losses.f k x11).bind fun t951 => ((cipher_Exposed.f k bt943.1 bt943.2.1 bt943.2.2.1 bt943.2.2.2 t951).bind fun bt954 => (if bt939.2 = 0 then (if bt954.2 = 0 then (if (bt939.1.length : Int) = (x864003.length : Int) then (glisterlaw04_CipherLost.j1 k bt891.2.1 bt891.2.2 bt907.2.1 bt907.2.2 bt923.2.1 bt923.2.2 bt939.1 bt954.1 ((bt954.1.length : Int) != (bt939.1.length : Int))) else (glisterlaw04_CipherLost.j1 k bt891.2.1 bt891.2.2 bt907.2.1 bt907.2.2 bt923.2.1 bt923.2.2 bt939.1 bt954.1 true)) else (glisterlaw04_CipherLost.j1 k bt891.2.1 bt891.2.2 bt907.2.1 bt907.2.2 bt923.2.1 bt923.2.2 bt939.1 bt954.1 true)) else (glisterlaw04_CipherLost.j1 k bt891.2.1 bt891.2.2 bt907.2.1 bt907.2.2 bt923.2.1 bt923.2.2 bt939.1 bt954.1 true)))))))))))))))))
def glisterlaw04_CipherLost.j1 : Nat → Int → Int → Int → Int → Int → Int → List Int → List Int → Bool → Option (Bool)
 | 0, _, _, _, _, _, _, _, _, _ => none
 | k + 1, x15, x16, x18, x19, x21, x22, x23, x25, x120 => if x120 = true then (none) else (glisterlaw04_CipherLost.l0 k x15 x16 x18 x19 x21 x22 x23 x25 0)
def glisterlaw04_CipherLost.l0 : Nat → Int → Int → Int → Int → Int → Int → List Int → List Int → Int → Option (Bool)
 | 0, _, _, _, _, _, _, _, _, _ => none
 | k + 1, x15, x16, x18, x19, x21, x22, x23, x25, x27 => if x27 < (x23.length : Int) then (if 0 ≤ x27 then (if (rd x23 x27) ≥ 0 then (if x27 < (x25.length : Int) then (if (rd x25 x27) < 0 then (none) else (if (rd x25 x27) > (rd x23 x27) then (none) else (if (rd x25 x27) ≥ 0 then (if (rd x25 x27) < x27 then (none) else (glisterlaw04_CipherLost.l0 k x15 x16 x18 x19 x21 x22 x23 x25 (wrap64 (x27 + 1)))) else (glisterlaw04_CipherLost.l0 k x15 x16 x18 x19 x21 x22 x23 x25 (wrap64 (x27 + 1)))))) else (none)) else (if x27 < (x25.length : Int) then (if (rd x25 x27) ≥ 0 then (if (rd x25 x27) < x27 then (none) else (glisterlaw04_CipherLost.l0 k x15 x16 x18 x19 x21 x22 x23 x25 (wrap64 (x27 + 1)))) else (glisterlaw04_CipherLost.l0 k x15 x16 x18 x19 x21 x22 x23 x25 (wrap64 (x27 + 1)))) else (none))) else (none)) else (if x16 = 0 then (if x19 = 10 then (if x22 = 10 then ((glisterlaw04_awake.f).bind fun t966 => (some t966)) else (if x22 = 0 then (if x21 ≥ x15 then ((glisterlaw04_awake.f).bind fun t967 => (some t967)) else (none)) else (none))) else (if x19 = 0 then (if x18 ≥ x15 then (if x22 = 10 then ((glisterlaw04_awake.f).bind fun t968 => (some t968)) else (if x22 = 0 then (if x21 ≥ x15 then ((glisterlaw04_awake.f).bind fun t969 => (some t969)) else (none)) else (none))) else (none)) else (none))) else (if x16 = 10 then (if x19 = x16 then (if x22 = x16 then ((glisterlaw04_awake.f).bind fun t970 => (some t970)) else (none)) else (none)) else (none)))
end
def glisterlaw04_CipherLost.f (k : Nat) (a0_0 : Int) (a0_1 : Int) (l0_2 : List (S82)) (l0_3 : List Int) (l1 : List (S58)) (a2_0 : Int) (a2_1 : Int) (a3 : Int) (a4 : Int) : Option (Bool) := (some (([] : List (S58)) : List (S58))).bind fun y865 => (if y865.length + l1.length < 8796093022208 then ((some (y865 ++ l1 : List (S58))).bind fun y868 => ((some (([(⟨a2_0, a2_1⟩ : S58)] : List (S58)) : List (S58))).bind fun y871 => (if y868.length + y871.length < 8796093022208 then ((some (y868 ++ y871 : List (S58))).bind fun y874 => ((glisterlaw04_lossed.f k a0_0 a0_1 l0_2 l0_3 l1).bind fun t877 => (if t877 = true then ((glisterlaw04_lossed.f k a0_0 a0_1 l0_2 l0_3 y874).bind fun t878 => (glisterlaw04_CipherLost.j0 k l1 a3 a4 y874 (!t878) a0_0 a0_1 l0_2 l0_3)) else (glisterlaw04_CipherLost.j0 k l1 a3 a4 y874 true a0_0 a0_1 l0_2 l0_3)))) else (none)))) else (none))
def glisterlaw04_CipherLost.T16 : Bool × List (List Nat × List Nat) := (true, [([], []), ([], []), ([0, 1], [0, 1]), ([2], [2]), ([3], [3]), ([4], [4]), ([5], [5]), ([5], [5]), ([6, 7, 5], [5, 6, 7]), ([8, 5], [5, 8]), ([9, 5], [5, 9]), ([10, 5, 5], [5, 10]), ([11], [11]), ([11], [11]), ([12, 13, 11], [11, 12, 13]), ([14, 11], [11, 14]), ([11], [11]), ([11], [11]), ([16, 17, 11], [11, 16, 17]), ([18, 11], [11, 18]), ([15, 19, 11], [11, 15, 19]), ([11, 20, 5], [5, 11, 20]), ([5, 21], [5, 21]), ([22, 11], [22]), ([23], [23]), ([23], [23]), ([24, 25, 23], [23, 24, 25]), ([26, 23], [23, 26]), ([27, 23], [23, 27]), ([28, 23, 23], [23, 28]), ([29], [29]), ([29], [29]), ([30, 31, 29], [29, 30, 31]), ([32, 29], [29, 32]), ([29], [29]), ([33, 34, 29], [29, 33, 34]), ([29, 35, 23], [23, 29, 35]), ([23, 36], [23, 36])])
def glisterlaw04_CipherLost.B16 : List Nat := [0, 0, 3, 7, 15, 31, 63, 63, 255, 511, 1023, 2047, 4095, 4095, 16383, 32767, 4095, 4095, 200703, 462847, 1048575, 2097151, 4194303, 8388607, 16777215, 16777215, 67108863, 134217727, 268435455, 536870911, 1073741823, 1073741823, 4294967295, 8589934591, 1073741823, 34359738367, 68719476735, 137438953471]
theorem glisterlaw04_CipherLost.tab16 : rtab .any (opsOf Try.f9 16) = glisterlaw04_CipherLost.T16 := by kernel_rfl
theorem glisterlaw04_CipherLost.bits16 : waitsOk glisterlaw04_CipherLost.T16.2 glisterlaw04_CipherLost.B16 = true := by kernel_rfl
set_option maxHeartbeats 8000000 in
set_option maxRecDepth 100000 in
theorem glisterlaw04_CipherLost.calls (k : Nat) (a0_0 : Int) (a0_1 : Int) (A0_2 : Option Addr) (c0_2 : Nat) (l0_2 : List (S82)) (A0_3 : Option Addr) (c0_3 : Nat) (l0_3 : List Int) (A1 : Option Addr) (c1 : Nat) (l1 : List (S58)) (a2_0 : Int) (a2_1 : Int) (a3 : Int) (a4 : Int) (r : Bool) (w : World) (hr0_2 : Kd.C k82 w A0_2 l0_2.length l0_2) (hc0_2 : l0_2.length ≤ c0_2) (hr0_3 : Kd.C (Kd.int .i64) w A0_3 l0_3.length l0_3) (hc0_3 : l0_3.length ≤ c0_3) (hr1 : Kd.C k58 w A1 l1.length l1) (hc1 : l1.length ≤ c1) (h : glisterlaw04_CipherLost.f k a0_0 a0_1 l0_2 l0_3 l1 a2_0 a2_1 a3 a4 = some r) :
  Calls Try.prog 9 #[.agg #[.int .i64 a0_0, .int .i64 a0_1, .slice A0_2 l0_2.length c0_2, .slice A0_3 l0_3.length c0_3], .slice A1 l1.length c1, .agg #[.int .i64 a2_0, .int .i64 a2_1], .int .u8 a3, .int .u8 a4] w fun e w' => e = .returned (.bool r) ∧ Below w.heap.size w w' := by
 have hu25 := Try.underlying25
 have hu58 := Try.underlying58
 have HR0_2 := Sd.mk hr0_2
 have HC0_2 := Sd.mk hc0_2
 clear hr0_2 hc0_2
 have HR0_3 := Sd.mk hr0_3
 have HC0_3 := Sd.mk hc0_3
 clear hr0_3 hc0_3
 have HR1 := Sd.mk hr1
 have HC1 := Sd.mk hc1
 clear hr1 hc1
 have HB := Sd.mk (Below.refl w.heap.size w)
 have H : ((some (([] : List (S58)) : List (S58))).bind fun y865 => (if y865.length + l1.length < 8796093022208 then ((some (y865 ++ l1 : List (S58))).bind fun y868 => ((some (([(⟨a2_0, a2_1⟩ : S58)] : List (S58)) : List (S58))).bind fun y871 => (if y868.length + y871.length < 8796093022208 then ((some (y868 ++ y871 : List (S58))).bind fun y874 => ((glisterlaw04_lossed.f k a0_0 a0_1 l0_2 l0_3 l1).bind fun t877 => (if t877 = true then ((glisterlaw04_lossed.f k a0_0 a0_1 l0_2 l0_3 y874).bind fun t878 => (glisterlaw04_CipherLost.j0 k l1 a3 a4 y874 (!t878) a0_0 a0_1 l0_2 l0_3)) else (glisterlaw04_CipherLost.j0 k l1 a3 a4 y874 true a0_0 a0_1 l0_2 l0_3)))) else (none)))) else (none))) = some r := h
 clear h
 obtain ⟨y865, hy865⟩ : ∃ y_ : List (S58), y_ = (([] : List (S58))) := ⟨_, rfl⟩
 replace H : (if y865.length + l1.length < 8796093022208 then ((some (y865 ++ l1 : List (S58))).bind fun y868 => ((some (([(⟨a2_0, a2_1⟩ : S58)] : List (S58)) : List (S58))).bind fun y871 => (if y868.length + y871.length < 8796093022208 then ((some (y868 ++ y871 : List (S58))).bind fun y874 => ((glisterlaw04_lossed.f k a0_0 a0_1 l0_2 l0_3 l1).bind fun t877 => (if t877 = true then ((glisterlaw04_lossed.f k a0_0 a0_1 l0_2 l0_3 y874).bind fun t878 => (glisterlaw04_CipherLost.j0 k l1 a3 a4 y874 (!t878) a0_0 a0_1 l0_2 l0_3)) else (glisterlaw04_CipherLost.j0 k l1 a3 a4 y874 true a0_0 a0_1 l0_2 l0_3)))) else (none)))) else (none)) = some r := by first | (have H2_ := (Option.bind_some _ _).symm.trans H; rw [hy865]; with_reducible exact H2_) 
 have Ny865 := Sd.mk hy865
 clear hy865
 by_cases c6 : y865.length + l1.length < 8796093022208
 ·rw [if_pos c6] at H
  have LMc6 := Sd.mk c6
  clear c6
  obtain ⟨y868, hy868⟩ : ∃ y_ : List (S58), y_ = (y865 ++ l1) := ⟨_, rfl⟩
  replace H : ((some (([(⟨a2_0, a2_1⟩ : S58)] : List (S58)) : List (S58))).bind fun y871 => (if y868.length + y871.length < 8796093022208 then ((some (y868 ++ y871 : List (S58))).bind fun y874 => ((glisterlaw04_lossed.f k a0_0 a0_1 l0_2 l0_3 l1).bind fun t877 => (if t877 = true then ((glisterlaw04_lossed.f k a0_0 a0_1 l0_2 l0_3 y874).bind fun t878 => (glisterlaw04_CipherLost.j0 k l1 a3 a4 y874 (!t878) a0_0 a0_1 l0_2 l0_3)) else (glisterlaw04_CipherLost.j0 k l1 a3 a4 y874 true a0_0 a0_1 l0_2 l0_3)))) else (none))) = some r := by first | (have H2_ := (Option.bind_some _ _).symm.trans H; rw [hy868]; with_reducible exact H2_) 
  have Ny868 := Sd.mk hy868
  clear hy868
  obtain ⟨y871, hy871⟩ : ∃ y_ : List (S58), y_ = (([(⟨a2_0, a2_1⟩ : S58)] : List (S58))) := ⟨_, rfl⟩
  replace H : (if y868.length + y871.length < 8796093022208 then ((some (y868 ++ y871 : List (S58))).bind fun y874 => ((glisterlaw04_lossed.f k a0_0 a0_1 l0_2 l0_3 l1).bind fun t877 => (if t877 = true then ((glisterlaw04_lossed.f k a0_0 a0_1 l0_2 l0_3 y874).bind fun t878 => (glisterlaw04_CipherLost.j0 k l1 a3 a4 y874 (!t878) a0_0 a0_1 l0_2 l0_3)) else (glisterlaw04_CipherLost.j0 k l1 a3 a4 y874 true a0_0 a0_1 l0_2 l0_3)))) else (none)) = some r := by first | (have H2_ := (Option.bind_some _ _).symm.trans H; rw [hy871]; with_reducible exact H2_) 
  have Ny871 := Sd.mk hy871
  clear hy871
  by_cases c7 : y868.length + y871.length < 8796093022208
  ·rw [if_pos c7] at H
   have LMc7 := Sd.mk c7
   clear c7
   obtain ⟨y874, hy874⟩ : ∃ y_ : List (S58), y_ = (y868 ++ y871) := ⟨_, rfl⟩
   replace H : ((glisterlaw04_lossed.f k a0_0 a0_1 l0_2 l0_3 l1).bind fun t877 => (if t877 = true then ((glisterlaw04_lossed.f k a0_0 a0_1 l0_2 l0_3 y874).bind fun t878 => (glisterlaw04_CipherLost.j0 k l1 a3 a4 y874 (!t878) a0_0 a0_1 l0_2 l0_3)) else (glisterlaw04_CipherLost.j0 k l1 a3 a4 y874 true a0_0 a0_1 l0_2 l0_3))) = some r := by first | (have H2_ := (Option.bind_some _ _).symm.trans H; rw [hy874]; with_reducible exact H2_) 
   have Ny874 := Sd.mk hy874
   clear hy874
   have HC8 := Sd.mk H
   clear H
   go_enter Try.func9, Try.ntmps9
   try go_wp2_with (first | ((with_reducible refine gD (N := 5) rfl ?_); (try (refine gG (by rfl) ?_; dsimp only)); refine xE ?hg (N := 5) ?hd (cs := #[.int .i64 a0_0, .int .i64 a0_1, .slice A0_2 l0_2.length c0_2, .slice A0_3 l0_3.length c0_3]) (t := 25) ?hr ?_; (case hd => rfl); (case hg => rfl); (case hr => first | (go_simp; done) ); intro gb863 hg w9 hbox hb; have BK863 := Sd.mk (hbox); have GW863 := Sd.mk ((by rw [hg]; exact (bZ (by repeat (first | (with_reducible first | exact HB.1 ) ))) : w.heap.size ≤ gb863)); have GE863 := Sd.mk ((by rw [hg]; exact (bZ (by repeat (first | (with_reducible first | exact HB.1 ) ))) : w.heap.size ≤ gb863)); replace HB := Sd.mk (bT (by repeat (first | (with_reducible first | exact HB.1 ) )) hb); clear hb hbox hg) | ((with_reducible refine gD (N := 7) rfl ?_); (try (refine gG (by rfl) ?_; dsimp only)); refine xE ?hg (N := 7) ?hd (cs := #[.int .i64 a2_0, .int .i64 a2_1]) (t := 58) ?hr ?_; (case hd => rfl); (case hg => rfl); (case hr => first | (go_simp; done) ); intro gb864 hg w10 hbox hb; have BK864 := Sd.mk (hbox); have GW864 := Sd.mk ((by rw [hg]; exact (bZ (by repeat (first | (with_reducible first | exact HB.1 ) ))) : w.heap.size ≤ gb864)); have GE864 := Sd.mk ((by rw [hg]; exact (bZ (by repeat (first | (with_reducible first | exact HB.1 ) ))) : w.heap.size ≤ gb864)); replace HB := Sd.mk (bT (by repeat (first | (with_reducible first | exact HB.1 ) )) hb); have NB863_864 := Sd.mk ((by rw [hg]; exact Nat.ne_of_lt (blk_lt (g := gb863) (o := .cells #[.int .i64 a0_0, .int .i64 a0_1, .slice A0_2 l0_2.length c0_2, .slice A0_3 l0_3.length c0_3] 25 (0, 0)) (by (with_reducible repeat (fail)); exact BK863.1)) : gb863 ≠ gb864)); have NB864_863 := Sd.mk ((by rw [hg]; exact Nat.ne_of_gt (blk_lt (g := gb863) (o := .cells #[.int .i64 a0_0, .int .i64 a0_1, .slice A0_2 l0_2.length c0_2, .slice A0_3 l0_3.length c0_3] 25 (0, 0)) (by (with_reducible repeat (fail)); exact BK863.1)) : gb864 ≠ gb863)); replace BK863 := Sd.mk (kB (g := gb863) (o := .cells #[.int .i64 a0_0, .int .i64 a0_1, .slice A0_2 l0_2.length c0_2, .slice A0_3 l0_3.length c0_3] 25 (0, 0)) (by (with_reducible repeat (fail)); exact BK863.1) hb); clear hb hbox hg))
   have n0_ := Sd.mk (kD BK863.1)
   have n1_ := Sd.mk (kD BK864.1)
   have n2_ := Sd.mk (bD HB.1)
   clear BK863
   clear BK864
   clear HB
   have BK863 := n0_
   have BK864 := n1_
   have HB := n2_
   clear n0_ n1_ n2_
   refine start_ (n := 7) (S := fun w' => w'.cell? ⟨gb864, 0, none⟩ = some (.int .i64 a2_0) ∧ w'.cell? ⟨gb864, 1, none⟩ = some (.int .i64 a2_1)) (ds := []) #[false, false, false, false, false, false, false] (by kernel_rfl) rfl rfl ⟨(kC BK864.1 0).trans rfl, (kC BK864.1 1).trans rfl⟩ (fun hHeld => ?_)
   generalize w10.drew = w11 at BK863 BK864 HB hHeld ⊢
   refine pure_ (i := 1) (N := some 29) (v := ?_) (a' := ?_) #[false, true, false, false, false, false, false] rfl rfl (by kernel_rfl) (fun _ _ _ h => h) (Or.inl ⟨by rfl, ?_⟩) ?_ ?_
   rotate_left
   ·intro w'
    go_simp
    with_reducible rfl
   rotate_left
   ·simp only [Act.put, List.setIfInBounds_toArray, List.set_cons_zero, List.set_cons_succ, i64_w, i32_w]
    rfl
   refine take_ (i := 3) (N := some 31) (v := ?_) (a' := ?_) #[false, true, false, true, false, false, false] rfl rfl (by kernel_rfl) (fun _ _ _ h => h) (Or.inl ⟨by rfl, ?_⟩) hHeld ?_ ?_
   rotate_left
   ·rintro w' ⟨s0, s1⟩
    go_simp
    with_reducible rfl
   rotate_left
   ·simp only [Act.put, List.setIfInBounds_toArray, List.set_cons_zero, List.set_cons_succ, i64_w, i32_w]
    rfl
   refine join_ (σ := Value × Value × Value) 2 #[true, true, true, true, true, false, false] (fun s_ => [(28, s_.1), (30, s_.2.1), (32, s_.2.2)]) (fun s_ w' => (w'.cell? ⟨gb864, 0, none⟩ = some (.int .i64 a2_0) ∧ w'.cell? ⟨gb864, 1, none⟩ = some (.int .i64 a2_1)) ∧ (Kd.R k58 58 w' w.heap.size (fun k_ => some k_ ≠ (s_.2.2 : Value).ownBlock ∧ k_ ≠ gb864) s_.2.1 y868) ∧ (Kd.R k58 58 w' w.heap.size (fun k_ => some k_ ≠ (s_.2.1 : Value).ownBlock ∧ k_ ≠ gb864) s_.2.2 y871) ∧ (w'.heap[gb863]? = some (.cells #[.int .i64 a0_0, .int .i64 a0_1, .slice A0_2 l0_2.length c0_2, .slice A0_3 l0_3.length c0_3] 25 (0, 0))) ∧ (w'.heap[gb864]? = some (.cells #[.int .i64 a2_0, .int .i64 a2_1] 58 (0, 0))) ∧ (Below w.heap.size w w')) ?_ ?_
   rotate_left
   ·intro hCont
    refine two_ (i := 0) (j := 4) (Ni := some 28) (Nj := some 32) #[true, true, false, true, false, false, false] #[false, true, false, true, true, false, false] rfl rfl rfl rfl (by kernel_rfl) (by decide) (by decide) (fun K hK => ?_) (fun K hK => ?_)
    ·skip
     refine Kd.R_lit_step k58 _ 58 ?hg (N := 28) ?hd (xs := ([] : List (S58))) (inner := []) (ok := fun _ => True) (okp := fun _ => True) ?hr ?hp (fun _ hk => hk) trivial (Below.refl _ _) (Nat.le_refl _) (by simp) ?_; (case hd => rfl); (case hg => rfl); (case hr => first | (go_simp; done) ); (case hp => exact (Reps.none _ _))
     intro v866 w12 ho13 hb hg_ hnew_
     clear hg_ hnew_
     (rw [← Ny865.1] at ho13 )
     have n0_ := Sd.mk (Kd.R_lower (Kd.R_newB ho13 (g := gb864) (o := .cells #[.int .i64 a2_0, .int .i64 a2_1] 58 (0, 0)) (by (with_reducible repeat (fail)); exact BK864.1)) (bZ (by repeat (first | (with_reducible first | exact HB.1 ) ))))
     have n1_ := Sd.mk (kB (g := gb863) (o := .cells #[.int .i64 a0_0, .int .i64 a0_1, .slice A0_2 l0_2.length c0_2, .slice A0_3 l0_3.length c0_3] 25 (0, 0)) (by (with_reducible repeat (fail)); exact BK863.1) hb)
     have n2_ := Sd.mk (kB (g := gb864) (o := .cells #[.int .i64 a2_0, .int .i64 a2_1] 58 (0, 0)) (by (with_reducible repeat (fail)); exact BK864.1) hb)
     have n3_ := Sd.mk (bT (by repeat (first | (with_reducible first | exact HB.1 ) )) hb)
     clear BK863
     clear BK864
     clear HB
     have HO867 := n0_
     have BK863 := n1_
     have BK864 := n2_
     have HB := n3_
     clear n0_ n1_ n2_ n3_
     clear hb ho13
     refine hK.out _ _ ⟨(kC BK864.1 0).trans rfl, (kC BK864.1 1).trans rfl⟩ (fun hHeld => ?_)
     clear hK K
     refine norm_ (a' := ?_) ?_ ?_
     rotate_left
     ·show Act.put _ (some 28) _ = _
      simp only [Act.put, List.setIfInBounds_toArray, List.set_cons_zero, List.set_cons_succ, i64_w, i32_w]
      rfl
     refine two_ (i := 2) (j := 4) (Ni := some 30) (Nj := some 32) #[true, true, true, true, false, false, false] #[true, true, false, true, true, false, false] rfl rfl rfl rfl (by kernel_rfl) (by decide) (by decide) (fun K hK => ?_) (fun K hK => ?_)
     ·skip
      refine Kd.R_append_rows_step k58 (w0 := w) w.heap.size (by rfl) (.tmp 28) (.tmp 29) 47 58 (.agg #[(.int .i64 0), (.int .i64 0)]) 16 rfl Try.underlying47 info58 rfl (by decide) (by omega) v866 y865 l1 _ _ _ (fun k_ => k_ ≠ gb864) (fun _ => False) rfl rfl ?aO ?aR (fun _ _ h => h) (fun _ h => h.elim) ?aF ?aB ?aS ?aL ?_
      (case aR => repeat (first | exact (Kd.C_below HR1.1 HB.1) ))
      (case aB => exact (by repeat (first | (with_reducible first | exact HB.1 ) )))
      (case aF => exact (fun k_ hk => Kd.freshB (g := gb864) (o := .cells #[.int .i64 a2_0, .int .i64 a2_1] 58 (0, 0)) (by (with_reducible repeat (fail)); exact BK864.1) k_ hk))
      (case aO => exact (by (with_reducible repeat (fail)); exact Kd.R_mono HO867.1 (fun _ hk => hk.2)))
      (case aS => exact (bZ (by repeat (first | (with_reducible first | exact HB.1 ) ))))
      (case aL => have := LMc6.1; omega)
      intro v869 w14 ho hb hg hat
      rw [← Ny868.1] at ho
      have n0_ := Sd.mk (blk_grown (g := gb863) (o := .cells #[.int .i64 a0_0, .int .i64 a0_1, .slice A0_2 l0_2.length c0_2, .slice A0_3 l0_3.length c0_3] 25 (0, 0)) (by (with_reducible repeat (fail)); exact BK863.1) hg (Kd.R_ne HO867.1 BK863.1 (by decide)))
      have n1_ := Sd.mk (blk_grown (g := gb864) (o := .cells #[.int .i64 a2_0, .int .i64 a2_1] 58 (0, 0)) (by (with_reducible repeat (fail)); exact BK864.1) hg (Kd.R_away HO867.1 (fun _ hk => hk.2)))
      have n2_ := Sd.mk (hb)
      have n3_ := Sd.mk (ho)
      clear BK863
      clear BK864
      clear HB
      clear HO867
      have BK863 := n0_
      have BK864 := n1_
      have HB := n2_
      have HO870 := n3_
      clear n0_ n1_ n2_ n3_
      clear ho hb hg hat
      refine hK.out _ _ ⟨(kC BK864.1 0).trans rfl, (kC BK864.1 1).trans rfl⟩ (fun hHeld => ?_)
      clear hK K
      refine norm_ (a' := ?_) ?_ ?_
      rotate_left
      ·show Act.put _ (some 30) _ = _
       simp only [Act.put, List.setIfInBounds_toArray, List.set_cons_zero, List.set_cons_succ, i64_w, i32_w]
       rfl
      refine one_ (i := 4) (N := some 32) #[true, true, true, true, true, false, false] rfl rfl (by kernel_rfl) (by decide) (fun K hK => ?_)
      refine Kd.R_lit_step k58 _ 58 ?hg (N := 32) ?hd (xs := ([(⟨a2_0, a2_1⟩ : S58)] : List (S58))) (inner := [.int .i64 a2_0, .int .i64 a2_1]) (ok := fun _ => True) (okp := fun _ => True) ?hr ?hp (fun _ hk => hk) trivial (Below.refl _ _) (Nat.le_refl _) (by simp) ?_; (case hd => rfl); (case hg => rfl); (case hr => first | (go_simp; done) ); (case hp => exact (Reps.c2 (show Kd.M k58 _ _ _ (⟨a2_0, a2_1⟩ : S58) [.int .i64 a2_0, .int .i64 a2_1] from (k58_mkM _ _ _ (⟨a2_0, a2_1⟩ : S58) )) (Reps.none _ _)))
      intro v872 w15 ho16 hb hg_ hnew_
      clear hg_ hnew_
      (rw [← Ny871.1] at ho16 )
      have n0_ := Sd.mk (Kd.R_elder' (by (with_reducible repeat (fail)); exact HO870.1) (Kd.R_base ho16) hb)
      have n1_ := Sd.mk (Kd.R_lower (Kd.R_newB (Kd.R_new' ho16 (Kd.R_lt (by (with_reducible repeat (fail)); exact HO870.1))) (g := gb864) (o := .cells #[.int .i64 a2_0, .int .i64 a2_1] 58 (0, 0)) (by (with_reducible repeat (fail)); exact BK864.1)) (bZ (by repeat (first | (with_reducible first | exact HB.1 ) ))))
      have n2_ := Sd.mk (kB (g := gb863) (o := .cells #[.int .i64 a0_0, .int .i64 a0_1, .slice A0_2 l0_2.length c0_2, .slice A0_3 l0_3.length c0_3] 25 (0, 0)) (by (with_reducible repeat (fail)); exact BK863.1) hb)
      have n3_ := Sd.mk (kB (g := gb864) (o := .cells #[.int .i64 a2_0, .int .i64 a2_1] 58 (0, 0)) (by (with_reducible repeat (fail)); exact BK864.1) hb)
      have n4_ := Sd.mk (bT (by repeat (first | (with_reducible first | exact HB.1 ) )) hb)
      clear HO870
      clear BK863
      clear BK864
      clear HB
      have HO870 := n0_
      have HO873 := n1_
      have BK863 := n2_
      have BK864 := n3_
      have HB := n4_
      clear n0_ n1_ n2_ n3_ n4_
      clear hb ho16
      refine hK.out _ _ ⟨(kC BK864.1 0).trans rfl, (kC BK864.1 1).trans rfl⟩ (fun hHeld => ?_)
      clear hK K
      refine norm_ (a' := ?_) ?_ ?_
      rotate_left
      ·show Act.put _ (some 32) _ = _
       simp only [Act.put, List.setIfInBounds_toArray, List.set_cons_zero, List.set_cons_succ, i64_w, i32_w]
       rfl
      exact norm_ (by simp only [Go.Proofs.YtnidgkmopocdkaaW.PrintLast.putAll, Act.put, List.setIfInBounds_toArray, List.set_cons_zero, List.set_cons_succ]) (hCont (v866, v869, v872) _ ⟨hHeld, (by (with_reducible repeat (fail)); exact Kd.R_mono HO870.1 (fun _ hk => ⟨hk.2, hk.1⟩)), (by (with_reducible repeat (fail)); exact Kd.R_mono HO873.1 (fun _ hk => ⟨hk.1.2, hk.2⟩)), (by (with_reducible repeat (fail)); exact BK863.1), (by (with_reducible repeat (fail)); exact BK864.1), (by repeat (first | (with_reducible first | exact HB.1 ) ))⟩)
     ·skip
      refine Kd.R_lit_step k58 _ 58 ?hg (N := 32) ?hd (xs := ([(⟨a2_0, a2_1⟩ : S58)] : List (S58))) (inner := [.int .i64 a2_0, .int .i64 a2_1]) (ok := fun _ => True) (okp := fun _ => True) ?hr ?hp (fun _ hk => hk) trivial (Below.refl _ _) (Nat.le_refl _) (by simp) ?_; (case hd => rfl); (case hg => rfl); (case hr => first | (go_simp; done) ); (case hp => exact (Reps.c2 (show Kd.M k58 _ _ _ (⟨a2_0, a2_1⟩ : S58) [.int .i64 a2_0, .int .i64 a2_1] from (k58_mkM _ _ _ (⟨a2_0, a2_1⟩ : S58) )) (Reps.none _ _)))
      intro v872 w14 ho15 hb hg_ hnew_
      clear hg_ hnew_
      (rw [← Ny871.1] at ho15 )
      have n0_ := Sd.mk (Kd.R_elder' (by (with_reducible repeat (fail)); exact HO867.1) (Kd.R_base ho15) hb)
      have n1_ := Sd.mk (Kd.R_lower (Kd.R_newB (Kd.R_new' ho15 (Kd.R_lt (by (with_reducible repeat (fail)); exact HO867.1))) (g := gb864) (o := .cells #[.int .i64 a2_0, .int .i64 a2_1] 58 (0, 0)) (by (with_reducible repeat (fail)); exact BK864.1)) (bZ (by repeat (first | (with_reducible first | exact HB.1 ) ))))
      have n2_ := Sd.mk (kB (g := gb863) (o := .cells #[.int .i64 a0_0, .int .i64 a0_1, .slice A0_2 l0_2.length c0_2, .slice A0_3 l0_3.length c0_3] 25 (0, 0)) (by (with_reducible repeat (fail)); exact BK863.1) hb)
      have n3_ := Sd.mk (kB (g := gb864) (o := .cells #[.int .i64 a2_0, .int .i64 a2_1] 58 (0, 0)) (by (with_reducible repeat (fail)); exact BK864.1) hb)
      have n4_ := Sd.mk (bT (by repeat (first | (with_reducible first | exact HB.1 ) )) hb)
      clear HO867
      clear BK863
      clear BK864
      clear HB
      have HO867 := n0_
      have HO873 := n1_
      have BK863 := n2_
      have BK864 := n3_
      have HB := n4_
      clear n0_ n1_ n2_ n3_ n4_
      clear hb ho15
      refine hK.out _ _ ⟨(kC BK864.1 0).trans rfl, (kC BK864.1 1).trans rfl⟩ (fun hHeld => ?_)
      clear hK K
      refine norm_ (a' := ?_) ?_ ?_
      rotate_left
      ·show Act.put _ (some 32) _ = _
       simp only [Act.put, List.setIfInBounds_toArray, List.set_cons_zero, List.set_cons_succ, i64_w, i32_w]
       rfl
      refine one_ (i := 2) (N := some 30) #[true, true, true, true, true, false, false] rfl rfl (by kernel_rfl) (by decide) (fun K hK => ?_)
      refine Kd.R_append_rows_step k58 (w0 := w) w.heap.size (by rfl) (.tmp 28) (.tmp 29) 47 58 (.agg #[(.int .i64 0), (.int .i64 0)]) 16 rfl Try.underlying47 info58 rfl (by decide) (by omega) v866 y865 l1 _ _ _ (fun k_ => some k_ ≠ (v872 : Value).ownBlock ∧ k_ ≠ gb864) (fun _ => False) rfl rfl ?aO ?aR (fun _ _ h => h) (fun _ h => h.elim) ?aF ?aB ?aS ?aL ?_
      (case aR => repeat (first | exact (Kd.C_below HR1.1 HB.1) ))
      (case aB => exact (by repeat (first | (with_reducible first | exact HB.1 ) )))
      (case aF => exact (fun k_ hk => ⟨Kd.fresh' (Kd.R_lt (by (with_reducible repeat (fail)); exact HO873.1)) k_ hk, Kd.freshB (g := gb864) (o := .cells #[.int .i64 a2_0, .int .i64 a2_1] 58 (0, 0)) (by (with_reducible repeat (fail)); exact BK864.1) k_ hk⟩))
      (case aO => exact (by (with_reducible repeat (fail)); exact Kd.R_mono HO867.1 (fun _ hk => ⟨hk.2, hk.1.2⟩)))
      (case aS => exact (bZ (by repeat (first | (with_reducible first | exact HB.1 ) ))))
      (case aL => have := LMc6.1; omega)
      intro v869 w16 ho hb hg hat
      rw [← Ny868.1] at ho
      have n0_ := Sd.mk (blk_grown (g := gb863) (o := .cells #[.int .i64 a0_0, .int .i64 a0_1, .slice A0_2 l0_2.length c0_2, .slice A0_3 l0_3.length c0_3] 25 (0, 0)) (by (with_reducible repeat (fail)); exact BK863.1) hg (Kd.R_ne HO867.1 BK863.1 (by decide)))
      have n1_ := Sd.mk (blk_grown (g := gb864) (o := .cells #[.int .i64 a2_0, .int .i64 a2_1] 58 (0, 0)) (by (with_reducible repeat (fail)); exact BK864.1) hg (Kd.R_away HO867.1 (fun _ hk => hk.1.2)))
      have n2_ := Sd.mk (Kd.R_after (ok := (fun k_ => k_ ≠ gb864)) (by (with_reducible repeat (fail)); exact Kd.R_mono HO873.1 (fun _ hk => ⟨hk.2, hk.1.2⟩)) hg hat)
      have n3_ := Sd.mk (hb)
      have n4_ := Sd.mk (ho)
      clear BK863
      clear BK864
      clear HO873
      clear HB
      clear HO867
      have BK863 := n0_
      have BK864 := n1_
      have HO873 := n2_
      have HB := n3_
      have HO870 := n4_
      clear n0_ n1_ n2_ n3_ n4_
      clear ho hb hg hat
      refine hK.out _ _ ⟨(kC BK864.1 0).trans rfl, (kC BK864.1 1).trans rfl⟩ (fun hHeld => ?_)
      clear hK K
      refine norm_ (a' := ?_) ?_ ?_
      rotate_left
      ·show Act.put _ (some 30) _ = _
       simp only [Act.put, List.setIfInBounds_toArray, List.set_cons_zero, List.set_cons_succ, i64_w, i32_w]
       rfl
      exact norm_ (by simp only [Go.Proofs.YtnidgkmopocdkaaW.PrintLast.putAll, Act.put, List.setIfInBounds_toArray, List.set_cons_zero, List.set_cons_succ]) (hCont (v866, v869, v872) _ ⟨hHeld, (by (with_reducible repeat (fail)); exact HO870.1), (by (with_reducible repeat (fail)); exact Kd.R_mono HO873.1 (fun _ hk => ⟨hk.2, hk.1⟩)), (by (with_reducible repeat (fail)); exact BK863.1), (by (with_reducible repeat (fail)); exact BK864.1), (by repeat (first | (with_reducible first | exact HB.1 ) ))⟩)
    ·skip
     refine Kd.R_lit_step k58 _ 58 ?hg (N := 32) ?hd (xs := ([(⟨a2_0, a2_1⟩ : S58)] : List (S58))) (inner := [.int .i64 a2_0, .int .i64 a2_1]) (ok := fun _ => True) (okp := fun _ => True) ?hr ?hp (fun _ hk => hk) trivial (Below.refl _ _) (Nat.le_refl _) (by simp) ?_; (case hd => rfl); (case hg => rfl); (case hr => first | (go_simp; done) ); (case hp => exact (Reps.c2 (show Kd.M k58 _ _ _ (⟨a2_0, a2_1⟩ : S58) [.int .i64 a2_0, .int .i64 a2_1] from (k58_mkM _ _ _ (⟨a2_0, a2_1⟩ : S58) )) (Reps.none _ _)))
     intro v872 w12 ho13 hb hg_ hnew_
     clear hg_ hnew_
     (rw [← Ny871.1] at ho13 )
     have n0_ := Sd.mk (Kd.R_lower (Kd.R_newB ho13 (g := gb864) (o := .cells #[.int .i64 a2_0, .int .i64 a2_1] 58 (0, 0)) (by (with_reducible repeat (fail)); exact BK864.1)) (bZ (by repeat (first | (with_reducible first | exact HB.1 ) ))))
     have n1_ := Sd.mk (kB (g := gb863) (o := .cells #[.int .i64 a0_0, .int .i64 a0_1, .slice A0_2 l0_2.length c0_2, .slice A0_3 l0_3.length c0_3] 25 (0, 0)) (by (with_reducible repeat (fail)); exact BK863.1) hb)
     have n2_ := Sd.mk (kB (g := gb864) (o := .cells #[.int .i64 a2_0, .int .i64 a2_1] 58 (0, 0)) (by (with_reducible repeat (fail)); exact BK864.1) hb)
     have n3_ := Sd.mk (bT (by repeat (first | (with_reducible first | exact HB.1 ) )) hb)
     clear BK863
     clear BK864
     clear HB
     have HO873 := n0_
     have BK863 := n1_
     have BK864 := n2_
     have HB := n3_
     clear n0_ n1_ n2_ n3_
     clear hb ho13
     refine hK.out _ _ ⟨(kC BK864.1 0).trans rfl, (kC BK864.1 1).trans rfl⟩ (fun hHeld => ?_)
     clear hK K
     refine norm_ (a' := ?_) ?_ ?_
     rotate_left
     ·show Act.put _ (some 32) _ = _
      simp only [Act.put, List.setIfInBounds_toArray, List.set_cons_zero, List.set_cons_succ, i64_w, i32_w]
      rfl
     refine one_ (i := 0) (N := some 28) #[true, true, false, true, true, false, false] rfl rfl (by kernel_rfl) (by decide) (fun K hK => ?_)
     refine Kd.R_lit_step k58 _ 58 ?hg (N := 28) ?hd (xs := ([] : List (S58))) (inner := []) (ok := fun _ => True) (okp := fun _ => True) ?hr ?hp (fun _ hk => hk) trivial (Below.refl _ _) (Nat.le_refl _) (by simp) ?_; (case hd => rfl); (case hg => rfl); (case hr => first | (go_simp; done) ); (case hp => exact (Reps.none _ _))
     intro v866 w14 ho15 hb hg_ hnew_
     clear hg_ hnew_
     (rw [← Ny865.1] at ho15 )
     have n0_ := Sd.mk (Kd.R_elder' (by (with_reducible repeat (fail)); exact HO873.1) (Kd.R_base ho15) hb)
     have n1_ := Sd.mk (Kd.R_lower (Kd.R_newB (Kd.R_new' ho15 (Kd.R_lt (by (with_reducible repeat (fail)); exact HO873.1))) (g := gb864) (o := .cells #[.int .i64 a2_0, .int .i64 a2_1] 58 (0, 0)) (by (with_reducible repeat (fail)); exact BK864.1)) (bZ (by repeat (first | (with_reducible first | exact HB.1 ) ))))
     have n2_ := Sd.mk (kB (g := gb863) (o := .cells #[.int .i64 a0_0, .int .i64 a0_1, .slice A0_2 l0_2.length c0_2, .slice A0_3 l0_3.length c0_3] 25 (0, 0)) (by (with_reducible repeat (fail)); exact BK863.1) hb)
     have n3_ := Sd.mk (kB (g := gb864) (o := .cells #[.int .i64 a2_0, .int .i64 a2_1] 58 (0, 0)) (by (with_reducible repeat (fail)); exact BK864.1) hb)
     have n4_ := Sd.mk (bT (by repeat (first | (with_reducible first | exact HB.1 ) )) hb)
     clear HO873
     clear BK863
     clear BK864
     clear HB
     have HO873 := n0_
     have HO867 := n1_
     have BK863 := n2_
     have BK864 := n3_
     have HB := n4_
     clear n0_ n1_ n2_ n3_ n4_
     clear hb ho15
     refine hK.out _ _ ⟨(kC BK864.1 0).trans rfl, (kC BK864.1 1).trans rfl⟩ (fun hHeld => ?_)
     clear hK K
     refine norm_ (a' := ?_) ?_ ?_
     rotate_left
     ·show Act.put _ (some 28) _ = _
      simp only [Act.put, List.setIfInBounds_toArray, List.set_cons_zero, List.set_cons_succ, i64_w, i32_w]
      rfl
     refine one_ (i := 2) (N := some 30) #[true, true, true, true, true, false, false] rfl rfl (by kernel_rfl) (by decide) (fun K hK => ?_)
     refine Kd.R_append_rows_step k58 (w0 := w) w.heap.size (by rfl) (.tmp 28) (.tmp 29) 47 58 (.agg #[(.int .i64 0), (.int .i64 0)]) 16 rfl Try.underlying47 info58 rfl (by decide) (by omega) v866 y865 l1 _ _ _ (fun k_ => some k_ ≠ (v872 : Value).ownBlock ∧ k_ ≠ gb864) (fun _ => False) rfl rfl ?aO ?aR (fun _ _ h => h) (fun _ h => h.elim) ?aF ?aB ?aS ?aL ?_
     (case aR => repeat (first | exact (Kd.C_below HR1.1 HB.1) ))
     (case aB => exact (by repeat (first | (with_reducible first | exact HB.1 ) )))
     (case aF => exact (fun k_ hk => ⟨Kd.fresh' (Kd.R_lt (by (with_reducible repeat (fail)); exact HO873.1)) k_ hk, Kd.freshB (g := gb864) (o := .cells #[.int .i64 a2_0, .int .i64 a2_1] 58 (0, 0)) (by (with_reducible repeat (fail)); exact BK864.1) k_ hk⟩))
     (case aO => exact (by (with_reducible repeat (fail)); exact Kd.R_mono HO867.1 (fun _ hk => ⟨hk.1.2, hk.2⟩)))
     (case aS => exact (bZ (by repeat (first | (with_reducible first | exact HB.1 ) ))))
     (case aL => have := LMc6.1; omega)
     intro v869 w16 ho hb hg hat
     rw [← Ny868.1] at ho
     have n0_ := Sd.mk (blk_grown (g := gb863) (o := .cells #[.int .i64 a0_0, .int .i64 a0_1, .slice A0_2 l0_2.length c0_2, .slice A0_3 l0_3.length c0_3] 25 (0, 0)) (by (with_reducible repeat (fail)); exact BK863.1) hg (Kd.R_ne HO867.1 BK863.1 (by decide)))
     have n1_ := Sd.mk (blk_grown (g := gb864) (o := .cells #[.int .i64 a2_0, .int .i64 a2_1] 58 (0, 0)) (by (with_reducible repeat (fail)); exact BK864.1) hg (Kd.R_away HO867.1 (fun _ hk => hk.2)))
     have n2_ := Sd.mk (Kd.R_after (ok := (fun k_ => k_ ≠ gb864)) (by (with_reducible repeat (fail)); exact Kd.R_mono HO873.1 (fun _ hk => ⟨hk.1.2, hk.2⟩)) hg hat)
     have n3_ := Sd.mk (hb)
     have n4_ := Sd.mk (ho)
     clear BK863
     clear BK864
     clear HO873
     clear HB
     clear HO867
     have BK863 := n0_
     have BK864 := n1_
     have HO873 := n2_
     have HB := n3_
     have HO870 := n4_
     clear n0_ n1_ n2_ n3_ n4_
     clear ho hb hg hat
     refine hK.out _ _ ⟨(kC BK864.1 0).trans rfl, (kC BK864.1 1).trans rfl⟩ (fun hHeld => ?_)
     clear hK K
     refine norm_ (a' := ?_) ?_ ?_
     rotate_left
     ·show Act.put _ (some 30) _ = _
      simp only [Act.put, List.setIfInBounds_toArray, List.set_cons_zero, List.set_cons_succ, i64_w, i32_w]
      rfl
     exact norm_ (by simp only [Go.Proofs.YtnidgkmopocdkaaW.PrintLast.putAll, Act.put, List.setIfInBounds_toArray, List.set_cons_zero, List.set_cons_succ]) (hCont (v866, v869, v872) _ ⟨hHeld, (by (with_reducible repeat (fail)); exact HO870.1), (by (with_reducible repeat (fail)); exact Kd.R_mono HO873.1 (fun _ hk => ⟨hk.2, hk.1⟩)), (by (with_reducible repeat (fail)); exact BK863.1), (by (with_reducible repeat (fail)); exact BK864.1), (by repeat (first | (with_reducible first | exact HB.1 ) ))⟩)
   rintro ⟨v866, v869, v872⟩ w17 ⟨hS_, h0_, h1_, h2_, h3_, h4_⟩
   have n0_ : Sd (Kd.R k58 58 w17 w.heap.size (fun k_ => some k_ ≠ (v872 : Value).ownBlock ∧ k_ ≠ gb864) v869 y868) := ⟨h0_⟩
   have n1_ : Sd (Kd.R k58 58 w17 w.heap.size (fun k_ => some k_ ≠ (v869 : Value).ownBlock ∧ k_ ≠ gb864) v872 y871) := ⟨h1_⟩
   have n2_ : Sd (w17.heap[gb863]? = some (.cells #[.int .i64 a0_0, .int .i64 a0_1, .slice A0_2 l0_2.length c0_2, .slice A0_3 l0_3.length c0_3] 25 (0, 0))) := ⟨h2_⟩
   have n3_ : Sd (w17.heap[gb864]? = some (.cells #[.int .i64 a2_0, .int .i64 a2_1] 58 (0, 0))) := ⟨h3_⟩
   have n4_ : Sd (Below w.heap.size w w17) := ⟨h4_⟩
   clear BK863
   clear BK864
   clear HB
   clear h0_ h1_ h2_ h3_ h4_
   have HO870 := n0_
   have HO873 := n1_
   have BK863 := n2_
   have BK864 := n3_
   have HB := n4_
   clear n0_ n1_ n2_ n3_ n4_
   have hHeld : w17.cell? ⟨gb864, 0, none⟩ = some (.int .i64 a2_0) ∧ w17.cell? ⟨gb864, 1, none⟩ = some (.int .i64 a2_1) := hS_
   obtain ⟨Ao19, co19, eo19⟩ := Kd.R_slice HO873.1
   (subst eo19 )
   refine norm_ (a' := ?_) ?_ ?_
   rotate_left
   ·simp only [Go.Proofs.YtnidgkmopocdkaaW.PrintLast.putAll, Act.put, List.setIfInBounds_toArray, List.set_cons_zero, List.set_cons_succ]
    rfl
   refine one_ (i := 5) (N := some 33) #[true, true, true, true, true, true, false] rfl rfl (by kernel_rfl) (by decide) (fun K hK => ?_)
   refine Kd.R_append_rows_step k58 (w0 := w) w.heap.size (by rfl) (.tmp 30) (.tmp 32) 47 58 (.agg #[(.int .i64 0), (.int .i64 0)]) 16 rfl Try.underlying47 info58 rfl (by decide) (by omega) v869 y868 y871 _ _ _ (fun k_ => some k_ ≠ (.slice Ao19 y871.length co19 : Value).ownBlock ∧ k_ ≠ gb864) (fun _ => False) rfl rfl ?aO ?aR (fun _ _ h => h) (fun _ h => h.elim) ?aF ?aB ?aS ?aL ?_
   (case aR => repeat (first | exact (Kd.R_reads' HO873.1).2.2 ))
   (case aB => exact (by repeat (first | (with_reducible first | exact HB.1 ) )))
   (case aF => exact (fun k_ hk => ⟨Kd.fresh' (Kd.R_lt (by (with_reducible repeat (fail)); exact HO873.1)) k_ hk, Kd.freshB (g := gb864) (o := .cells #[.int .i64 a2_0, .int .i64 a2_1] 58 (0, 0)) (by (with_reducible repeat (fail)); exact BK864.1) k_ hk⟩))
   (case aO => exact (by (with_reducible repeat (fail)); exact HO870.1))
   (case aS => exact (bZ (by repeat (first | (with_reducible first | exact HB.1 ) ))))
   (case aL => have := LMc7.1; omega)
   intro v875 w18 ho hb hg hat
   rw [← Ny874.1] at ho
   have n0_ := Sd.mk (blk_grown (g := gb863) (o := .cells #[.int .i64 a0_0, .int .i64 a0_1, .slice A0_2 l0_2.length c0_2, .slice A0_3 l0_3.length c0_3] 25 (0, 0)) (by (with_reducible repeat (fail)); exact BK863.1) hg (Kd.R_ne HO870.1 BK863.1 (by decide)))
   have n1_ := Sd.mk (blk_grown (g := gb864) (o := .cells #[.int .i64 a2_0, .int .i64 a2_1] 58 (0, 0)) (by (with_reducible repeat (fail)); exact BK864.1) hg (Kd.R_away HO870.1 (fun _ hk => hk.2)))
   have n2_ := Sd.mk (Kd.R_after (ok := (fun k_ => k_ ≠ gb864)) (by (with_reducible repeat (fail)); exact Kd.R_mono HO873.1 (fun _ hk => ⟨hk.2, hk.1⟩)) hg hat)
   have n3_ := Sd.mk (hb)
   have n4_ := Sd.mk (ho)
   clear BK863
   clear BK864
   clear HO873
   clear HB
   clear HO870
   have BK863 := n0_
   have BK864 := n1_
   have HO873 := n2_
   have HB := n3_
   have HO876 := n4_
   clear n0_ n1_ n2_ n3_ n4_
   clear ho hb hg hat
   refine hK.out _ _ ⟨(kC BK864.1 0).trans rfl, (kC BK864.1 1).trans rfl⟩ (fun hHeld => ?_)
   clear hK K
   refine norm_ (a' := ?_) ?_ ?_
   rotate_left
   ·show Act.put _ (some 33) _ = _
    simp only [Act.put, List.setIfInBounds_toArray, List.set_cons_zero, List.set_cons_succ, i64_w, i32_w]
    rfl
   refine pure_ (i := 6) (N := some 11) (v := ?_) (a' := ?_) #[true, true, true, true, true, true, true] rfl rfl (by kernel_rfl) (fun _ _ _ h => h) (Or.inl ⟨by rfl, ?_⟩) ?_ ?_
   rotate_left
   ·intro w'
    go_simp
    with_reducible rfl
   rotate_left
   ·simp only [Act.put, List.setIfInBounds_toArray, List.set_cons_zero, List.set_cons_succ, i64_w, i32_w]
    rfl
   refine done_ (by kernel_rfl) ?_
   go_upto_region 2 with (fail)
   go_cut [43] (fun v43 wc => ∃ (kq : Nat) (x43_7 : Bool), v43 = .bool x43_7 ∧ Sd (glisterlaw04_CipherLost.j0 kq l1 a3 a4 y874 x43_7 a0_0 a0_1 l0_2 l0_3 = some r) ∧ Sd (kq ≤ k) ∧ Sd (Kd.R k58 58 wc w.heap.size (fun k_ => k_ ≠ gb864) v875 y874) ∧ Sd (wc.heap[gb863]? = some (.cells #[.int .i64 a0_0, .int .i64 a0_1, (.slice A0_2 l0_2.length c0_2), (.slice A0_3 l0_3.length c0_3)] 25 (0, 0))) ∧ Sd (wc.heap[gb864]? = some (.cells #[.int .i64 a2_0, .int .i64 a2_1] 58 (0, 0))) ∧ Sd (Below w.heap.size w wc))
   case first =>
    have H := HC8.1
    clear HC8
    obtain ⟨t877, A200, H⟩ := Option.bind_eq_some_iff.mp H
    have A20 := Sd.mk A200
    clear A200
    by_cases c21 : t877 = true
    ·as_aux_lemma =>
     subst c21
     rw [if_pos rfl] at H
     obtain ⟨t878, A220, H⟩ := Option.bind_eq_some_iff.mp H
     have A22 := Sd.mk A220
     clear A220
     have H' := Sd.mk H
     clear H
     have hnb23 := NB863_864.1
     have hnc23 := NB864_863.1
     have z_24_0 : w18.cell? ⟨gb863, 0, none⟩ = some (.int .i64 a0_0) := (kC BK863.1 0).trans rfl
     have z_24_1 : w18.cell? ⟨gb863, 1, none⟩ = some (.int .i64 a0_1) := (kC BK863.1 1).trans rfl
     have z_24_2 : w18.cell? ⟨gb863, 2, none⟩ = some (.slice A0_2 l0_2.length c0_2) := (kC BK863.1 2).trans rfl
     have z_24_3 : w18.cell? ⟨gb863, 3, none⟩ = some (.slice A0_3 l0_3.length c0_3) := (kC BK863.1 3).trans rfl
     go_wp2_with (first | ((with_reducible refine gate_callee (f := 34) rfl ?_); refine goesL_ (some 36) rfl rfl Try.func34 (by kernel_rfl) rfl #[.agg #[.int .i64 a0_0, .int .i64 a0_1, .slice A0_2 l0_2.length c0_2, .slice A0_3 l0_3.length c0_3], .slice A1 l1.length c1] rfl (by (try simp only [List.map_toArray, List.map_cons, List.map_nil]); first | rfl ) ?_; (with_reducible refine (glisterlaw04_lossed.calls k a0_0 a0_1 _ _ l0_2 _ _ l0_3 _ _ l1 true _ ?side1 ?side2 ?side3 ?side4 ?side5 ?side6 A20.1).mono ?_); (case side1 => repeat (first | exact (Kd.C_below HR0_2.1 HB.1) )); (case side2 => exact HC0_2.1); (case side3 => repeat (first | exact (Kd.C_below HR0_3.1 HB.1) )); (case side4 => exact HC0_3.1); (case side5 => repeat (first | exact (Kd.C_below HR1.1 HB.1) )); (case side6 => exact HC1.1); rintro e w25 ⟨rfl, hb⟩; refine ⟨_, rfl, ?_⟩; replace HO873 := Sd.mk (Kd.R_below (by (with_reducible repeat (fail)); exact HO873.1) hb); replace HO876 := Sd.mk (Kd.R_below (by (with_reducible repeat (fail)); exact HO876.1) hb); replace BK863 := Sd.mk (kB (g := gb863) (o := .cells #[.int .i64 a0_0, .int .i64 a0_1, .slice A0_2 l0_2.length c0_2, .slice A0_3 l0_3.length c0_3] 25 (0, 0)) (by (with_reducible repeat (fail)); exact BK863.1) hb); replace BK864 := Sd.mk (kB (g := gb864) (o := .cells #[.int .i64 a2_0, .int .i64 a2_1] 58 (0, 0)) (by (with_reducible repeat (fail)); exact BK864.1) hb); replace HB := Sd.mk (bT (by repeat (first | (with_reducible first | exact HB.1 ) )) hb); (try clear hb); have z_26_0 : w25.cell? ⟨gb863, 0, none⟩ = some (.int .i64 a0_0) := (kC BK863.1 0).trans rfl; have z_26_1 : w25.cell? ⟨gb863, 1, none⟩ = some (.int .i64 a0_1) := (kC BK863.1 1).trans rfl; have z_26_2 : w25.cell? ⟨gb863, 2, none⟩ = some (.slice A0_2 l0_2.length c0_2) := (kC BK863.1 2).trans rfl; have z_26_3 : w25.cell? ⟨gb863, 3, none⟩ = some (.slice A0_3 l0_3.length c0_3) := (kC BK863.1 3).trans rfl; obtain ⟨Ao27, co27, eo27⟩ := Kd.R_slice HO876.1; subst eo27; (try clear A20)) | (go_at_call 34; (with_reducible refine (glisterlaw04_lossed.calls k a0_0 a0_1 _ _ l0_2 _ _ l0_3 _ _ y874 t878 _ ?side1 ?side2 ?side3 ?side4 ?side5 ?side6 A22.1).mono ?_); (case side1 => repeat (first | exact (Kd.C_below HR0_2.1 HB.1) )); (case side2 => exact HC0_2.1); (case side3 => repeat (first | exact (Kd.C_below HR0_3.1 HB.1) )); (case side4 => exact HC0_3.1); (case side5 => repeat (first | exact (Kd.R_reads' HO876.1).2.2 )); (case side6 => exact (Kd.R_reads' HO876.1).2.1); rintro e w28 ⟨rfl, hb⟩; replace HO873 := Sd.mk (Kd.R_below (by (with_reducible repeat (fail)); exact HO873.1) hb); replace HO876 := Sd.mk (Kd.R_below (by (with_reducible repeat (fail)); exact HO876.1) hb); replace BK863 := Sd.mk (kB (g := gb863) (o := .cells #[.int .i64 a0_0, .int .i64 a0_1, .slice A0_2 l0_2.length c0_2, .slice A0_3 l0_3.length c0_3] 25 (0, 0)) (by (with_reducible repeat (fail)); exact BK863.1) hb); replace BK864 := Sd.mk (kB (g := gb864) (o := .cells #[.int .i64 a2_0, .int .i64 a2_1] 58 (0, 0)) (by (with_reducible repeat (fail)); exact BK864.1) hb); replace HB := Sd.mk (bT (by repeat (first | (with_reducible first | exact HB.1 ) )) hb); (try clear hb); (try clear A22)))
     go_meet
     case rel => exact ⟨_, (!t878), (by first | rfl ), H', ⟨by first | omega ⟩, ⟨by (with_reducible repeat (fail)); exact Kd.R_mono HO876.1 (fun _ hk => hk.2)⟩, ⟨by (with_reducible repeat (fail)); exact BK863.1⟩, ⟨by (with_reducible repeat (fail)); exact BK864.1⟩, ⟨by repeat (first | (with_reducible first | exact HB.1 ) )⟩⟩
    ·as_aux_lemma =>
     replace c21 := Bool.eq_false_iff.mpr c21
     subst c21
     rw [if_neg (show ¬ (false = true) by decide)] at H
     have H' := Sd.mk H
     clear H
     have hnb29 := NB863_864.1
     have hnc29 := NB864_863.1
     have z_30_0 : w18.cell? ⟨gb863, 0, none⟩ = some (.int .i64 a0_0) := (kC BK863.1 0).trans rfl
     have z_30_1 : w18.cell? ⟨gb863, 1, none⟩ = some (.int .i64 a0_1) := (kC BK863.1 1).trans rfl
     have z_30_2 : w18.cell? ⟨gb863, 2, none⟩ = some (.slice A0_2 l0_2.length c0_2) := (kC BK863.1 2).trans rfl
     have z_30_3 : w18.cell? ⟨gb863, 3, none⟩ = some (.slice A0_3 l0_3.length c0_3) := (kC BK863.1 3).trans rfl
     go_wp2_with (first | ((with_reducible refine gate_callee (f := 34) rfl ?_); refine goesL_ (some 36) rfl rfl Try.func34 (by kernel_rfl) rfl #[.agg #[.int .i64 a0_0, .int .i64 a0_1, .slice A0_2 l0_2.length c0_2, .slice A0_3 l0_3.length c0_3], .slice A1 l1.length c1] rfl (by (try simp only [List.map_toArray, List.map_cons, List.map_nil]); first | rfl ) ?_; (with_reducible refine (glisterlaw04_lossed.calls k a0_0 a0_1 _ _ l0_2 _ _ l0_3 _ _ l1 false _ ?side1 ?side2 ?side3 ?side4 ?side5 ?side6 A20.1).mono ?_); (case side1 => repeat (first | exact (Kd.C_below HR0_2.1 HB.1) )); (case side2 => exact HC0_2.1); (case side3 => repeat (first | exact (Kd.C_below HR0_3.1 HB.1) )); (case side4 => exact HC0_3.1); (case side5 => repeat (first | exact (Kd.C_below HR1.1 HB.1) )); (case side6 => exact HC1.1); rintro e w31 ⟨rfl, hb⟩; refine ⟨_, rfl, ?_⟩; replace HO873 := Sd.mk (Kd.R_below (by (with_reducible repeat (fail)); exact HO873.1) hb); replace HO876 := Sd.mk (Kd.R_below (by (with_reducible repeat (fail)); exact HO876.1) hb); replace BK863 := Sd.mk (kB (g := gb863) (o := .cells #[.int .i64 a0_0, .int .i64 a0_1, .slice A0_2 l0_2.length c0_2, .slice A0_3 l0_3.length c0_3] 25 (0, 0)) (by (with_reducible repeat (fail)); exact BK863.1) hb); replace BK864 := Sd.mk (kB (g := gb864) (o := .cells #[.int .i64 a2_0, .int .i64 a2_1] 58 (0, 0)) (by (with_reducible repeat (fail)); exact BK864.1) hb); replace HB := Sd.mk (bT (by repeat (first | (with_reducible first | exact HB.1 ) )) hb); (try clear hb)))
     go_meet
     case rel => exact ⟨_, (true), (by first | rfl ), H', ⟨by first | omega ⟩, ⟨by (with_reducible repeat (fail)); exact Kd.R_mono HO876.1 (fun _ hk => hk.2)⟩, ⟨by (with_reducible repeat (fail)); exact BK863.1⟩, ⟨by (with_reducible repeat (fail)); exact BK864.1⟩, ⟨by repeat (first | (with_reducible first | exact HB.1 ) )⟩⟩
   case rest =>
    clear HC8
    obtain ⟨kq, x43_7, rfl, HA, HJ7, HO_11, BK863, BK864, HB⟩ := hcut
    cases kq with
    | zero => exact absurd HA.1 (by simp [glisterlaw04_CipherLost.j0])
    | succ kj7 =>
     have H := HA.1
     clear HA
     simp only [glisterlaw04_CipherLost.j0] at H
     by_cases c32 : x43_7 = true
     ·subst c32
      rw [if_pos rfl] at H
      obtain ⟨t879, A330, H⟩ := Option.bind_eq_some_iff.mp H
      have A33 := Sd.mk A330
      clear A330
      obtain rfl := Option.some.inj H
      go_wp2_with (first | ((with_reducible refine gate_callee (f := 17) rfl ?_); refine goesL_ (some 44) rfl rfl Try.func17 (by kernel_rfl) rfl #[] rfl (by (try simp only [List.map_toArray, List.map_cons, List.map_nil]); first | done ) ?_; (with_reducible refine (glisterlaw04_awake.calls  t879 _ A33.1).mono ?_); rintro e w34 ⟨rfl, hb⟩; refine ⟨_, rfl, ?_⟩; replace HO_11 := Sd.mk (Kd.R_below (by (with_reducible repeat (fail)); exact HO_11.1) hb); replace BK863 := Sd.mk (kB (g := gb863) (o := .cells #[.int .i64 a0_0, .int .i64 a0_1, .slice A0_2 l0_2.length c0_2, .slice A0_3 l0_3.length c0_3] 25 (0, 0)) (by (with_reducible repeat (fail)); exact BK863.1) hb); replace BK864 := Sd.mk (kB (g := gb864) (o := .cells #[.int .i64 a2_0, .int .i64 a2_1] 58 (0, 0)) (by (with_reducible repeat (fail)); exact BK864.1) hb); replace HB := Sd.mk (bT (by repeat (first | (with_reducible first | exact HB.1 ) )) hb); (try clear hb)))
      go_ret
      exact ⟨by first | rfl , by repeat (first | (with_reducible first | exact HB.1 ) )⟩
     ·replace c32 := Bool.eq_false_iff.mpr c32
      subst c32
      rw [if_neg (show ¬ (false = true) by decide)] at H
      obtain ⟨ji35, hji35⟩ : ∃ j_ : Int, (mx 0 (wrap64 ((Int.tmod (wrap64 (a3)) 9) - (Int.tmod (wrap64 (a4)) 3)))) = j_ := ⟨_, rfl⟩
      replace H : ((glisterlaw04_Book.f kj7 a0_0 a0_1 l0_2 l0_3).bind fun bt880 => ((glisterlaw04_Losses.f kj7 l1).bind fun t888 => ((cipher_Plan.f bt880.1 bt880.2.1 bt880.2.2.1 bt880.2.2.2 t888 (Int.tmod (wrap64 (a3)) 9)).bind fun bt891 => ((glisterlaw04_Book.f kj7 a0_0 a0_1 l0_2 l0_3).bind fun bt896 => ((glisterlaw04_Losses.f kj7 y874).bind fun t904 => ((cipher_Plan.f bt896.1 bt896.2.1 bt896.2.2.1 bt896.2.2.2 t904 (Int.tmod (wrap64 (a3)) 9)).bind fun bt907 => ((glisterlaw04_Book.f kj7 a0_0 a0_1 l0_2 l0_3).bind fun bt912 => ((glisterlaw04_Losses.f kj7 l1).bind fun t920 => ((cipher_Plan.f bt912.1 bt912.2.1 bt912.2.2.1 bt912.2.2.2 t920 (ji35)).bind fun bt923 => ((glisterlaw04_Book.f kj7 a0_0 a0_1 l0_2 l0_3).bind fun bt928 => ((glisterlaw04_Losses.f kj7 l1).bind fun t936 => ((cipher_Exposed.f kj7 bt928.1 bt928.2.1 bt928.2.2.1 bt928.2.2.2 t936).bind fun bt939 => ((glisterlaw04_Book.f kj7 a0_0 a0_1 l0_2 l0_3).bind fun bt943 => ((glisterlaw04_Losses.f kj7 y874).bind fun t951 => ((cipher_Exposed.f kj7 bt943.1 bt943.2.1 bt943.2.2.1 bt943.2.2.2 t951).bind fun bt954 => (if bt939.2 = 0 then (if bt954.2 = 0 then (if (bt939.1.length : Int) = (l0_3.length : Int) then (glisterlaw04_CipherLost.j1 kj7 bt891.2.1 bt891.2.2 bt907.2.1 bt907.2.2 bt923.2.1 bt923.2.2 bt939.1 bt954.1 ((bt954.1.length : Int) != (bt939.1.length : Int))) else (glisterlaw04_CipherLost.j1 kj7 bt891.2.1 bt891.2.2 bt907.2.1 bt907.2.2 bt923.2.1 bt923.2.2 bt939.1 bt954.1 true)) else (glisterlaw04_CipherLost.j1 kj7 bt891.2.1 bt891.2.2 bt907.2.1 bt907.2.2 bt923.2.1 bt923.2.2 bt939.1 bt954.1 true)) else (glisterlaw04_CipherLost.j1 kj7 bt891.2.1 bt891.2.2 bt907.2.1 bt907.2.2 bt923.2.1 bt923.2.2 bt939.1 bt954.1 true))))))))))))))))) = some r := by first | (rw [hji35] at H; exact H) 
      have hji35_ : (if 0 < (wrap64 ((Int.tmod (wrap64 (a3)) 9) - (Int.tmod (wrap64 (a4)) 3))) then (wrap64 ((Int.tmod (wrap64 (a3)) 9) - (Int.tmod (wrap64 (a4)) 3))) else 0) = ji35 := hji35
      replace H := Option.bind_eq_some_iff.mp H
      obtain ⟨⟨t880, t881, t882, t885⟩, A360, H⟩ := H
      replace H : ((glisterlaw04_Losses.f kj7 l1).bind fun t888 => ((cipher_Plan.f t880 t881 t882 t885 t888 (Int.tmod (wrap64 (a3)) 9)).bind fun bt891 => ((glisterlaw04_Book.f kj7 a0_0 a0_1 l0_2 l0_3).bind fun bt896 => ((glisterlaw04_Losses.f kj7 y874).bind fun t904 => ((cipher_Plan.f bt896.1 bt896.2.1 bt896.2.2.1 bt896.2.2.2 t904 (Int.tmod (wrap64 (a3)) 9)).bind fun bt907 => ((glisterlaw04_Book.f kj7 a0_0 a0_1 l0_2 l0_3).bind fun bt912 => ((glisterlaw04_Losses.f kj7 l1).bind fun t920 => ((cipher_Plan.f bt912.1 bt912.2.1 bt912.2.2.1 bt912.2.2.2 t920 (ji35)).bind fun bt923 => ((glisterlaw04_Book.f kj7 a0_0 a0_1 l0_2 l0_3).bind fun bt928 => ((glisterlaw04_Losses.f kj7 l1).bind fun t936 => ((cipher_Exposed.f kj7 bt928.1 bt928.2.1 bt928.2.2.1 bt928.2.2.2 t936).bind fun bt939 => ((glisterlaw04_Book.f kj7 a0_0 a0_1 l0_2 l0_3).bind fun bt943 => ((glisterlaw04_Losses.f kj7 y874).bind fun t951 => ((cipher_Exposed.f kj7 bt943.1 bt943.2.1 bt943.2.2.1 bt943.2.2.2 t951).bind fun bt954 => (if bt939.2 = 0 then (if bt954.2 = 0 then (if (bt939.1.length : Int) = (l0_3.length : Int) then (glisterlaw04_CipherLost.j1 kj7 bt891.2.1 bt891.2.2 bt907.2.1 bt907.2.2 bt923.2.1 bt923.2.2 bt939.1 bt954.1 ((bt954.1.length : Int) != (bt939.1.length : Int))) else (glisterlaw04_CipherLost.j1 kj7 bt891.2.1 bt891.2.2 bt907.2.1 bt907.2.2 bt923.2.1 bt923.2.2 bt939.1 bt954.1 true)) else (glisterlaw04_CipherLost.j1 kj7 bt891.2.1 bt891.2.2 bt907.2.1 bt907.2.2 bt923.2.1 bt923.2.2 bt939.1 bt954.1 true)) else (glisterlaw04_CipherLost.j1 kj7 bt891.2.1 bt891.2.2 bt907.2.1 bt907.2.2 bt923.2.1 bt923.2.2 bt939.1 bt954.1 true)))))))))))))))) = some r := H
      have A36 := Sd.mk A360
      clear A360
      obtain ⟨t888, A370, H⟩ := Option.bind_eq_some_iff.mp H
      have A37 := Sd.mk A370
      clear A370
      replace H := Option.bind_eq_some_iff.mp H
      obtain ⟨⟨t891, t894, t895⟩, A380, H⟩ := H
      replace H : ((glisterlaw04_Book.f kj7 a0_0 a0_1 l0_2 l0_3).bind fun bt896 => ((glisterlaw04_Losses.f kj7 y874).bind fun t904 => ((cipher_Plan.f bt896.1 bt896.2.1 bt896.2.2.1 bt896.2.2.2 t904 (Int.tmod (wrap64 (a3)) 9)).bind fun bt907 => ((glisterlaw04_Book.f kj7 a0_0 a0_1 l0_2 l0_3).bind fun bt912 => ((glisterlaw04_Losses.f kj7 l1).bind fun t920 => ((cipher_Plan.f bt912.1 bt912.2.1 bt912.2.2.1 bt912.2.2.2 t920 (ji35)).bind fun bt923 => ((glisterlaw04_Book.f kj7 a0_0 a0_1 l0_2 l0_3).bind fun bt928 => ((glisterlaw04_Losses.f kj7 l1).bind fun t936 => ((cipher_Exposed.f kj7 bt928.1 bt928.2.1 bt928.2.2.1 bt928.2.2.2 t936).bind fun bt939 => ((glisterlaw04_Book.f kj7 a0_0 a0_1 l0_2 l0_3).bind fun bt943 => ((glisterlaw04_Losses.f kj7 y874).bind fun t951 => ((cipher_Exposed.f kj7 bt943.1 bt943.2.1 bt943.2.2.1 bt943.2.2.2 t951).bind fun bt954 => (if bt939.2 = 0 then (if bt954.2 = 0 then (if (bt939.1.length : Int) = (l0_3.length : Int) then (glisterlaw04_CipherLost.j1 kj7 t894 t895 bt907.2.1 bt907.2.2 bt923.2.1 bt923.2.2 bt939.1 bt954.1 ((bt954.1.length : Int) != (bt939.1.length : Int))) else (glisterlaw04_CipherLost.j1 kj7 t894 t895 bt907.2.1 bt907.2.2 bt923.2.1 bt923.2.2 bt939.1 bt954.1 true)) else (glisterlaw04_CipherLost.j1 kj7 t894 t895 bt907.2.1 bt907.2.2 bt923.2.1 bt923.2.2 bt939.1 bt954.1 true)) else (glisterlaw04_CipherLost.j1 kj7 t894 t895 bt907.2.1 bt907.2.2 bt923.2.1 bt923.2.2 bt939.1 bt954.1 true)))))))))))))) = some r := H
      have A38 := Sd.mk A380
      clear A380
      replace H := Option.bind_eq_some_iff.mp H
      obtain ⟨⟨t896, t897, t898, t901⟩, A390, H⟩ := H
      replace H : ((glisterlaw04_Losses.f kj7 y874).bind fun t904 => ((cipher_Plan.f t896 t897 t898 t901 t904 (Int.tmod (wrap64 (a3)) 9)).bind fun bt907 => ((glisterlaw04_Book.f kj7 a0_0 a0_1 l0_2 l0_3).bind fun bt912 => ((glisterlaw04_Losses.f kj7 l1).bind fun t920 => ((cipher_Plan.f bt912.1 bt912.2.1 bt912.2.2.1 bt912.2.2.2 t920 (ji35)).bind fun bt923 => ((glisterlaw04_Book.f kj7 a0_0 a0_1 l0_2 l0_3).bind fun bt928 => ((glisterlaw04_Losses.f kj7 l1).bind fun t936 => ((cipher_Exposed.f kj7 bt928.1 bt928.2.1 bt928.2.2.1 bt928.2.2.2 t936).bind fun bt939 => ((glisterlaw04_Book.f kj7 a0_0 a0_1 l0_2 l0_3).bind fun bt943 => ((glisterlaw04_Losses.f kj7 y874).bind fun t951 => ((cipher_Exposed.f kj7 bt943.1 bt943.2.1 bt943.2.2.1 bt943.2.2.2 t951).bind fun bt954 => (if bt939.2 = 0 then (if bt954.2 = 0 then (if (bt939.1.length : Int) = (l0_3.length : Int) then (glisterlaw04_CipherLost.j1 kj7 t894 t895 bt907.2.1 bt907.2.2 bt923.2.1 bt923.2.2 bt939.1 bt954.1 ((bt954.1.length : Int) != (bt939.1.length : Int))) else (glisterlaw04_CipherLost.j1 kj7 t894 t895 bt907.2.1 bt907.2.2 bt923.2.1 bt923.2.2 bt939.1 bt954.1 true)) else (glisterlaw04_CipherLost.j1 kj7 t894 t895 bt907.2.1 bt907.2.2 bt923.2.1 bt923.2.2 bt939.1 bt954.1 true)) else (glisterlaw04_CipherLost.j1 kj7 t894 t895 bt907.2.1 bt907.2.2 bt923.2.1 bt923.2.2 bt939.1 bt954.1 true))))))))))))) = some r := H
      have A39 := Sd.mk A390
      clear A390
      obtain ⟨t904, A400, H⟩ := Option.bind_eq_some_iff.mp H
      have A40 := Sd.mk A400
      clear A400
      replace H := Option.bind_eq_some_iff.mp H
      obtain ⟨⟨t907, t910, t911⟩, A410, H⟩ := H
      replace H : ((glisterlaw04_Book.f kj7 a0_0 a0_1 l0_2 l0_3).bind fun bt912 => ((glisterlaw04_Losses.f kj7 l1).bind fun t920 => ((cipher_Plan.f bt912.1 bt912.2.1 bt912.2.2.1 bt912.2.2.2 t920 (ji35)).bind fun bt923 => ((glisterlaw04_Book.f kj7 a0_0 a0_1 l0_2 l0_3).bind fun bt928 => ((glisterlaw04_Losses.f kj7 l1).bind fun t936 => ((cipher_Exposed.f kj7 bt928.1 bt928.2.1 bt928.2.2.1 bt928.2.2.2 t936).bind fun bt939 => ((glisterlaw04_Book.f kj7 a0_0 a0_1 l0_2 l0_3).bind fun bt943 => ((glisterlaw04_Losses.f kj7 y874).bind fun t951 => ((cipher_Exposed.f kj7 bt943.1 bt943.2.1 bt943.2.2.1 bt943.2.2.2 t951).bind fun bt954 => (if bt939.2 = 0 then (if bt954.2 = 0 then (if (bt939.1.length : Int) = (l0_3.length : Int) then (glisterlaw04_CipherLost.j1 kj7 t894 t895 t910 t911 bt923.2.1 bt923.2.2 bt939.1 bt954.1 ((bt954.1.length : Int) != (bt939.1.length : Int))) else (glisterlaw04_CipherLost.j1 kj7 t894 t895 t910 t911 bt923.2.1 bt923.2.2 bt939.1 bt954.1 true)) else (glisterlaw04_CipherLost.j1 kj7 t894 t895 t910 t911 bt923.2.1 bt923.2.2 bt939.1 bt954.1 true)) else (glisterlaw04_CipherLost.j1 kj7 t894 t895 t910 t911 bt923.2.1 bt923.2.2 bt939.1 bt954.1 true))))))))))) = some r := H
      have A41 := Sd.mk A410
      clear A410
      replace H := Option.bind_eq_some_iff.mp H
      obtain ⟨⟨t912, t913, t914, t917⟩, A420, H⟩ := H
      replace H : ((glisterlaw04_Losses.f kj7 l1).bind fun t920 => ((cipher_Plan.f t912 t913 t914 t917 t920 (ji35)).bind fun bt923 => ((glisterlaw04_Book.f kj7 a0_0 a0_1 l0_2 l0_3).bind fun bt928 => ((glisterlaw04_Losses.f kj7 l1).bind fun t936 => ((cipher_Exposed.f kj7 bt928.1 bt928.2.1 bt928.2.2.1 bt928.2.2.2 t936).bind fun bt939 => ((glisterlaw04_Book.f kj7 a0_0 a0_1 l0_2 l0_3).bind fun bt943 => ((glisterlaw04_Losses.f kj7 y874).bind fun t951 => ((cipher_Exposed.f kj7 bt943.1 bt943.2.1 bt943.2.2.1 bt943.2.2.2 t951).bind fun bt954 => (if bt939.2 = 0 then (if bt954.2 = 0 then (if (bt939.1.length : Int) = (l0_3.length : Int) then (glisterlaw04_CipherLost.j1 kj7 t894 t895 t910 t911 bt923.2.1 bt923.2.2 bt939.1 bt954.1 ((bt954.1.length : Int) != (bt939.1.length : Int))) else (glisterlaw04_CipherLost.j1 kj7 t894 t895 t910 t911 bt923.2.1 bt923.2.2 bt939.1 bt954.1 true)) else (glisterlaw04_CipherLost.j1 kj7 t894 t895 t910 t911 bt923.2.1 bt923.2.2 bt939.1 bt954.1 true)) else (glisterlaw04_CipherLost.j1 kj7 t894 t895 t910 t911 bt923.2.1 bt923.2.2 bt939.1 bt954.1 true)))))))))) = some r := H
      have A42 := Sd.mk A420
      clear A420
      obtain ⟨t920, A430, H⟩ := Option.bind_eq_some_iff.mp H
      have A43 := Sd.mk A430
      clear A430
      replace H := Option.bind_eq_some_iff.mp H
      obtain ⟨⟨t923, t926, t927⟩, A440, H⟩ := H
      replace H : ((glisterlaw04_Book.f kj7 a0_0 a0_1 l0_2 l0_3).bind fun bt928 => ((glisterlaw04_Losses.f kj7 l1).bind fun t936 => ((cipher_Exposed.f kj7 bt928.1 bt928.2.1 bt928.2.2.1 bt928.2.2.2 t936).bind fun bt939 => ((glisterlaw04_Book.f kj7 a0_0 a0_1 l0_2 l0_3).bind fun bt943 => ((glisterlaw04_Losses.f kj7 y874).bind fun t951 => ((cipher_Exposed.f kj7 bt943.1 bt943.2.1 bt943.2.2.1 bt943.2.2.2 t951).bind fun bt954 => (if bt939.2 = 0 then (if bt954.2 = 0 then (if (bt939.1.length : Int) = (l0_3.length : Int) then (glisterlaw04_CipherLost.j1 kj7 t894 t895 t910 t911 t926 t927 bt939.1 bt954.1 ((bt954.1.length : Int) != (bt939.1.length : Int))) else (glisterlaw04_CipherLost.j1 kj7 t894 t895 t910 t911 t926 t927 bt939.1 bt954.1 true)) else (glisterlaw04_CipherLost.j1 kj7 t894 t895 t910 t911 t926 t927 bt939.1 bt954.1 true)) else (glisterlaw04_CipherLost.j1 kj7 t894 t895 t910 t911 t926 t927 bt939.1 bt954.1 true)))))))) = some r := H
      have A44 := Sd.mk A440
      clear A440
      replace H := Option.bind_eq_some_iff.mp H
      obtain ⟨⟨t928, t929, t930, t933⟩, A450, H⟩ := H
      replace H : ((glisterlaw04_Losses.f kj7 l1).bind fun t936 => ((cipher_Exposed.f kj7 t928 t929 t930 t933 t936).bind fun bt939 => ((glisterlaw04_Book.f kj7 a0_0 a0_1 l0_2 l0_3).bind fun bt943 => ((glisterlaw04_Losses.f kj7 y874).bind fun t951 => ((cipher_Exposed.f kj7 bt943.1 bt943.2.1 bt943.2.2.1 bt943.2.2.2 t951).bind fun bt954 => (if bt939.2 = 0 then (if bt954.2 = 0 then (if (bt939.1.length : Int) = (l0_3.length : Int) then (glisterlaw04_CipherLost.j1 kj7 t894 t895 t910 t911 t926 t927 bt939.1 bt954.1 ((bt954.1.length : Int) != (bt939.1.length : Int))) else (glisterlaw04_CipherLost.j1 kj7 t894 t895 t910 t911 t926 t927 bt939.1 bt954.1 true)) else (glisterlaw04_CipherLost.j1 kj7 t894 t895 t910 t911 t926 t927 bt939.1 bt954.1 true)) else (glisterlaw04_CipherLost.j1 kj7 t894 t895 t910 t911 t926 t927 bt939.1 bt954.1 true))))))) = some r := H
      have A45 := Sd.mk A450
      clear A450
      obtain ⟨t936, A460, H⟩ := Option.bind_eq_some_iff.mp H
      have A46 := Sd.mk A460
      clear A460
      replace H := Option.bind_eq_some_iff.mp H
      obtain ⟨⟨t939, t942⟩, A470, H⟩ := H
      replace H : ((glisterlaw04_Book.f kj7 a0_0 a0_1 l0_2 l0_3).bind fun bt943 => ((glisterlaw04_Losses.f kj7 y874).bind fun t951 => ((cipher_Exposed.f kj7 bt943.1 bt943.2.1 bt943.2.2.1 bt943.2.2.2 t951).bind fun bt954 => (if t942 = 0 then (if bt954.2 = 0 then (if (t939.length : Int) = (l0_3.length : Int) then (glisterlaw04_CipherLost.j1 kj7 t894 t895 t910 t911 t926 t927 t939 bt954.1 ((bt954.1.length : Int) != (t939.length : Int))) else (glisterlaw04_CipherLost.j1 kj7 t894 t895 t910 t911 t926 t927 t939 bt954.1 true)) else (glisterlaw04_CipherLost.j1 kj7 t894 t895 t910 t911 t926 t927 t939 bt954.1 true)) else (glisterlaw04_CipherLost.j1 kj7 t894 t895 t910 t911 t926 t927 t939 bt954.1 true))))) = some r := H
      have A47 := Sd.mk A470
      clear A470
      replace H := Option.bind_eq_some_iff.mp H
      obtain ⟨⟨t943, t944, t945, t948⟩, A480, H⟩ := H
      replace H : ((glisterlaw04_Losses.f kj7 y874).bind fun t951 => ((cipher_Exposed.f kj7 t943 t944 t945 t948 t951).bind fun bt954 => (if t942 = 0 then (if bt954.2 = 0 then (if (t939.length : Int) = (l0_3.length : Int) then (glisterlaw04_CipherLost.j1 kj7 t894 t895 t910 t911 t926 t927 t939 bt954.1 ((bt954.1.length : Int) != (t939.length : Int))) else (glisterlaw04_CipherLost.j1 kj7 t894 t895 t910 t911 t926 t927 t939 bt954.1 true)) else (glisterlaw04_CipherLost.j1 kj7 t894 t895 t910 t911 t926 t927 t939 bt954.1 true)) else (glisterlaw04_CipherLost.j1 kj7 t894 t895 t910 t911 t926 t927 t939 bt954.1 true)))) = some r := H
      have A48 := Sd.mk A480
      clear A480
      obtain ⟨t951, A490, H⟩ := Option.bind_eq_some_iff.mp H
      have A49 := Sd.mk A490
      clear A490
      replace H := Option.bind_eq_some_iff.mp H
      obtain ⟨⟨t954, t957⟩, A500, H⟩ := H
      replace H : (if t942 = 0 then (if t957 = 0 then (if (t939.length : Int) = (l0_3.length : Int) then (glisterlaw04_CipherLost.j1 kj7 t894 t895 t910 t911 t926 t927 t939 t954 ((t954.length : Int) != (t939.length : Int))) else (glisterlaw04_CipherLost.j1 kj7 t894 t895 t910 t911 t926 t927 t939 t954 true)) else (glisterlaw04_CipherLost.j1 kj7 t894 t895 t910 t911 t926 t927 t939 t954 true)) else (glisterlaw04_CipherLost.j1 kj7 t894 t895 t910 t911 t926 t927 t939 t954 true)) = some r := H
      have A50 := Sd.mk A500
      clear A500
      have HC51 := Sd.mk H
      clear H
      have hnb52 := NB863_864.1
      have hnc52 := NB864_863.1
      have z_53_0 : wc.cell? ⟨gb863, 0, none⟩ = some (.int .i64 a0_0) := (kC BK863.1 0).trans rfl
      have z_53_1 : wc.cell? ⟨gb863, 1, none⟩ = some (.int .i64 a0_1) := (kC BK863.1 1).trans rfl
      have z_53_2 : wc.cell? ⟨gb863, 2, none⟩ = some (.slice A0_2 l0_2.length c0_2) := (kC BK863.1 2).trans rfl
      have z_53_3 : wc.cell? ⟨gb863, 3, none⟩ = some (.slice A0_3 l0_3.length c0_3) := (kC BK863.1 3).trans rfl
      go_upto_region 11 with (first | ((with_reducible refine gate_callee (f := 19) rfl ?_); refine goesL_ (some 56) rfl rfl Try.func19 (by kernel_rfl) rfl #[.agg #[.int .i64 a0_0, .int .i64 a0_1, .slice A0_2 l0_2.length c0_2, .slice A0_3 l0_3.length c0_3]] rfl (by (try simp only [List.map_toArray, List.map_cons, List.map_nil]); first | rfl ) ?_; (with_reducible refine (glisterlaw04_Book.calls kj7 a0_0 a0_1 _ _ l0_2 _ _ l0_3 t880 t881 t882 t885 _ ?side1 ?side2 ?side3 ?side4 A36.1).mono ?_); (case side1 => repeat (first | exact (Kd.C_below HR0_2.1 HB.1) )); (case side2 => exact HC0_2.1); (case side3 => repeat (first | exact (Kd.C_below HR0_3.1 HB.1) )); (case side4 => exact HC0_3.1); rintro e w54 ⟨v883, v886, rfl, ho0, ho1, hb⟩; refine ⟨_, rfl, ?_⟩; replace HO_11 := Sd.mk (Kd.R_below (by (with_reducible repeat (fail)); exact HO_11.1) hb); have HO884 := Sd.mk (Kd.R_lower ho0 (bZ (by repeat (first | (with_reducible first | exact HB.1 ) )))); have HO887 := Sd.mk (Kd.R_lower ho1 (bZ (by repeat (first | (with_reducible first | exact HB.1 ) )))); replace BK863 := Sd.mk (kB (g := gb863) (o := .cells #[.int .i64 a0_0, .int .i64 a0_1, .slice A0_2 l0_2.length c0_2, .slice A0_3 l0_3.length c0_3] 25 (0, 0)) (by (with_reducible repeat (fail)); exact BK863.1) hb); replace BK864 := Sd.mk (kB (g := gb864) (o := .cells #[.int .i64 a2_0, .int .i64 a2_1] 58 (0, 0)) (by (with_reducible repeat (fail)); exact BK864.1) hb); replace HB := Sd.mk (bT (by repeat (first | (with_reducible first | exact HB.1 ) )) hb); (try clear hb); (try clear ho0); (try clear ho1); (try clear A36)) | ((with_reducible refine gate_callee (f := 30) rfl ?_); refine goesL_ (some 58) rfl rfl Try.func30 (by kernel_rfl) rfl #[.slice A1 l1.length c1] rfl (by (try simp only [List.map_toArray, List.map_cons, List.map_nil]); first | rfl ) ?_; (with_reducible refine (glisterlaw04_Losses.calls kj7 _ _ l1 t888 _ ?side1 ?side2 A37.1).mono ?_); (case side1 => repeat (first | exact (Kd.C_below HR1.1 HB.1) )); (case side2 => exact HC1.1); rintro e w55 ⟨v889, rfl, ho0, hb⟩; refine ⟨_, rfl, ?_⟩; replace HO_11 := Sd.mk (Kd.R_below (by (with_reducible repeat (fail)); exact HO_11.1) hb); replace HO884 := Sd.mk (Kd.R_below (by (with_reducible repeat (fail)); exact HO884.1) hb); replace HO887 := Sd.mk (Kd.R_below (by (with_reducible repeat (fail)); exact HO887.1) hb); have HO890 := Sd.mk (Kd.R_lower ho0 (bZ (by repeat (first | (with_reducible first | exact HB.1 ) )))); replace BK863 := Sd.mk (kB (g := gb863) (o := .cells #[.int .i64 a0_0, .int .i64 a0_1, .slice A0_2 l0_2.length c0_2, .slice A0_3 l0_3.length c0_3] 25 (0, 0)) (by (with_reducible repeat (fail)); exact BK863.1) hb); replace BK864 := Sd.mk (kB (g := gb864) (o := .cells #[.int .i64 a2_0, .int .i64 a2_1] 58 (0, 0)) (by (with_reducible repeat (fail)); exact BK864.1) hb); replace HB := Sd.mk (bT (by repeat (first | (with_reducible first | exact HB.1 ) )) hb); (try clear hb); (try clear ho0); obtain ⟨Ao56, co56, eo56⟩ := Kd.R_slice HO884.1; subst eo56; obtain ⟨Ao57, co57, eo57⟩ := Kd.R_slice HO887.1; subst eo57; obtain ⟨Ao58, co58, eo58⟩ := Kd.R_slice HO890.1; subst eo58; (try clear A37)) | ((with_reducible refine gate_callee (f := 35) rfl ?_); refine goesL_ (some 60) rfl rfl Try.func35 (by kernel_rfl) rfl #[.agg #[.int .i64 t880, .int .i64 t881, .slice Ao56 t882.length co56, .slice Ao57 t885.length co57], .slice Ao58 t888.length co58, .int .i64 (Int.tmod (wrap64 (a3)) 9)] rfl (by (try simp only [List.map_toArray, List.map_cons, List.map_nil]); first | rfl ) ?_; (with_reducible refine (cipher_Plan.calls t880 t881 _ _ t882 _ _ t885 _ _ t888 (Int.tmod (wrap64 (a3)) 9) t891 t894 t895 _ ?side1 ?side2 ?side3 ?side4 ?side5 ?side6 A38.1).mono ?_); (case side1 => repeat (first | exact (Kd.R_reads' HO884.1).2.2 )); (case side2 => exact (Kd.R_reads' HO884.1).2.1); (case side3 => repeat (first | exact (Kd.R_reads' HO887.1).2.2 )); (case side4 => exact (Kd.R_reads' HO887.1).2.1); (case side5 => repeat (first | exact (Kd.R_reads' HO890.1).2.2 )); (case side6 => exact (Kd.R_reads' HO890.1).2.1); rintro e w59 ⟨v892, rfl, ho0, hb⟩; refine ⟨_, rfl, ?_⟩; replace HO_11 := Sd.mk (Kd.R_below (by (with_reducible repeat (fail)); exact HO_11.1) hb); replace HO884 := Sd.mk (Kd.R_below (by (with_reducible repeat (fail)); exact HO884.1) hb); replace HO890 := Sd.mk (Kd.R_below (by (with_reducible repeat (fail)); exact HO890.1) hb); have HO893 := Sd.mk (Kd.R_lower (Kd.R_new' ho0 (Kd.R_lt (by (with_reducible repeat (fail)); exact HO887.1))) (bZ (by repeat (first | (with_reducible first | exact HB.1 ) )))); replace HO887 := Sd.mk (Kd.R_elder' (by (with_reducible repeat (fail)); exact HO887.1) (Kd.R_base ho0) hb); replace BK863 := Sd.mk (kB (g := gb863) (o := .cells #[.int .i64 a0_0, .int .i64 a0_1, .slice A0_2 l0_2.length c0_2, .slice A0_3 l0_3.length c0_3] 25 (0, 0)) (by (with_reducible repeat (fail)); exact BK863.1) hb); replace BK864 := Sd.mk (kB (g := gb864) (o := .cells #[.int .i64 a2_0, .int .i64 a2_1] 58 (0, 0)) (by (with_reducible repeat (fail)); exact BK864.1) hb); replace HB := Sd.mk (bT (by repeat (first | (with_reducible first | exact HB.1 ) )) hb); (try clear hb); (try clear ho0); have z_60_0 : w59.cell? ⟨gb863, 0, none⟩ = some (.int .i64 a0_0) := (kC BK863.1 0).trans rfl; have z_60_1 : w59.cell? ⟨gb863, 1, none⟩ = some (.int .i64 a0_1) := (kC BK863.1 1).trans rfl; have z_60_2 : w59.cell? ⟨gb863, 2, none⟩ = some (.slice A0_2 l0_2.length c0_2) := (kC BK863.1 2).trans rfl; have z_60_3 : w59.cell? ⟨gb863, 3, none⟩ = some (.slice A0_3 l0_3.length c0_3) := (kC BK863.1 3).trans rfl; (try clear A38)) | ((with_reducible refine gate_callee (f := 19) rfl ?_); refine goesL_ (some 66) rfl rfl Try.func19 (by kernel_rfl) rfl #[.agg #[.int .i64 a0_0, .int .i64 a0_1, .slice A0_2 l0_2.length c0_2, .slice A0_3 l0_3.length c0_3]] rfl (by (try simp only [List.map_toArray, List.map_cons, List.map_nil]); first | rfl ) ?_; (with_reducible refine (glisterlaw04_Book.calls kj7 a0_0 a0_1 _ _ l0_2 _ _ l0_3 t896 t897 t898 t901 _ ?side1 ?side2 ?side3 ?side4 A39.1).mono ?_); (case side1 => repeat (first | exact (Kd.C_below HR0_2.1 HB.1) )); (case side2 => exact HC0_2.1); (case side3 => repeat (first | exact (Kd.C_below HR0_3.1 HB.1) )); (case side4 => exact HC0_3.1); rintro e w61 ⟨v899, v902, rfl, ho0, ho1, hb⟩; refine ⟨_, rfl, ?_⟩; replace HO_11 := Sd.mk (Kd.R_below (by (with_reducible repeat (fail)); exact HO_11.1) hb); replace HO890 := Sd.mk (Kd.R_below (by (with_reducible repeat (fail)); exact HO890.1) hb); have HO900 := Sd.mk (Kd.R_lower (Kd.R_new' ho0 (Kd.R_lt (by (with_reducible repeat (fail)); exact HO884.1))) (bZ (by repeat (first | (with_reducible first | exact HB.1 ) )))); replace HO884 := Sd.mk (Kd.R_elder' (by (with_reducible repeat (fail)); exact HO884.1) (Kd.R_base ho0) hb); have HO903 := Sd.mk (Kd.R_lower (Kd.R_new' (Kd.R_new' ho1 (Kd.R_lt (by (with_reducible repeat (fail)); exact HO887.1))) (Kd.R_lt (by (with_reducible repeat (fail)); exact HO893.1))) (bZ (by repeat (first | (with_reducible first | exact HB.1 ) )))); replace HO887 := Sd.mk (Kd.R_elder' (by (with_reducible repeat (fail)); exact HO887.1) (Kd.R_base ho1) hb); replace HO893 := Sd.mk (Kd.R_elder' (by (with_reducible repeat (fail)); exact HO893.1) (Kd.R_base ho1) hb); replace BK863 := Sd.mk (kB (g := gb863) (o := .cells #[.int .i64 a0_0, .int .i64 a0_1, .slice A0_2 l0_2.length c0_2, .slice A0_3 l0_3.length c0_3] 25 (0, 0)) (by (with_reducible repeat (fail)); exact BK863.1) hb); replace BK864 := Sd.mk (kB (g := gb864) (o := .cells #[.int .i64 a2_0, .int .i64 a2_1] 58 (0, 0)) (by (with_reducible repeat (fail)); exact BK864.1) hb); replace HB := Sd.mk (bT (by repeat (first | (with_reducible first | exact HB.1 ) )) hb); (try clear hb); (try clear ho0); (try clear ho1); obtain ⟨Ao62, co62, eo62⟩ := Kd.R_slice HO_11.1; subst eo62; (try clear A39)) | ((with_reducible refine gate_callee (f := 30) rfl ?_); refine goesL_ (some 68) rfl rfl Try.func30 (by kernel_rfl) rfl #[.slice Ao62 y874.length co62] rfl (by (try simp only [List.map_toArray, List.map_cons, List.map_nil]); first | rfl ) ?_; (with_reducible refine (glisterlaw04_Losses.calls kj7 _ _ y874 t904 _ ?side1 ?side2 A40.1).mono ?_); (case side1 => repeat (first | exact (Kd.R_reads' HO_11.1).2.2 )); (case side2 => exact (Kd.R_reads' HO_11.1).2.1); rintro e w63 ⟨v905, rfl, ho0, hb⟩; refine ⟨_, rfl, ?_⟩; replace HO_11 := Sd.mk (Kd.R_below (by (with_reducible repeat (fail)); exact HO_11.1) hb); replace HO884 := Sd.mk (Kd.R_below (by (with_reducible repeat (fail)); exact HO884.1) hb); replace HO887 := Sd.mk (Kd.R_below (by (with_reducible repeat (fail)); exact HO887.1) hb); replace HO893 := Sd.mk (Kd.R_below (by (with_reducible repeat (fail)); exact HO893.1) hb); replace HO900 := Sd.mk (Kd.R_below (by (with_reducible repeat (fail)); exact HO900.1) hb); replace HO903 := Sd.mk (Kd.R_below (by (with_reducible repeat (fail)); exact HO903.1) hb); have HO906 := Sd.mk (Kd.R_lower (Kd.R_new' ho0 (Kd.R_lt (by (with_reducible repeat (fail)); exact HO890.1))) (bZ (by repeat (first | (with_reducible first | exact HB.1 ) )))); replace HO890 := Sd.mk (Kd.R_elder' (by (with_reducible repeat (fail)); exact HO890.1) (Kd.R_base ho0) hb); replace BK863 := Sd.mk (kB (g := gb863) (o := .cells #[.int .i64 a0_0, .int .i64 a0_1, .slice A0_2 l0_2.length c0_2, .slice A0_3 l0_3.length c0_3] 25 (0, 0)) (by (with_reducible repeat (fail)); exact BK863.1) hb); replace BK864 := Sd.mk (kB (g := gb864) (o := .cells #[.int .i64 a2_0, .int .i64 a2_1] 58 (0, 0)) (by (with_reducible repeat (fail)); exact BK864.1) hb); replace HB := Sd.mk (bT (by repeat (first | (with_reducible first | exact HB.1 ) )) hb); (try clear hb); (try clear ho0); obtain ⟨Ao64, co64, eo64⟩ := Kd.R_slice HO900.1; subst eo64; obtain ⟨Ao65, co65, eo65⟩ := Kd.R_slice HO903.1; subst eo65; obtain ⟨Ao66, co66, eo66⟩ := Kd.R_slice HO906.1; subst eo66; (try clear A40)) | ((with_reducible refine gate_callee (f := 35) rfl ?_); refine goesL_ (some 70) rfl rfl Try.func35 (by kernel_rfl) rfl #[.agg #[.int .i64 t896, .int .i64 t897, .slice Ao64 t898.length co64, .slice Ao65 t901.length co65], .slice Ao66 t904.length co66, .int .i64 (Int.tmod (wrap64 (a3)) 9)] rfl (by (try simp only [List.map_toArray, List.map_cons, List.map_nil]); first | rfl ) ?_; (with_reducible refine (cipher_Plan.calls t896 t897 _ _ t898 _ _ t901 _ _ t904 (Int.tmod (wrap64 (a3)) 9) t907 t910 t911 _ ?side1 ?side2 ?side3 ?side4 ?side5 ?side6 A41.1).mono ?_); (case side1 => repeat (first | exact (Kd.R_reads' HO900.1).2.2 )); (case side2 => exact (Kd.R_reads' HO900.1).2.1); (case side3 => repeat (first | exact (Kd.R_reads' HO903.1).2.2 )); (case side4 => exact (Kd.R_reads' HO903.1).2.1); (case side5 => repeat (first | exact (Kd.R_reads' HO906.1).2.2 )); (case side6 => exact (Kd.R_reads' HO906.1).2.1); rintro e w67 ⟨v908, rfl, ho0, hb⟩; refine ⟨_, rfl, ?_⟩; replace HO_11 := Sd.mk (Kd.R_below (by (with_reducible repeat (fail)); exact HO_11.1) hb); replace HO884 := Sd.mk (Kd.R_below (by (with_reducible repeat (fail)); exact HO884.1) hb); replace HO890 := Sd.mk (Kd.R_below (by (with_reducible repeat (fail)); exact HO890.1) hb); replace HO900 := Sd.mk (Kd.R_below (by (with_reducible repeat (fail)); exact HO900.1) hb); replace HO906 := Sd.mk (Kd.R_below (by (with_reducible repeat (fail)); exact HO906.1) hb); have HO909 := Sd.mk (Kd.R_lower (Kd.R_new' (Kd.R_new' (Kd.R_new' ho0 (Kd.R_lt (by (with_reducible repeat (fail)); exact HO887.1))) (Kd.R_lt (by (with_reducible repeat (fail)); exact HO893.1))) (Kd.R_lt (by (with_reducible repeat (fail)); exact HO903.1))) (bZ (by repeat (first | (with_reducible first | exact HB.1 ) )))); replace HO887 := Sd.mk (Kd.R_elder' (by (with_reducible repeat (fail)); exact HO887.1) (Kd.R_base ho0) hb); replace HO893 := Sd.mk (Kd.R_elder' (by (with_reducible repeat (fail)); exact HO893.1) (Kd.R_base ho0) hb); replace HO903 := Sd.mk (Kd.R_elder' (by (with_reducible repeat (fail)); exact HO903.1) (Kd.R_base ho0) hb); replace BK863 := Sd.mk (kB (g := gb863) (o := .cells #[.int .i64 a0_0, .int .i64 a0_1, .slice A0_2 l0_2.length c0_2, .slice A0_3 l0_3.length c0_3] 25 (0, 0)) (by (with_reducible repeat (fail)); exact BK863.1) hb); replace BK864 := Sd.mk (kB (g := gb864) (o := .cells #[.int .i64 a2_0, .int .i64 a2_1] 58 (0, 0)) (by (with_reducible repeat (fail)); exact BK864.1) hb); replace HB := Sd.mk (bT (by repeat (first | (with_reducible first | exact HB.1 ) )) hb); (try clear hb); (try clear ho0); have z_68_0 : w67.cell? ⟨gb863, 0, none⟩ = some (.int .i64 a0_0) := (kC BK863.1 0).trans rfl; have z_68_1 : w67.cell? ⟨gb863, 1, none⟩ = some (.int .i64 a0_1) := (kC BK863.1 1).trans rfl; have z_68_2 : w67.cell? ⟨gb863, 2, none⟩ = some (.slice A0_2 l0_2.length c0_2) := (kC BK863.1 2).trans rfl; have z_68_3 : w67.cell? ⟨gb863, 3, none⟩ = some (.slice A0_3 l0_3.length c0_3) := (kC BK863.1 3).trans rfl; (try clear A41)) | ((with_reducible refine gate_callee (f := 19) rfl ?_); refine goesL_ (some 76) rfl rfl Try.func19 (by kernel_rfl) rfl #[.agg #[.int .i64 a0_0, .int .i64 a0_1, .slice A0_2 l0_2.length c0_2, .slice A0_3 l0_3.length c0_3]] rfl (by (try simp only [List.map_toArray, List.map_cons, List.map_nil]); first | rfl ) ?_; (with_reducible refine (glisterlaw04_Book.calls kj7 a0_0 a0_1 _ _ l0_2 _ _ l0_3 t912 t913 t914 t917 _ ?side1 ?side2 ?side3 ?side4 A42.1).mono ?_); (case side1 => repeat (first | exact (Kd.C_below HR0_2.1 HB.1) )); (case side2 => exact HC0_2.1); (case side3 => repeat (first | exact (Kd.C_below HR0_3.1 HB.1) )); (case side4 => exact HC0_3.1); rintro e w69 ⟨v915, v918, rfl, ho0, ho1, hb⟩; refine ⟨_, rfl, ?_⟩; replace HO_11 := Sd.mk (Kd.R_below (by (with_reducible repeat (fail)); exact HO_11.1) hb); replace HO890 := Sd.mk (Kd.R_below (by (with_reducible repeat (fail)); exact HO890.1) hb); replace HO906 := Sd.mk (Kd.R_below (by (with_reducible repeat (fail)); exact HO906.1) hb); have HO916 := Sd.mk (Kd.R_lower (Kd.R_new' (Kd.R_new' ho0 (Kd.R_lt (by (with_reducible repeat (fail)); exact HO884.1))) (Kd.R_lt (by (with_reducible repeat (fail)); exact HO900.1))) (bZ (by repeat (first | (with_reducible first | exact HB.1 ) )))); replace HO884 := Sd.mk (Kd.R_elder' (by (with_reducible repeat (fail)); exact HO884.1) (Kd.R_base ho0) hb); replace HO900 := Sd.mk (Kd.R_elder' (by (with_reducible repeat (fail)); exact HO900.1) (Kd.R_base ho0) hb); have HO919 := Sd.mk (Kd.R_lower (Kd.R_new' (Kd.R_new' (Kd.R_new' (Kd.R_new' ho1 (Kd.R_lt (by (with_reducible repeat (fail)); exact HO887.1))) (Kd.R_lt (by (with_reducible repeat (fail)); exact HO893.1))) (Kd.R_lt (by (with_reducible repeat (fail)); exact HO903.1))) (Kd.R_lt (by (with_reducible repeat (fail)); exact HO909.1))) (bZ (by repeat (first | (with_reducible first | exact HB.1 ) )))); replace HO887 := Sd.mk (Kd.R_elder' (by (with_reducible repeat (fail)); exact HO887.1) (Kd.R_base ho1) hb); replace HO893 := Sd.mk (Kd.R_elder' (by (with_reducible repeat (fail)); exact HO893.1) (Kd.R_base ho1) hb); replace HO903 := Sd.mk (Kd.R_elder' (by (with_reducible repeat (fail)); exact HO903.1) (Kd.R_base ho1) hb); replace HO909 := Sd.mk (Kd.R_elder' (by (with_reducible repeat (fail)); exact HO909.1) (Kd.R_base ho1) hb); replace BK863 := Sd.mk (kB (g := gb863) (o := .cells #[.int .i64 a0_0, .int .i64 a0_1, .slice A0_2 l0_2.length c0_2, .slice A0_3 l0_3.length c0_3] 25 (0, 0)) (by (with_reducible repeat (fail)); exact BK863.1) hb); replace BK864 := Sd.mk (kB (g := gb864) (o := .cells #[.int .i64 a2_0, .int .i64 a2_1] 58 (0, 0)) (by (with_reducible repeat (fail)); exact BK864.1) hb); replace HB := Sd.mk (bT (by repeat (first | (with_reducible first | exact HB.1 ) )) hb); (try clear hb); (try clear ho0); (try clear ho1); (try clear A42)) | ((with_reducible refine gate_callee (f := 30) rfl ?_); refine goesL_ (some 78) rfl rfl Try.func30 (by kernel_rfl) rfl #[.slice A1 l1.length c1] rfl (by (try simp only [List.map_toArray, List.map_cons, List.map_nil]); first | rfl ) ?_; (with_reducible refine (glisterlaw04_Losses.calls kj7 _ _ l1 t920 _ ?side1 ?side2 A43.1).mono ?_); (case side1 => repeat (first | exact (Kd.C_below HR1.1 HB.1) )); (case side2 => exact HC1.1); rintro e w70 ⟨v921, rfl, ho0, hb⟩; refine ⟨_, rfl, ?_⟩; have n0_ := Sd.mk (Kd.R_below (by (with_reducible repeat (fail)); exact HO_11.1) hb); have n1_ := Sd.mk (Kd.R_below (by (with_reducible repeat (fail)); exact HO884.1) hb); have n2_ := Sd.mk (Kd.R_below (by (with_reducible repeat (fail)); exact HO887.1) hb); have n3_ := Sd.mk (Kd.R_elder' (by (with_reducible repeat (fail)); exact HO890.1) (Kd.R_base ho0) hb); have n4_ := Sd.mk (Kd.R_below (by (with_reducible repeat (fail)); exact HO893.1) hb); have n5_ := Sd.mk (Kd.R_below (by (with_reducible repeat (fail)); exact HO900.1) hb); have n6_ := Sd.mk (Kd.R_below (by (with_reducible repeat (fail)); exact HO903.1) hb); have n7_ := Sd.mk (Kd.R_elder' (by (with_reducible repeat (fail)); exact HO906.1) (Kd.R_base ho0) hb); have n8_ := Sd.mk (Kd.R_below (by (with_reducible repeat (fail)); exact HO909.1) hb); have n9_ := Sd.mk (Kd.R_below (by (with_reducible repeat (fail)); exact HO916.1) hb); have n10_ := Sd.mk (Kd.R_below (by (with_reducible repeat (fail)); exact HO919.1) hb); have n11_ := Sd.mk (Kd.R_lower (Kd.R_new' (Kd.R_new' ho0 (Kd.R_lt (by (with_reducible repeat (fail)); exact HO890.1))) (Kd.R_lt (by (with_reducible repeat (fail)); exact HO906.1))) (bZ (by repeat (first | (with_reducible first | exact HB.1 ) )))); have n12_ := Sd.mk (kB (g := gb863) (o := .cells #[.int .i64 a0_0, .int .i64 a0_1, .slice A0_2 l0_2.length c0_2, .slice A0_3 l0_3.length c0_3] 25 (0, 0)) (by (with_reducible repeat (fail)); exact BK863.1) hb); have n13_ := Sd.mk (kB (g := gb864) (o := .cells #[.int .i64 a2_0, .int .i64 a2_1] 58 (0, 0)) (by (with_reducible repeat (fail)); exact BK864.1) hb); have n14_ := Sd.mk (bT (by repeat (first | (with_reducible first | exact HB.1 ) )) hb); clear HO_11; clear HO884; clear HO887; clear HO890; clear HO893; clear HO900; clear HO903; clear HO906; clear HO909; clear HO916; clear HO919; clear BK863; clear BK864; clear HB; have HO_11 := n0_; have HO884 := n1_; have HO887 := n2_; have HO890 := n3_; have HO893 := n4_; have HO900 := n5_; have HO903 := n6_; have HO906 := n7_; have HO909 := n8_; have HO916 := n9_; have HO919 := n10_; have HO922 := n11_; have BK863 := n12_; have BK864 := n13_; have HB := n14_; clear n0_ n1_ n2_ n3_ n4_ n5_ n6_ n7_ n8_ n9_ n10_ n11_ n12_ n13_ n14_; (try clear hb); (try clear ho0); obtain ⟨Ao71, co71, eo71⟩ := Kd.R_slice HO916.1; subst eo71; obtain ⟨Ao72, co72, eo72⟩ := Kd.R_slice HO919.1; subst eo72; obtain ⟨Ao73, co73, eo73⟩ := Kd.R_slice HO922.1; subst eo73; (try clear A43)) | ((with_reducible refine gate_callee (f := 35) rfl ?_); refine goesL_ (some 80) rfl rfl Try.func35 (by kernel_rfl) rfl #[.agg #[.int .i64 t912, .int .i64 t913, .slice Ao71 t914.length co71, .slice Ao72 t917.length co72], .slice Ao73 t920.length co73, .int .i64 ji35] rfl (by (try simp only [List.map_toArray, List.map_cons, List.map_nil]); first | rfl ) ?_; (with_reducible refine (cipher_Plan.calls t912 t913 _ _ t914 _ _ t917 _ _ t920 ji35 t923 t926 t927 _ ?side1 ?side2 ?side3 ?side4 ?side5 ?side6 A44.1).mono ?_); (case side1 => repeat (first | exact (Kd.R_reads' HO916.1).2.2 )); (case side2 => exact (Kd.R_reads' HO916.1).2.1); (case side3 => repeat (first | exact (Kd.R_reads' HO919.1).2.2 )); (case side4 => exact (Kd.R_reads' HO919.1).2.1); (case side5 => repeat (first | exact (Kd.R_reads' HO922.1).2.2 )); (case side6 => exact (Kd.R_reads' HO922.1).2.1); rintro e w74 ⟨v924, rfl, ho0, hb⟩; refine ⟨_, rfl, ?_⟩; have n0_ := Sd.mk (Kd.R_below (by (with_reducible repeat (fail)); exact HO_11.1) hb); have n1_ := Sd.mk (Kd.R_below (by (with_reducible repeat (fail)); exact HO884.1) hb); have n2_ := Sd.mk (Kd.R_elder' (by (with_reducible repeat (fail)); exact HO887.1) (Kd.R_base ho0) hb); have n3_ := Sd.mk (Kd.R_below (by (with_reducible repeat (fail)); exact HO890.1) hb); have n4_ := Sd.mk (Kd.R_elder' (by (with_reducible repeat (fail)); exact HO893.1) (Kd.R_base ho0) hb); have n5_ := Sd.mk (Kd.R_below (by (with_reducible repeat (fail)); exact HO900.1) hb); have n6_ := Sd.mk (Kd.R_elder' (by (with_reducible repeat (fail)); exact HO903.1) (Kd.R_base ho0) hb); have n7_ := Sd.mk (Kd.R_below (by (with_reducible repeat (fail)); exact HO906.1) hb); have n8_ := Sd.mk (Kd.R_elder' (by (with_reducible repeat (fail)); exact HO909.1) (Kd.R_base ho0) hb); have n9_ := Sd.mk (Kd.R_below (by (with_reducible repeat (fail)); exact HO916.1) hb); have n10_ := Sd.mk (Kd.R_elder' (by (with_reducible repeat (fail)); exact HO919.1) (Kd.R_base ho0) hb); have n11_ := Sd.mk (Kd.R_below (by (with_reducible repeat (fail)); exact HO922.1) hb); have n12_ := Sd.mk (Kd.R_lower (Kd.R_new' (Kd.R_new' (Kd.R_new' (Kd.R_new' (Kd.R_new' ho0 (Kd.R_lt (by (with_reducible repeat (fail)); exact HO887.1))) (Kd.R_lt (by (with_reducible repeat (fail)); exact HO893.1))) (Kd.R_lt (by (with_reducible repeat (fail)); exact HO903.1))) (Kd.R_lt (by (with_reducible repeat (fail)); exact HO909.1))) (Kd.R_lt (by (with_reducible repeat (fail)); exact HO919.1))) (bZ (by repeat (first | (with_reducible first | exact HB.1 ) )))); have n13_ := Sd.mk (kB (g := gb863) (o := .cells #[.int .i64 a0_0, .int .i64 a0_1, .slice A0_2 l0_2.length c0_2, .slice A0_3 l0_3.length c0_3] 25 (0, 0)) (by (with_reducible repeat (fail)); exact BK863.1) hb); have n14_ := Sd.mk (kB (g := gb864) (o := .cells #[.int .i64 a2_0, .int .i64 a2_1] 58 (0, 0)) (by (with_reducible repeat (fail)); exact BK864.1) hb); have n15_ := Sd.mk (bT (by repeat (first | (with_reducible first | exact HB.1 ) )) hb); clear HO_11; clear HO884; clear HO887; clear HO890; clear HO893; clear HO900; clear HO903; clear HO906; clear HO909; clear HO916; clear HO919; clear HO922; clear BK863; clear BK864; clear HB; have HO_11 := n0_; have HO884 := n1_; have HO887 := n2_; have HO890 := n3_; have HO893 := n4_; have HO900 := n5_; have HO903 := n6_; have HO906 := n7_; have HO909 := n8_; have HO916 := n9_; have HO919 := n10_; have HO922 := n11_; have HO925 := n12_; have BK863 := n13_; have BK864 := n14_; have HB := n15_; clear n0_ n1_ n2_ n3_ n4_ n5_ n6_ n7_ n8_ n9_ n10_ n11_ n12_ n13_ n14_ n15_; (try clear hb); (try clear ho0); have z_75_0 : w74.cell? ⟨gb863, 0, none⟩ = some (.int .i64 a0_0) := (kC BK863.1 0).trans rfl; have z_75_1 : w74.cell? ⟨gb863, 1, none⟩ = some (.int .i64 a0_1) := (kC BK863.1 1).trans rfl; have z_75_2 : w74.cell? ⟨gb863, 2, none⟩ = some (.slice A0_2 l0_2.length c0_2) := (kC BK863.1 2).trans rfl; have z_75_3 : w74.cell? ⟨gb863, 3, none⟩ = some (.slice A0_3 l0_3.length c0_3) := (kC BK863.1 3).trans rfl; (try clear A44)) | ((with_reducible refine gate_callee (f := 19) rfl ?_); refine goesL_ (some 86) rfl rfl Try.func19 (by kernel_rfl) rfl #[.agg #[.int .i64 a0_0, .int .i64 a0_1, .slice A0_2 l0_2.length c0_2, .slice A0_3 l0_3.length c0_3]] rfl (by (try simp only [List.map_toArray, List.map_cons, List.map_nil]); first | rfl ) ?_; (with_reducible refine (glisterlaw04_Book.calls kj7 a0_0 a0_1 _ _ l0_2 _ _ l0_3 t928 t929 t930 t933 _ ?side1 ?side2 ?side3 ?side4 A45.1).mono ?_); (case side1 => repeat (first | exact (Kd.C_below HR0_2.1 HB.1) )); (case side2 => exact HC0_2.1); (case side3 => repeat (first | exact (Kd.C_below HR0_3.1 HB.1) )); (case side4 => exact HC0_3.1); rintro e w76 ⟨v931, v934, rfl, ho0, ho1, hb⟩; refine ⟨_, rfl, ?_⟩; have n0_ := Sd.mk (Kd.R_below (by (with_reducible repeat (fail)); exact HO_11.1) hb); have n1_ := Sd.mk (Kd.R_elder' (by (with_reducible repeat (fail)); exact HO884.1) (Kd.R_base ho0) hb); have n2_ := Sd.mk (Kd.R_elder' (by (with_reducible repeat (fail)); exact HO887.1) (Kd.R_base ho1) hb); have n3_ := Sd.mk (Kd.R_below (by (with_reducible repeat (fail)); exact HO890.1) hb); have n4_ := Sd.mk (Kd.R_elder' (by (with_reducible repeat (fail)); exact HO893.1) (Kd.R_base ho1) hb); have n5_ := Sd.mk (Kd.R_elder' (by (with_reducible repeat (fail)); exact HO900.1) (Kd.R_base ho0) hb); have n6_ := Sd.mk (Kd.R_elder' (by (with_reducible repeat (fail)); exact HO903.1) (Kd.R_base ho1) hb); have n7_ := Sd.mk (Kd.R_below (by (with_reducible repeat (fail)); exact HO906.1) hb); have n8_ := Sd.mk (Kd.R_elder' (by (with_reducible repeat (fail)); exact HO909.1) (Kd.R_base ho1) hb); have n9_ := Sd.mk (Kd.R_elder' (by (with_reducible repeat (fail)); exact HO916.1) (Kd.R_base ho0) hb); have n10_ := Sd.mk (Kd.R_elder' (by (with_reducible repeat (fail)); exact HO919.1) (Kd.R_base ho1) hb); have n11_ := Sd.mk (Kd.R_below (by (with_reducible repeat (fail)); exact HO922.1) hb); have n12_ := Sd.mk (Kd.R_elder' (by (with_reducible repeat (fail)); exact HO925.1) (Kd.R_base ho1) hb); have n13_ := Sd.mk (Kd.R_lower (Kd.R_new' (Kd.R_new' (Kd.R_new' ho0 (Kd.R_lt (by (with_reducible repeat (fail)); exact HO884.1))) (Kd.R_lt (by (with_reducible repeat (fail)); exact HO900.1))) (Kd.R_lt (by (with_reducible repeat (fail)); exact HO916.1))) (bZ (by repeat (first | (with_reducible first | exact HB.1 ) )))); have n14_ := Sd.mk (Kd.R_lower (Kd.R_new' (Kd.R_new' (Kd.R_new' (Kd.R_new' (Kd.R_new' (Kd.R_new' ho1 (Kd.R_lt (by (with_reducible repeat (fail)); exact HO887.1))) (Kd.R_lt (by (with_reducible repeat (fail)); exact HO893.1))) (Kd.R_lt (by (with_reducible repeat (fail)); exact HO903.1))) (Kd.R_lt (by (with_reducible repeat (fail)); exact HO909.1))) (Kd.R_lt (by (with_reducible repeat (fail)); exact HO919.1))) (Kd.R_lt (by (with_reducible repeat (fail)); exact HO925.1))) (bZ (by repeat (first | (with_reducible first | exact HB.1 ) )))); have n15_ := Sd.mk (kB (g := gb863) (o := .cells #[.int .i64 a0_0, .int .i64 a0_1, .slice A0_2 l0_2.length c0_2, .slice A0_3 l0_3.length c0_3] 25 (0, 0)) (by (with_reducible repeat (fail)); exact BK863.1) hb); have n16_ := Sd.mk (kB (g := gb864) (o := .cells #[.int .i64 a2_0, .int .i64 a2_1] 58 (0, 0)) (by (with_reducible repeat (fail)); exact BK864.1) hb); have n17_ := Sd.mk (bT (by repeat (first | (with_reducible first | exact HB.1 ) )) hb); clear HO_11; clear HO884; clear HO887; clear HO890; clear HO893; clear HO900; clear HO903; clear HO906; clear HO909; clear HO916; clear HO919; clear HO922; clear HO925; clear BK863; clear BK864; clear HB; have HO_11 := n0_; have HO884 := n1_; have HO887 := n2_; have HO890 := n3_; have HO893 := n4_; have HO900 := n5_; have HO903 := n6_; have HO906 := n7_; have HO909 := n8_; have HO916 := n9_; have HO919 := n10_; have HO922 := n11_; have HO925 := n12_; have HO932 := n13_; have HO935 := n14_; have BK863 := n15_; have BK864 := n16_; have HB := n17_; clear n0_ n1_ n2_ n3_ n4_ n5_ n6_ n7_ n8_ n9_ n10_ n11_ n12_ n13_ n14_ n15_ n16_ n17_; (try clear hb); (try clear ho0); (try clear ho1); (try clear A45)) | ((with_reducible refine gate_callee (f := 30) rfl ?_); refine goesL_ (some 88) rfl rfl Try.func30 (by kernel_rfl) rfl #[.slice A1 l1.length c1] rfl (by (try simp only [List.map_toArray, List.map_cons, List.map_nil]); first | rfl ) ?_; (with_reducible refine (glisterlaw04_Losses.calls kj7 _ _ l1 t936 _ ?side1 ?side2 A46.1).mono ?_); (case side1 => repeat (first | exact (Kd.C_below HR1.1 HB.1) )); (case side2 => exact HC1.1); rintro e w77 ⟨v937, rfl, ho0, hb⟩; refine ⟨_, rfl, ?_⟩; have n0_ := Sd.mk (Kd.R_below (by (with_reducible repeat (fail)); exact HO_11.1) hb); have n1_ := Sd.mk (Kd.R_below (by (with_reducible repeat (fail)); exact HO884.1) hb); have n2_ := Sd.mk (Kd.R_below (by (with_reducible repeat (fail)); exact HO887.1) hb); have n3_ := Sd.mk (Kd.R_elder' (by (with_reducible repeat (fail)); exact HO890.1) (Kd.R_base ho0) hb); have n4_ := Sd.mk (Kd.R_below (by (with_reducible repeat (fail)); exact HO893.1) hb); have n5_ := Sd.mk (Kd.R_below (by (with_reducible repeat (fail)); exact HO900.1) hb); have n6_ := Sd.mk (Kd.R_below (by (with_reducible repeat (fail)); exact HO903.1) hb); have n7_ := Sd.mk (Kd.R_elder' (by (with_reducible repeat (fail)); exact HO906.1) (Kd.R_base ho0) hb); have n8_ := Sd.mk (Kd.R_below (by (with_reducible repeat (fail)); exact HO909.1) hb); have n9_ := Sd.mk (Kd.R_below (by (with_reducible repeat (fail)); exact HO916.1) hb); have n10_ := Sd.mk (Kd.R_below (by (with_reducible repeat (fail)); exact HO919.1) hb); have n11_ := Sd.mk (Kd.R_elder' (by (with_reducible repeat (fail)); exact HO922.1) (Kd.R_base ho0) hb); have n12_ := Sd.mk (Kd.R_below (by (with_reducible repeat (fail)); exact HO925.1) hb); have n13_ := Sd.mk (Kd.R_below (by (with_reducible repeat (fail)); exact HO932.1) hb); have n14_ := Sd.mk (Kd.R_below (by (with_reducible repeat (fail)); exact HO935.1) hb); have n15_ := Sd.mk (Kd.R_lower (Kd.R_new' (Kd.R_new' (Kd.R_new' ho0 (Kd.R_lt (by (with_reducible repeat (fail)); exact HO890.1))) (Kd.R_lt (by (with_reducible repeat (fail)); exact HO906.1))) (Kd.R_lt (by (with_reducible repeat (fail)); exact HO922.1))) (bZ (by repeat (first | (with_reducible first | exact HB.1 ) )))); have n16_ := Sd.mk (kB (g := gb863) (o := .cells #[.int .i64 a0_0, .int .i64 a0_1, .slice A0_2 l0_2.length c0_2, .slice A0_3 l0_3.length c0_3] 25 (0, 0)) (by (with_reducible repeat (fail)); exact BK863.1) hb); have n17_ := Sd.mk (kB (g := gb864) (o := .cells #[.int .i64 a2_0, .int .i64 a2_1] 58 (0, 0)) (by (with_reducible repeat (fail)); exact BK864.1) hb); have n18_ := Sd.mk (bT (by repeat (first | (with_reducible first | exact HB.1 ) )) hb); clear HO_11; clear HO884; clear HO887; clear HO890; clear HO893; clear HO900; clear HO903; clear HO906; clear HO909; clear HO916; clear HO919; clear HO922; clear HO925; clear HO932; clear HO935; clear BK863; clear BK864; clear HB; have HO_11 := n0_; have HO884 := n1_; have HO887 := n2_; have HO890 := n3_; have HO893 := n4_; have HO900 := n5_; have HO903 := n6_; have HO906 := n7_; have HO909 := n8_; have HO916 := n9_; have HO919 := n10_; have HO922 := n11_; have HO925 := n12_; have HO932 := n13_; have HO935 := n14_; have HO938 := n15_; have BK863 := n16_; have BK864 := n17_; have HB := n18_; clear n0_ n1_ n2_ n3_ n4_ n5_ n6_ n7_ n8_ n9_ n10_ n11_ n12_ n13_ n14_ n15_ n16_ n17_ n18_; (try clear hb); (try clear ho0); obtain ⟨Ao78, co78, eo78⟩ := Kd.R_slice HO932.1; subst eo78; obtain ⟨Ao79, co79, eo79⟩ := Kd.R_slice HO935.1; subst eo79; obtain ⟨Ao80, co80, eo80⟩ := Kd.R_slice HO938.1; subst eo80; (try clear A46)) | ((with_reducible refine gate_callee (f := 29) rfl ?_); refine goesL_ (some 89) rfl rfl Try.func29 (by kernel_rfl) rfl #[.agg #[.int .i64 t928, .int .i64 t929, .slice Ao78 t930.length co78, .slice Ao79 t933.length co79], .slice Ao80 t936.length co80] rfl (by (try simp only [List.map_toArray, List.map_cons, List.map_nil]); first | rfl ) ?_; (with_reducible refine (cipher_Exposed.calls kj7 t928 t929 _ _ t930 _ _ t933 _ _ t936 t939 t942 _ ?side1 ?side2 ?side3 ?side4 ?side5 ?side6 A47.1).mono ?_); (case side1 => repeat (first | exact (Kd.R_reads' HO932.1).2.2 )); (case side2 => exact (Kd.R_reads' HO932.1).2.1); (case side3 => repeat (first | exact (Kd.R_reads' HO935.1).2.2 )); (case side4 => exact (Kd.R_reads' HO935.1).2.1); (case side5 => repeat (first | exact (Kd.R_reads' HO938.1).2.2 )); (case side6 => exact (Kd.R_reads' HO938.1).2.1); rintro e w81 ⟨v940, rfl, ho0, hb⟩; refine ⟨_, rfl, ?_⟩; have n0_ := Sd.mk (Kd.R_below (by (with_reducible repeat (fail)); exact HO_11.1) hb); have n1_ := Sd.mk (Kd.R_below (by (with_reducible repeat (fail)); exact HO884.1) hb); have n2_ := Sd.mk (Kd.R_elder' (by (with_reducible repeat (fail)); exact HO887.1) (Kd.R_base ho0) hb); have n3_ := Sd.mk (Kd.R_below (by (with_reducible repeat (fail)); exact HO890.1) hb); have n4_ := Sd.mk (Kd.R_elder' (by (with_reducible repeat (fail)); exact HO893.1) (Kd.R_base ho0) hb); have n5_ := Sd.mk (Kd.R_below (by (with_reducible repeat (fail)); exact HO900.1) hb); have n6_ := Sd.mk (Kd.R_elder' (by (with_reducible repeat (fail)); exact HO903.1) (Kd.R_base ho0) hb); have n7_ := Sd.mk (Kd.R_below (by (with_reducible repeat (fail)); exact HO906.1) hb); have n8_ := Sd.mk (Kd.R_elder' (by (with_reducible repeat (fail)); exact HO909.1) (Kd.R_base ho0) hb); have n9_ := Sd.mk (Kd.R_below (by (with_reducible repeat (fail)); exact HO916.1) hb); have n10_ := Sd.mk (Kd.R_elder' (by (with_reducible repeat (fail)); exact HO919.1) (Kd.R_base ho0) hb); have n11_ := Sd.mk (Kd.R_below (by (with_reducible repeat (fail)); exact HO922.1) hb); have n12_ := Sd.mk (Kd.R_elder' (by (with_reducible repeat (fail)); exact HO925.1) (Kd.R_base ho0) hb); have n13_ := Sd.mk (Kd.R_below (by (with_reducible repeat (fail)); exact HO932.1) hb); have n14_ := Sd.mk (Kd.R_elder' (by (with_reducible repeat (fail)); exact HO935.1) (Kd.R_base ho0) hb); have n15_ := Sd.mk (Kd.R_below (by (with_reducible repeat (fail)); exact HO938.1) hb); have n16_ := Sd.mk (Kd.R_lower (Kd.R_new' (Kd.R_new' (Kd.R_new' (Kd.R_new' (Kd.R_new' (Kd.R_new' (Kd.R_new' ho0 (Kd.R_lt (by (with_reducible repeat (fail)); exact HO887.1))) (Kd.R_lt (by (with_reducible repeat (fail)); exact HO893.1))) (Kd.R_lt (by (with_reducible repeat (fail)); exact HO903.1))) (Kd.R_lt (by (with_reducible repeat (fail)); exact HO909.1))) (Kd.R_lt (by (with_reducible repeat (fail)); exact HO919.1))) (Kd.R_lt (by (with_reducible repeat (fail)); exact HO925.1))) (Kd.R_lt (by (with_reducible repeat (fail)); exact HO935.1))) (bZ (by repeat (first | (with_reducible first | exact HB.1 ) )))); have n17_ := Sd.mk (kB (g := gb863) (o := .cells #[.int .i64 a0_0, .int .i64 a0_1, .slice A0_2 l0_2.length c0_2, .slice A0_3 l0_3.length c0_3] 25 (0, 0)) (by (with_reducible repeat (fail)); exact BK863.1) hb); have n18_ := Sd.mk (kB (g := gb864) (o := .cells #[.int .i64 a2_0, .int .i64 a2_1] 58 (0, 0)) (by (with_reducible repeat (fail)); exact BK864.1) hb); have n19_ := Sd.mk (bT (by repeat (first | (with_reducible first | exact HB.1 ) )) hb); clear HO_11; clear HO884; clear HO887; clear HO890; clear HO893; clear HO900; clear HO903; clear HO906; clear HO909; clear HO916; clear HO919; clear HO922; clear HO925; clear HO932; clear HO935; clear HO938; clear BK863; clear BK864; clear HB; have HO_11 := n0_; have HO884 := n1_; have HO887 := n2_; have HO890 := n3_; have HO893 := n4_; have HO900 := n5_; have HO903 := n6_; have HO906 := n7_; have HO909 := n8_; have HO916 := n9_; have HO919 := n10_; have HO922 := n11_; have HO925 := n12_; have HO932 := n13_; have HO935 := n14_; have HO938 := n15_; have HO941 := n16_; have BK863 := n17_; have BK864 := n18_; have HB := n19_; clear n0_ n1_ n2_ n3_ n4_ n5_ n6_ n7_ n8_ n9_ n10_ n11_ n12_ n13_ n14_ n15_ n16_ n17_ n18_ n19_; (try clear hb); (try clear ho0); have z_82_0 : w81.cell? ⟨gb863, 0, none⟩ = some (.int .i64 a0_0) := (kC BK863.1 0).trans rfl; have z_82_1 : w81.cell? ⟨gb863, 1, none⟩ = some (.int .i64 a0_1) := (kC BK863.1 1).trans rfl; have z_82_2 : w81.cell? ⟨gb863, 2, none⟩ = some (.slice A0_2 l0_2.length c0_2) := (kC BK863.1 2).trans rfl; have z_82_3 : w81.cell? ⟨gb863, 3, none⟩ = some (.slice A0_3 l0_3.length c0_3) := (kC BK863.1 3).trans rfl; (try clear A47)) | ((with_reducible refine gate_callee (f := 19) rfl ?_); refine goesL_ (some 94) rfl rfl Try.func19 (by kernel_rfl) rfl #[.agg #[.int .i64 a0_0, .int .i64 a0_1, .slice A0_2 l0_2.length c0_2, .slice A0_3 l0_3.length c0_3]] rfl (by (try simp only [List.map_toArray, List.map_cons, List.map_nil]); first | rfl ) ?_; (with_reducible refine (glisterlaw04_Book.calls kj7 a0_0 a0_1 _ _ l0_2 _ _ l0_3 t943 t944 t945 t948 _ ?side1 ?side2 ?side3 ?side4 A48.1).mono ?_); (case side1 => repeat (first | exact (Kd.C_below HR0_2.1 HB.1) )); (case side2 => exact HC0_2.1); (case side3 => repeat (first | exact (Kd.C_below HR0_3.1 HB.1) )); (case side4 => exact HC0_3.1); rintro e w83 ⟨v946, v949, rfl, ho0, ho1, hb⟩; refine ⟨_, rfl, ?_⟩; have n0_ := Sd.mk (Kd.R_below (by (with_reducible repeat (fail)); exact HO_11.1) hb); have n1_ := Sd.mk (Kd.R_elder' (by (with_reducible repeat (fail)); exact HO884.1) (Kd.R_base ho0) hb); have n2_ := Sd.mk (Kd.R_elder' (by (with_reducible repeat (fail)); exact HO887.1) (Kd.R_base ho1) hb); have n3_ := Sd.mk (Kd.R_below (by (with_reducible repeat (fail)); exact HO890.1) hb); have n4_ := Sd.mk (Kd.R_elder' (by (with_reducible repeat (fail)); exact HO893.1) (Kd.R_base ho1) hb); have n5_ := Sd.mk (Kd.R_elder' (by (with_reducible repeat (fail)); exact HO900.1) (Kd.R_base ho0) hb); have n6_ := Sd.mk (Kd.R_elder' (by (with_reducible repeat (fail)); exact HO903.1) (Kd.R_base ho1) hb); have n7_ := Sd.mk (Kd.R_below (by (with_reducible repeat (fail)); exact HO906.1) hb); have n8_ := Sd.mk (Kd.R_elder' (by (with_reducible repeat (fail)); exact HO909.1) (Kd.R_base ho1) hb); have n9_ := Sd.mk (Kd.R_elder' (by (with_reducible repeat (fail)); exact HO916.1) (Kd.R_base ho0) hb); have n10_ := Sd.mk (Kd.R_elder' (by (with_reducible repeat (fail)); exact HO919.1) (Kd.R_base ho1) hb); have n11_ := Sd.mk (Kd.R_below (by (with_reducible repeat (fail)); exact HO922.1) hb); have n12_ := Sd.mk (Kd.R_elder' (by (with_reducible repeat (fail)); exact HO925.1) (Kd.R_base ho1) hb); have n13_ := Sd.mk (Kd.R_elder' (by (with_reducible repeat (fail)); exact HO932.1) (Kd.R_base ho0) hb); have n14_ := Sd.mk (Kd.R_elder' (by (with_reducible repeat (fail)); exact HO935.1) (Kd.R_base ho1) hb); have n15_ := Sd.mk (Kd.R_below (by (with_reducible repeat (fail)); exact HO938.1) hb); have n16_ := Sd.mk (Kd.R_elder' (by (with_reducible repeat (fail)); exact HO941.1) (Kd.R_base ho1) hb); have n17_ := Sd.mk (Kd.R_lower (Kd.R_new' (Kd.R_new' (Kd.R_new' (Kd.R_new' ho0 (Kd.R_lt (by (with_reducible repeat (fail)); exact HO884.1))) (Kd.R_lt (by (with_reducible repeat (fail)); exact HO900.1))) (Kd.R_lt (by (with_reducible repeat (fail)); exact HO916.1))) (Kd.R_lt (by (with_reducible repeat (fail)); exact HO932.1))) (bZ (by repeat (first | (with_reducible first | exact HB.1 ) )))); have n18_ := Sd.mk (Kd.R_lower (Kd.R_new' (Kd.R_new' (Kd.R_new' (Kd.R_new' (Kd.R_new' (Kd.R_new' (Kd.R_new' (Kd.R_new' ho1 (Kd.R_lt (by (with_reducible repeat (fail)); exact HO887.1))) (Kd.R_lt (by (with_reducible repeat (fail)); exact HO893.1))) (Kd.R_lt (by (with_reducible repeat (fail)); exact HO903.1))) (Kd.R_lt (by (with_reducible repeat (fail)); exact HO909.1))) (Kd.R_lt (by (with_reducible repeat (fail)); exact HO919.1))) (Kd.R_lt (by (with_reducible repeat (fail)); exact HO925.1))) (Kd.R_lt (by (with_reducible repeat (fail)); exact HO935.1))) (Kd.R_lt (by (with_reducible repeat (fail)); exact HO941.1))) (bZ (by repeat (first | (with_reducible first | exact HB.1 ) )))); have n19_ := Sd.mk (kB (g := gb863) (o := .cells #[.int .i64 a0_0, .int .i64 a0_1, .slice A0_2 l0_2.length c0_2, .slice A0_3 l0_3.length c0_3] 25 (0, 0)) (by (with_reducible repeat (fail)); exact BK863.1) hb); have n20_ := Sd.mk (kB (g := gb864) (o := .cells #[.int .i64 a2_0, .int .i64 a2_1] 58 (0, 0)) (by (with_reducible repeat (fail)); exact BK864.1) hb); have n21_ := Sd.mk (bT (by repeat (first | (with_reducible first | exact HB.1 ) )) hb); clear HO_11; clear HO884; clear HO887; clear HO890; clear HO893; clear HO900; clear HO903; clear HO906; clear HO909; clear HO916; clear HO919; clear HO922; clear HO925; clear HO932; clear HO935; clear HO938; clear HO941; clear BK863; clear BK864; clear HB; have HO_11 := n0_; have HO884 := n1_; have HO887 := n2_; have HO890 := n3_; have HO893 := n4_; have HO900 := n5_; have HO903 := n6_; have HO906 := n7_; have HO909 := n8_; have HO916 := n9_; have HO919 := n10_; have HO922 := n11_; have HO925 := n12_; have HO932 := n13_; have HO935 := n14_; have HO938 := n15_; have HO941 := n16_; have HO947 := n17_; have HO950 := n18_; have BK863 := n19_; have BK864 := n20_; have HB := n21_; clear n0_ n1_ n2_ n3_ n4_ n5_ n6_ n7_ n8_ n9_ n10_ n11_ n12_ n13_ n14_ n15_ n16_ n17_ n18_ n19_ n20_ n21_; (try clear hb); (try clear ho0); (try clear ho1); (try clear A48)) | ((with_reducible refine gate_callee (f := 30) rfl ?_); refine goesL_ (some 96) rfl rfl Try.func30 (by kernel_rfl) rfl #[.slice Ao62 y874.length co62] rfl (by (try simp only [List.map_toArray, List.map_cons, List.map_nil]); first | rfl ) ?_; (with_reducible refine (glisterlaw04_Losses.calls kj7 _ _ y874 t951 _ ?side1 ?side2 A49.1).mono ?_); (case side1 => repeat (first | exact (Kd.R_reads' HO_11.1).2.2 )); (case side2 => exact (Kd.R_reads' HO_11.1).2.1); rintro e w84 ⟨v952, rfl, ho0, hb⟩; refine ⟨_, rfl, ?_⟩; have n0_ := Sd.mk (Kd.R_below (by (with_reducible repeat (fail)); exact HO_11.1) hb); have n1_ := Sd.mk (Kd.R_below (by (with_reducible repeat (fail)); exact HO884.1) hb); have n2_ := Sd.mk (Kd.R_below (by (with_reducible repeat (fail)); exact HO887.1) hb); have n3_ := Sd.mk (Kd.R_elder' (by (with_reducible repeat (fail)); exact HO890.1) (Kd.R_base ho0) hb); have n4_ := Sd.mk (Kd.R_below (by (with_reducible repeat (fail)); exact HO893.1) hb); have n5_ := Sd.mk (Kd.R_below (by (with_reducible repeat (fail)); exact HO900.1) hb); have n6_ := Sd.mk (Kd.R_below (by (with_reducible repeat (fail)); exact HO903.1) hb); have n7_ := Sd.mk (Kd.R_elder' (by (with_reducible repeat (fail)); exact HO906.1) (Kd.R_base ho0) hb); have n8_ := Sd.mk (Kd.R_below (by (with_reducible repeat (fail)); exact HO909.1) hb); have n9_ := Sd.mk (Kd.R_below (by (with_reducible repeat (fail)); exact HO916.1) hb); have n10_ := Sd.mk (Kd.R_below (by (with_reducible repeat (fail)); exact HO919.1) hb); have n11_ := Sd.mk (Kd.R_elder' (by (with_reducible repeat (fail)); exact HO922.1) (Kd.R_base ho0) hb); have n12_ := Sd.mk (Kd.R_below (by (with_reducible repeat (fail)); exact HO925.1) hb); have n13_ := Sd.mk (Kd.R_below (by (with_reducible repeat (fail)); exact HO932.1) hb); have n14_ := Sd.mk (Kd.R_below (by (with_reducible repeat (fail)); exact HO935.1) hb); have n15_ := Sd.mk (Kd.R_elder' (by (with_reducible repeat (fail)); exact HO938.1) (Kd.R_base ho0) hb); have n16_ := Sd.mk (Kd.R_below (by (with_reducible repeat (fail)); exact HO941.1) hb); have n17_ := Sd.mk (Kd.R_below (by (with_reducible repeat (fail)); exact HO947.1) hb); have n18_ := Sd.mk (Kd.R_below (by (with_reducible repeat (fail)); exact HO950.1) hb); have n19_ := Sd.mk (Kd.R_lower (Kd.R_new' (Kd.R_new' (Kd.R_new' (Kd.R_new' ho0 (Kd.R_lt (by (with_reducible repeat (fail)); exact HO890.1))) (Kd.R_lt (by (with_reducible repeat (fail)); exact HO906.1))) (Kd.R_lt (by (with_reducible repeat (fail)); exact HO922.1))) (Kd.R_lt (by (with_reducible repeat (fail)); exact HO938.1))) (bZ (by repeat (first | (with_reducible first | exact HB.1 ) )))); have n20_ := Sd.mk (kB (g := gb863) (o := .cells #[.int .i64 a0_0, .int .i64 a0_1, .slice A0_2 l0_2.length c0_2, .slice A0_3 l0_3.length c0_3] 25 (0, 0)) (by (with_reducible repeat (fail)); exact BK863.1) hb); have n21_ := Sd.mk (kB (g := gb864) (o := .cells #[.int .i64 a2_0, .int .i64 a2_1] 58 (0, 0)) (by (with_reducible repeat (fail)); exact BK864.1) hb); have n22_ := Sd.mk (bT (by repeat (first | (with_reducible first | exact HB.1 ) )) hb); clear HO_11; clear HO884; clear HO887; clear HO890; clear HO893; clear HO900; clear HO903; clear HO906; clear HO909; clear HO916; clear HO919; clear HO922; clear HO925; clear HO932; clear HO935; clear HO938; clear HO941; clear HO947; clear HO950; clear BK863; clear BK864; clear HB; have HO_11 := n0_; have HO884 := n1_; have HO887 := n2_; have HO890 := n3_; have HO893 := n4_; have HO900 := n5_; have HO903 := n6_; have HO906 := n7_; have HO909 := n8_; have HO916 := n9_; have HO919 := n10_; have HO922 := n11_; have HO925 := n12_; have HO932 := n13_; have HO935 := n14_; have HO938 := n15_; have HO941 := n16_; have HO947 := n17_; have HO950 := n18_; have HO953 := n19_; have BK863 := n20_; have BK864 := n21_; have HB := n22_; clear n0_ n1_ n2_ n3_ n4_ n5_ n6_ n7_ n8_ n9_ n10_ n11_ n12_ n13_ n14_ n15_ n16_ n17_ n18_ n19_ n20_ n21_ n22_; (try clear hb); (try clear ho0); obtain ⟨Ao85, co85, eo85⟩ := Kd.R_slice HO947.1; subst eo85; obtain ⟨Ao86, co86, eo86⟩ := Kd.R_slice HO950.1; subst eo86; obtain ⟨Ao87, co87, eo87⟩ := Kd.R_slice HO953.1; subst eo87; (try clear A49)) | ((with_reducible refine gate_callee (f := 29) rfl ?_); refine goesL_ (some 97) rfl rfl Try.func29 (by kernel_rfl) rfl #[.agg #[.int .i64 t943, .int .i64 t944, .slice Ao85 t945.length co85, .slice Ao86 t948.length co86], .slice Ao87 t951.length co87] rfl (by (try simp only [List.map_toArray, List.map_cons, List.map_nil]); first | rfl ) ?_; (with_reducible refine (cipher_Exposed.calls kj7 t943 t944 _ _ t945 _ _ t948 _ _ t951 t954 t957 _ ?side1 ?side2 ?side3 ?side4 ?side5 ?side6 A50.1).mono ?_); (case side1 => repeat (first | exact (Kd.R_reads' HO947.1).2.2 )); (case side2 => exact (Kd.R_reads' HO947.1).2.1); (case side3 => repeat (first | exact (Kd.R_reads' HO950.1).2.2 )); (case side4 => exact (Kd.R_reads' HO950.1).2.1); (case side5 => repeat (first | exact (Kd.R_reads' HO953.1).2.2 )); (case side6 => exact (Kd.R_reads' HO953.1).2.1); rintro e w88 ⟨v955, rfl, ho0, hb⟩; refine ⟨_, rfl, ?_⟩; have n0_ := Sd.mk (Kd.R_below (by (with_reducible repeat (fail)); exact HO_11.1) hb); have n1_ := Sd.mk (Kd.R_below (by (with_reducible repeat (fail)); exact HO884.1) hb); have n2_ := Sd.mk (Kd.R_elder' (by (with_reducible repeat (fail)); exact HO887.1) (Kd.R_base ho0) hb); have n3_ := Sd.mk (Kd.R_below (by (with_reducible repeat (fail)); exact HO890.1) hb); have n4_ := Sd.mk (Kd.R_elder' (by (with_reducible repeat (fail)); exact HO893.1) (Kd.R_base ho0) hb); have n5_ := Sd.mk (Kd.R_below (by (with_reducible repeat (fail)); exact HO900.1) hb); have n6_ := Sd.mk (Kd.R_elder' (by (with_reducible repeat (fail)); exact HO903.1) (Kd.R_base ho0) hb); have n7_ := Sd.mk (Kd.R_below (by (with_reducible repeat (fail)); exact HO906.1) hb); have n8_ := Sd.mk (Kd.R_elder' (by (with_reducible repeat (fail)); exact HO909.1) (Kd.R_base ho0) hb); have n9_ := Sd.mk (Kd.R_below (by (with_reducible repeat (fail)); exact HO916.1) hb); have n10_ := Sd.mk (Kd.R_elder' (by (with_reducible repeat (fail)); exact HO919.1) (Kd.R_base ho0) hb); have n11_ := Sd.mk (Kd.R_below (by (with_reducible repeat (fail)); exact HO922.1) hb); have n12_ := Sd.mk (Kd.R_elder' (by (with_reducible repeat (fail)); exact HO925.1) (Kd.R_base ho0) hb); have n13_ := Sd.mk (Kd.R_below (by (with_reducible repeat (fail)); exact HO932.1) hb); have n14_ := Sd.mk (Kd.R_elder' (by (with_reducible repeat (fail)); exact HO935.1) (Kd.R_base ho0) hb); have n15_ := Sd.mk (Kd.R_below (by (with_reducible repeat (fail)); exact HO938.1) hb); have n16_ := Sd.mk (Kd.R_elder' (by (with_reducible repeat (fail)); exact HO941.1) (Kd.R_base ho0) hb); have n17_ := Sd.mk (Kd.R_below (by (with_reducible repeat (fail)); exact HO947.1) hb); have n18_ := Sd.mk (Kd.R_elder' (by (with_reducible repeat (fail)); exact HO950.1) (Kd.R_base ho0) hb); have n19_ := Sd.mk (Kd.R_below (by (with_reducible repeat (fail)); exact HO953.1) hb); have n20_ := Sd.mk (Kd.R_lower (Kd.R_new' (Kd.R_new' (Kd.R_new' (Kd.R_new' (Kd.R_new' (Kd.R_new' (Kd.R_new' (Kd.R_new' (Kd.R_new' ho0 (Kd.R_lt (by (with_reducible repeat (fail)); exact HO887.1))) (Kd.R_lt (by (with_reducible repeat (fail)); exact HO893.1))) (Kd.R_lt (by (with_reducible repeat (fail)); exact HO903.1))) (Kd.R_lt (by (with_reducible repeat (fail)); exact HO909.1))) (Kd.R_lt (by (with_reducible repeat (fail)); exact HO919.1))) (Kd.R_lt (by (with_reducible repeat (fail)); exact HO925.1))) (Kd.R_lt (by (with_reducible repeat (fail)); exact HO935.1))) (Kd.R_lt (by (with_reducible repeat (fail)); exact HO941.1))) (Kd.R_lt (by (with_reducible repeat (fail)); exact HO950.1))) (bZ (by repeat (first | (with_reducible first | exact HB.1 ) )))); have n21_ := Sd.mk (kB (g := gb863) (o := .cells #[.int .i64 a0_0, .int .i64 a0_1, .slice A0_2 l0_2.length c0_2, .slice A0_3 l0_3.length c0_3] 25 (0, 0)) (by (with_reducible repeat (fail)); exact BK863.1) hb); have n22_ := Sd.mk (kB (g := gb864) (o := .cells #[.int .i64 a2_0, .int .i64 a2_1] 58 (0, 0)) (by (with_reducible repeat (fail)); exact BK864.1) hb); have n23_ := Sd.mk (bT (by repeat (first | (with_reducible first | exact HB.1 ) )) hb); clear HO_11; clear HO884; clear HO887; clear HO890; clear HO893; clear HO900; clear HO903; clear HO906; clear HO909; clear HO916; clear HO919; clear HO922; clear HO925; clear HO932; clear HO935; clear HO938; clear HO941; clear HO947; clear HO950; clear HO953; clear BK863; clear BK864; clear HB; have HO_11 := n0_; have HO884 := n1_; have HO887 := n2_; have HO890 := n3_; have HO893 := n4_; have HO900 := n5_; have HO903 := n6_; have HO906 := n7_; have HO909 := n8_; have HO916 := n9_; have HO919 := n10_; have HO922 := n11_; have HO925 := n12_; have HO932 := n13_; have HO935 := n14_; have HO938 := n15_; have HO941 := n16_; have HO947 := n17_; have HO950 := n18_; have HO953 := n19_; have HO956 := n20_; have BK863 := n21_; have BK864 := n22_; have HB := n23_; clear n0_ n1_ n2_ n3_ n4_ n5_ n6_ n7_ n8_ n9_ n10_ n11_ n12_ n13_ n14_ n15_ n16_ n17_ n18_ n19_ n20_ n21_ n22_ n23_; (try clear hb); (try clear ho0); (try clear A50)))
      go_cut [120] (fun v120 wc => ∃ (kq : Nat) (x120_50 : Bool), v120 = .bool x120_50 ∧ Sd (glisterlaw04_CipherLost.j1 kq t894 t895 t910 t911 t926 t927 t939 t954 x120_50 = some r) ∧ Sd (kq ≤ kj7) ∧ Sd (Kd.R (Kd.int .i64) 3 wc w.heap.size (fun k_ => some k_ ≠ (v955 : Value).ownBlock) v940 t939) ∧ Sd (Kd.R (Kd.int .i64) 3 wc w.heap.size (fun k_ => some k_ ≠ (v940 : Value).ownBlock) v955 t954) ∧ Sd (wc.heap[gb863]? = some (.cells #[.int .i64 a0_0, .int .i64 a0_1, (.slice A0_2 l0_2.length c0_2), (.slice A0_3 l0_3.length c0_3)] 25 (0, 0))) ∧ Sd (wc.heap[gb864]? = some (.cells #[.int .i64 a2_0, .int .i64 a2_1] 58 (0, 0))) ∧ Sd (Below w.heap.size w wc))
      case first =>
       have H := HC51.1
       clear HC51
       by_cases c89 : t942 = 0
       ·rw [if_pos c89] at H
        have c89b0 : (t942 == 0) = true := beq_iff_eq.mpr c89
        have c89b1 : (t942 != 0) = false := bne_eq_false_iff_eq.mpr c89
        clear c89
        by_cases c90 : t957 = 0
        ·rw [if_pos c90] at H
         have c90b0 : (t957 == 0) = true := beq_iff_eq.mpr c90
         have c90b1 : (t957 != 0) = false := bne_eq_false_iff_eq.mpr c90
         clear c90
         by_cases c91 : (t939.length : Int) = (l0_3.length : Int)
         ·as_aux_lemma =>
          rw [if_pos c91] at H
          have c91b0 : ((t939.length : Int) == (l0_3.length : Int)) = true := beq_iff_eq.mpr c91
          have c91b1 : ((t939.length : Int) != (l0_3.length : Int)) = false := bne_eq_false_iff_eq.mpr c91
          have c91b2 : (t939.length == l0_3.length) = true := by first | (simp at c91 ⊢; omega)
          clear c91
          have H' := Sd.mk H
          clear H
          obtain ⟨Ao92, co92, eo92⟩ := Kd.R_slice HO941.1
          subst eo92
          have hnb93 := NB863_864.1
          have hnc93 := NB864_863.1
          have z_94_3 : w88.cell? ⟨gb863, 3, none⟩ = some (.slice A0_3 l0_3.length c0_3) := (kC BK863.1 3).trans rfl
          obtain ⟨Ao95, co95, eo95⟩ := Kd.R_slice HO956.1
          subst eo95
          go_wp2
          go_meet
          case rel => exact ⟨_, (((t954.length : Int) != (t939.length : Int))), (by first | rfl ), H', ⟨by have := HJ7.1; first | omega ⟩, ⟨by (with_reducible repeat (fail)); exact Kd.R_mono HO941.1 (fun _ hk => hk.2)⟩, ⟨by (with_reducible repeat (fail)); exact Kd.R_mono HO956.1 (fun _ hk => hk.1.2)⟩, ⟨by (with_reducible repeat (fail)); exact BK863.1⟩, ⟨by (with_reducible repeat (fail)); exact BK864.1⟩, ⟨by repeat (first | (with_reducible first | exact HB.1 ) )⟩⟩
         ·as_aux_lemma =>
          rw [if_neg c91] at H
          have c91b0 : ((t939.length : Int) == (l0_3.length : Int)) = false := beq_eq_false_iff_ne.mpr c91
          have c91b1 : ((t939.length : Int) != (l0_3.length : Int)) = true := bne_iff_ne.mpr c91
          have c91b2 : (t939.length == l0_3.length) = false := by first | (simp at c91 ⊢; omega)
          have H' := Sd.mk H
          clear H
          obtain ⟨Ao96, co96, eo96⟩ := Kd.R_slice HO941.1
          subst eo96
          have hnb97 := NB863_864.1
          have hnc97 := NB864_863.1
          have z_98_3 : w88.cell? ⟨gb863, 3, none⟩ = some (.slice A0_3 l0_3.length c0_3) := (kC BK863.1 3).trans rfl
          go_wp2
          go_meet
          case rel => exact ⟨_, (true), (by first | rfl ), H', ⟨by have := HJ7.1; first | omega ⟩, ⟨by (with_reducible repeat (fail)); exact Kd.R_mono HO941.1 (fun _ hk => hk.2)⟩, ⟨by (with_reducible repeat (fail)); exact Kd.R_mono HO956.1 (fun _ hk => hk.1.2)⟩, ⟨by (with_reducible repeat (fail)); exact BK863.1⟩, ⟨by (with_reducible repeat (fail)); exact BK864.1⟩, ⟨by repeat (first | (with_reducible first | exact HB.1 ) )⟩⟩
        ·rw [if_neg c90] at H
         have c90b0 : (t957 == 0) = false := beq_eq_false_iff_ne.mpr c90
         have c90b1 : (t957 != 0) = true := bne_iff_ne.mpr c90
         have H' := Sd.mk H
         clear H
         go_wp2
         go_meet
         case rel => exact ⟨_, (true), (by first | rfl ), H', ⟨by have := HJ7.1; first | omega ⟩, ⟨by (with_reducible repeat (fail)); exact Kd.R_mono HO941.1 (fun _ hk => hk.2)⟩, ⟨by (with_reducible repeat (fail)); exact Kd.R_mono HO956.1 (fun _ hk => hk.1.2)⟩, ⟨by (with_reducible repeat (fail)); exact BK863.1⟩, ⟨by (with_reducible repeat (fail)); exact BK864.1⟩, ⟨by repeat (first | (with_reducible first | exact HB.1 ) )⟩⟩
       ·rw [if_neg c89] at H
        have c89b0 : (t942 == 0) = false := beq_eq_false_iff_ne.mpr c89
        have c89b1 : (t942 != 0) = true := bne_iff_ne.mpr c89
        have H' := Sd.mk H
        clear H
        go_wp2
        go_meet
        case rel => exact ⟨_, (true), (by first | rfl ), H', ⟨by have := HJ7.1; first | omega ⟩, ⟨by (with_reducible repeat (fail)); exact Kd.R_mono HO941.1 (fun _ hk => hk.2)⟩, ⟨by (with_reducible repeat (fail)); exact Kd.R_mono HO956.1 (fun _ hk => hk.1.2)⟩, ⟨by (with_reducible repeat (fail)); exact BK863.1⟩, ⟨by (with_reducible repeat (fail)); exact BK864.1⟩, ⟨by repeat (first | (with_reducible first | exact HB.1 ) )⟩⟩
      case rest =>
       clear HC51
       clear z_53_0 z_53_1 z_53_2 z_53_3 z_60_0 z_60_1 z_60_2 z_60_3 z_68_0 z_68_1 z_68_2 z_68_3 z_75_0 z_75_1 z_75_2 z_75_3 z_82_0 z_82_1 z_82_2 z_82_3
       obtain ⟨kq, x120_50, rfl, HA, HJ50, HO_23, HO_25, BK863, BK864, HB⟩ := hcut
       cases kq with
       | zero => exact absurd HA.1 (by simp [glisterlaw04_CipherLost.j1])
       | succ kj50 =>
        have H := HA.1
        clear HA
        simp only [glisterlaw04_CipherLost.j1] at H
        by_cases c99 : x120_50 = true
        ·subst c99
         rw [if_pos rfl] at H
         exact absurd H (by simp)
        ·replace c99 := Bool.eq_false_iff.mpr c99
         subst c99
         rw [if_neg (show ¬ (false = true) by decide)] at H
         have H' := Sd.mk H
         clear H
         go_wp2
         go_loopg [27] kj50 (fun kq v27 w' => ∃ (x27_3 : Int), v27 = .int .i64 x27_3 ∧ Sd (glisterlaw04_CipherLost.l0 kq t894 t895 t910 t911 t926 t927 t939 t954 x27_3 = some r) ∧ Sd (kq ≤ kj50) ∧ Sd (Kd.R (Kd.int .i64) 3 w' w.heap.size (fun k_ => some k_ ≠ (v955 : Value).ownBlock) v940 t939) ∧ Sd (Kd.R (Kd.int .i64) 3 w' w.heap.size (fun k_ => some k_ ≠ (v940 : Value).ownBlock) v955 t954) ∧ Sd (w'.heap[gb863]? = some (.cells #[.int .i64 a0_0, .int .i64 a0_1, (.slice A0_2 l0_2.length c0_2), (.slice A0_3 l0_3.length c0_3)] 25 (0, 0))) ∧ Sd (w'.heap[gb864]? = some (.cells #[.int .i64 a2_0, .int .i64 a2_1] 58 (0, 0))) ∧ Sd (Below w.heap.size w w'))
         case atStart => exact ⟨(0), (by first | rfl ), H', ⟨Nat.le_refl _⟩, ⟨by (with_reducible repeat (fail)); exact HO_23.1⟩, ⟨by (with_reducible repeat (fail)); exact HO_25.1⟩, ⟨by (with_reducible repeat (fail)); exact BK863.1⟩, ⟨by (with_reducible repeat (fail)); exact BK864.1⟩, ⟨by repeat (first | (with_reducible first | exact HB.1 ) )⟩⟩
         case round =>
          clear H'
          obtain ⟨x27_3, rfl, HA, HK3, HO_23, HO_25, BK863, BK864, HB⟩ := hrel
          cases gk with
          | zero => exact absurd HA.1 (by simp [glisterlaw04_CipherLost.l0])
          | succ k3 =>
           have H := HA.1
           clear HA
           simp only [glisterlaw04_CipherLost.l0] at H
           by_cases c100 : x27_3 < (t939.length : Int)
           ·rw [if_pos c100] at H
            have c100b0 : decide (x27_3 < (t939.length : Int)) = true := decide_eq_true c100
            clear c100
            by_cases c101 : 0 ≤ x27_3
            ·rw [if_pos c101] at H
             have c101b0 : decide (0 ≤ x27_3) = true := decide_eq_true c101
             clear c101
             by_cases c102 : (rd t939 x27_3) ≥ 0
             ·rw [if_pos c102] at H
              have c102b0 : decide (0 ≤ (rd t939 x27_3)) = true := decide_eq_true c102
              clear c102
              by_cases c103 : x27_3 < (t954.length : Int)
              ·rw [if_pos c103] at H
               have c103b0 : decide (x27_3 < (t954.length : Int)) = true := decide_eq_true c103
               clear c103
               by_cases c104 : (rd t954 x27_3) < 0
               ·rw [if_pos c104] at H
                exact absurd H (by simp)
               ·rw [if_neg c104] at H
                have c104b0 : decide ((rd t954 x27_3) < 0) = false := decide_eq_false c104
                clear c104
                by_cases c105 : (rd t954 x27_3) > (rd t939 x27_3)
                ·rw [if_pos c105] at H
                 exact absurd H (by simp)
                ·rw [if_neg c105] at H
                 have c105b0 : decide ((rd t939 x27_3) < (rd t954 x27_3)) = false := decide_eq_false c105
                 clear c105
                 by_cases c106 : (rd t954 x27_3) ≥ 0
                 ·rw [if_pos c106] at H
                  have c106b0 : decide (0 ≤ (rd t954 x27_3)) = true := decide_eq_true c106
                  clear c106
                  by_cases c107 : (rd t954 x27_3) < x27_3
                  ·rw [if_pos c107] at H
                   exact absurd H (by simp)
                  ·as_aux_lemma =>
                   rw [if_neg c107] at H
                   have c107b0 : decide ((rd t954 x27_3) < x27_3) = false := decide_eq_false c107
                   clear c107
                   have H' := Sd.mk H
                   clear H
                   obtain ⟨Ao108, co108, eo108⟩ := Kd.R_slice HO_23.1
                   subst eo108
                   try go_wp2
                   have n0_ := Sd.mk (Kd.R_drew HO_23.1)
                   have n1_ := Sd.mk (Kd.R_drew HO_25.1)
                   have n2_ := Sd.mk (kD BK863.1)
                   have n3_ := Sd.mk (kD BK864.1)
                   have n4_ := Sd.mk (bD HB.1)
                   clear HO_23
                   clear HO_25
                   clear BK863
                   clear BK864
                   clear HB
                   have HO_23 := n0_
                   have HO_25 := n1_
                   have BK863 := n2_
                   have BK864 := n3_
                   have HB := n4_
                   clear n0_ n1_ n2_ n3_ n4_
                   have p958 : 0 ≤ (x27_3 : Int) := of_decide_eq_true (by first | (with_reducible assumption) )
                   have q958 : x27_3 < (t939.length : Int) := of_decide_eq_true (by first | (with_reducible assumption) )
                   obtain ⟨ad958, e958, hx958_0⟩ := Kd.at_int (Kd.R_reads' HO_23.1).2.2 x27_3 p958 q958
                   cases e958
                   replace p958 := eq_true p958
                   replace q958 := eq_true q958
                   obtain ⟨Ao110, co110, eo110⟩ := Kd.R_slice HO_25.1
                   (subst eo110 )
                   have p959 : 0 ≤ (x27_3 : Int) := of_decide_eq_true (by first | (with_reducible assumption) )
                   have q959 : x27_3 < (t954.length : Int) := of_decide_eq_true (by first | (with_reducible assumption) )
                   obtain ⟨ad959, e959, hx959_0⟩ := Kd.at_int (Kd.R_reads' HO_25.1).2.2 x27_3 p959 q959
                   cases e959
                   replace p959 := eq_true p959
                   replace q959 := eq_true q959
                   have p960 : 0 ≤ (x27_3 : Int) := of_decide_eq_true (by first | (with_reducible assumption) )
                   have q960 : x27_3 < (t954.length : Int) := of_decide_eq_true (by first | (with_reducible assumption) )
                   obtain ⟨ad960, e960, hx960_0⟩ := Kd.at_int (Kd.R_reads' HO_25.1).2.2 x27_3 p960 q960
                   obtain rfl : ad959 = ad960 := (by injection e960)
                   replace p960 := eq_true p960
                   replace q960 := eq_true q960
                   have p961 : 0 ≤ (x27_3 : Int) := of_decide_eq_true (by first | (with_reducible assumption) )
                   have q961 : x27_3 < (t939.length : Int) := of_decide_eq_true (by first | (with_reducible assumption) )
                   obtain ⟨ad961, e961, hx961_0⟩ := Kd.at_int (Kd.R_reads' HO_23.1).2.2 x27_3 p961 q961
                   obtain rfl : ad958 = ad961 := (by injection e961)
                   replace p961 := eq_true p961
                   replace q961 := eq_true q961
                   have p962 : 0 ≤ (x27_3 : Int) := of_decide_eq_true (by first | (with_reducible assumption) )
                   have q962 : x27_3 < (t954.length : Int) := of_decide_eq_true (by first | (with_reducible assumption) )
                   obtain ⟨ad962, e962, hx962_0⟩ := Kd.at_int (Kd.R_reads' HO_25.1).2.2 x27_3 p962 q962
                   obtain rfl : ad959 = ad962 := (by injection e962)
                   replace p962 := eq_true p962
                   replace q962 := eq_true q962
                   have p963 : 0 ≤ (x27_3 : Int) := of_decide_eq_true (by first | (with_reducible assumption) )
                   have q963 : x27_3 < (t954.length : Int) := of_decide_eq_true (by first | (with_reducible assumption) )
                   obtain ⟨ad963, e963, hx963_0⟩ := Kd.at_int (Kd.R_reads' HO_25.1).2.2 x27_3 p963 q963
                   obtain rfl : ad959 = ad963 := (by injection e963)
                   replace p963 := eq_true p963
                   replace q963 := eq_true q963
                   refine start_ (n := 38) (S := fun w' => w'.cell? (ad958.add (x27_3).toNat) = some (.int .i64 (rd t939 x27_3)) ∧ w'.cell? (ad959.add (x27_3).toNat) = some (.int .i64 (rd t954 x27_3)) ∧ w'.cell? (ad959.add (x27_3).toNat) = some (.int .i64 (rd t954 x27_3)) ∧ w'.cell? (ad958.add (x27_3).toNat) = some (.int .i64 (rd t939 x27_3)) ∧ w'.cell? (ad959.add (x27_3).toNat) = some (.int .i64 (rd t954 x27_3)) ∧ w'.cell? (ad959.add (x27_3).toNat) = some (.int .i64 (rd t954 x27_3))) (ds := []) #[false, false, false, false, false, false, false, false, false, false, false, false, false, false, false, false, false, false, false, false, false, false, false, false, false, false, false, false, false, false, false, false, false, false, false, false, false, false] (by kernel_rfl) rfl rfl ⟨hx958_0, hx959_0, hx960_0, hx961_0, hx962_0, hx963_0⟩ (fun hHeld => ?_); refine with_tabW glisterlaw04_CipherLost.tab16 glisterlaw04_CipherLost.bits16 (fun HT_ HW_ => ?_)
                   generalize wr.drew = w109 at HO_23 HO_25 BK863 BK864 HB hx958_0 hx959_0 hx960_0 hx961_0 hx962_0 hx963_0 hHeld ⊢
                   refine pure_ (i := 0) (N := some 127) (v := ?_) (a' := ?_) #[true, false, false, false, false, false, false, false, false, false, false, false, false, false, false, false, false, false, false, false, false, false, false, false, false, false, false, false, false, false, false, false, false, false, false, false, false, false] rfl rfl (any_of HT_.1 (by kernel_rfl)) (fun _ _ _ h => h) (Or.inl ⟨by rfl, ?_⟩) ?_ ?_
                   rotate_left
                   ·intro w'
                    go_simp
                    with_reducible rfl
                   rotate_left
                   ·simp only [Act.put, List.setIfInBounds_toArray, List.set_cons_zero, List.set_cons_succ, i64_w, i32_w]
                    rfl
                   refine pure_ (i := 1) (N := some 128) (v := ?_) (a' := ?_) #[true, true, false, false, false, false, false, false, false, false, false, false, false, false, false, false, false, false, false, false, false, false, false, false, false, false, false, false, false, false, false, false, false, false, false, false, false, false] rfl rfl (any_of HT_.1 (by kernel_rfl)) (fun _ _ _ h => h) (Or.inl ⟨by rfl, ?_⟩) ?_ ?_
                   rotate_left
                   ·intro w'
                    go_simp
                    with_reducible rfl
                   rotate_left
                   ·simp only [Act.put, List.setIfInBounds_toArray, List.set_cons_zero, List.set_cons_succ, i64_w, i32_w]
                    rfl
                   refine pure_ (i := 2) (N := some 129) (v := ?_) (a' := ?_) #[true, true, true, false, false, false, false, false, false, false, false, false, false, false, false, false, false, false, false, false, false, false, false, false, false, false, false, false, false, false, false, false, false, false, false, false, false, false] rfl rfl (any_of HT_.1 (by kernel_rfl)) (fun _ _ _ h => h) (Or.inl ⟨by rfl, ?_⟩) ?_ ?_
                   rotate_left
                   ·intro w'
                    go_simp
                    with_reducible rfl
                   rotate_left
                   ·simp only [Act.put, List.setIfInBounds_toArray, List.set_cons_zero, List.set_cons_succ, i64_w, i32_w]
                    rfl
                   refine take_ (i := 3) (N := some 130) (v := ?_) (a' := ?_) #[true, true, true, true, false, false, false, false, false, false, false, false, false, false, false, false, false, false, false, false, false, false, false, false, false, false, false, false, false, false, false, false, false, false, false, false, false, false] rfl rfl (take_ofW HT_.1 HW_.1 (by kernel_rfl)) (fun _ _ _ h => h) (Or.inl ⟨by rfl, ?_⟩) hHeld ?_ ?_
                   rotate_left
                   ·rintro w' ⟨s0, s1, s2, s3, s4, s5⟩
                    go_simp
                    with_reducible rfl
                   rotate_left
                   ·simp only [Act.put, List.setIfInBounds_toArray, List.set_cons_zero, List.set_cons_succ, i64_w, i32_w]
                    rfl
                   refine pure_ (i := 4) (N := some 131) (v := ?_) (a' := ?_) #[true, true, true, true, true, false, false, false, false, false, false, false, false, false, false, false, false, false, false, false, false, false, false, false, false, false, false, false, false, false, false, false, false, false, false, false, false, false] rfl rfl (any_of HT_.1 (by kernel_rfl)) (fun _ _ _ h => h) (Or.inl ⟨by rfl, ?_⟩) ?_ ?_
                   rotate_left
                   ·intro w'
                    go_simp
                    with_reducible rfl
                   rotate_left
                   ·simp only [Act.put, List.setIfInBounds_toArray, List.set_cons_zero, List.set_cons_succ, i64_w, i32_w]
                    rfl
                   refine pure_ (i := 5) (N := some 132) (v := ?_) (a' := ?_) #[true, true, true, true, true, true, false, false, false, false, false, false, false, false, false, false, false, false, false, false, false, false, false, false, false, false, false, false, false, false, false, false, false, false, false, false, false, false] rfl rfl (any_of HT_.1 (by kernel_rfl)) (fun _ _ _ h => h) (Or.inl ⟨by rfl, ?_⟩) ?_ ?_
                   rotate_left
                   ·intro w'
                    go_simp
                    with_reducible rfl
                   rotate_left
                   ·simp only [Act.put, List.setIfInBounds_toArray, List.set_cons_zero, List.set_cons_succ, i64_w, i32_w]
                    rfl
                   refine pure_ (i := 6) (N := some 133) (v := ?_) (a' := ?_) #[true, true, true, true, true, true, true, false, false, false, false, false, false, false, false, false, false, false, false, false, false, false, false, false, false, false, false, false, false, false, false, false, false, false, false, false, false, false] rfl rfl (any_of HT_.1 (by kernel_rfl)) (fun _ _ _ h => h) (Or.inl ⟨by rfl, ?_⟩) ?_ ?_
                   rotate_left
                   ·intro w'
                    go_simp
                    with_reducible rfl
                   rotate_left
                   ·simp only [Act.put, List.setIfInBounds_toArray, List.set_cons_zero, List.set_cons_succ, i64_w, i32_w]
                    rfl
                   refine pure_ (i := 7) (N := some 134) (v := ?_) (a' := ?_) #[true, true, true, true, true, true, true, true, false, false, false, false, false, false, false, false, false, false, false, false, false, false, false, false, false, false, false, false, false, false, false, false, false, false, false, false, false, false] rfl rfl (any_of HT_.1 (by kernel_rfl)) (fun _ _ _ h => h) (Or.inl ⟨by rfl, ?_⟩) ?_ ?_
                   rotate_left
                   ·intro w'
                    go_simp
                    with_reducible rfl
                   rotate_left
                   ·simp only [Act.put, List.setIfInBounds_toArray, List.set_cons_zero, List.set_cons_succ, i64_w, i32_w]
                    rfl
                   refine pure_ (i := 8) (N := some 135) (v := ?_) (a' := ?_) #[true, true, true, true, true, true, true, true, true, false, false, false, false, false, false, false, false, false, false, false, false, false, false, false, false, false, false, false, false, false, false, false, false, false, false, false, false, false] rfl rfl (any_of HT_.1 (by kernel_rfl)) (fun _ _ _ h => h) (Or.inl ⟨by rfl, ?_⟩) ?_ ?_
                   rotate_left
                   ·intro w'
                    go_simp
                    with_reducible rfl
                   rotate_left
                   ·simp only [Act.put, List.setIfInBounds_toArray, List.set_cons_zero, List.set_cons_succ, i64_w, i32_w]
                    rfl
                   refine take_ (i := 9) (N := some 136) (v := ?_) (a' := ?_) #[true, true, true, true, true, true, true, true, true, true, false, false, false, false, false, false, false, false, false, false, false, false, false, false, false, false, false, false, false, false, false, false, false, false, false, false, false, false] rfl rfl (take_ofW HT_.1 HW_.1 (by kernel_rfl)) (fun _ _ _ h => h) (Or.inl ⟨by rfl, ?_⟩) hHeld ?_ ?_
                   rotate_left
                   ·rintro w' ⟨s0, s1, s2, s3, s4, s5⟩
                    go_simp
                    with_reducible rfl
                   rotate_left
                   ·simp only [Act.put, List.setIfInBounds_toArray, List.set_cons_zero, List.set_cons_succ, i64_w, i32_w]
                    rfl
                   refine pure_ (i := 10) (N := some 137) (v := ?_) (a' := ?_) #[true, true, true, true, true, true, true, true, true, true, true, false, false, false, false, false, false, false, false, false, false, false, false, false, false, false, false, false, false, false, false, false, false, false, false, false, false, false] rfl rfl (any_of HT_.1 (by kernel_rfl)) (fun _ _ _ h => h) (Or.inl ⟨by rfl, ?_⟩) ?_ ?_
                   rotate_left
                   ·intro w'
                    go_simp
                    with_reducible rfl
                   rotate_left
                   ·simp only [Act.put, List.setIfInBounds_toArray, List.set_cons_zero, List.set_cons_succ, i64_w, i32_w]
                    rfl
                   refine pure_ (i := 11) (N := some 138) (v := ?_) (a' := ?_) #[true, true, true, true, true, true, true, true, true, true, true, true, false, false, false, false, false, false, false, false, false, false, false, false, false, false, false, false, false, false, false, false, false, false, false, false, false, false] rfl rfl (any_of HT_.1 (by kernel_rfl)) (fun _ _ _ h => h) (Or.inl ⟨by rfl, ?_⟩) ?_ ?_
                   rotate_left
                   ·intro w'
                    go_simp
                    with_reducible rfl
                   rotate_left
                   ·simp only [Act.put, List.setIfInBounds_toArray, List.set_cons_zero, List.set_cons_succ, i64_w, i32_w]
                    rfl
                   refine pure_ (i := 12) (N := some 139) (v := ?_) (a' := ?_) #[true, true, true, true, true, true, true, true, true, true, true, true, true, false, false, false, false, false, false, false, false, false, false, false, false, false, false, false, false, false, false, false, false, false, false, false, false, false] rfl rfl (any_of HT_.1 (by kernel_rfl)) (fun _ _ _ h => h) (Or.inl ⟨by rfl, ?_⟩) ?_ ?_
                   rotate_left
                   ·intro w'
                    go_simp
                    with_reducible rfl
                   rotate_left
                   ·simp only [Act.put, List.setIfInBounds_toArray, List.set_cons_zero, List.set_cons_succ, i64_w, i32_w]
                    rfl
                   refine pure_ (i := 13) (N := some 140) (v := ?_) (a' := ?_) #[true, true, true, true, true, true, true, true, true, true, true, true, true, true, false, false, false, false, false, false, false, false, false, false, false, false, false, false, false, false, false, false, false, false, false, false, false, false] rfl rfl (any_of HT_.1 (by kernel_rfl)) (fun _ _ _ h => h) (Or.inl ⟨by rfl, ?_⟩) ?_ ?_
                   rotate_left
                   ·intro w'
                    go_simp
                    with_reducible rfl
                   rotate_left
                   ·simp only [Act.put, List.setIfInBounds_toArray, List.set_cons_zero, List.set_cons_succ, i64_w, i32_w]
                    rfl
                   refine pure_ (i := 14) (N := some 141) (v := ?_) (a' := ?_) #[true, true, true, true, true, true, true, true, true, true, true, true, true, true, true, false, false, false, false, false, false, false, false, false, false, false, false, false, false, false, false, false, false, false, false, false, false, false] rfl rfl (any_of HT_.1 (by kernel_rfl)) (fun _ _ _ h => h) (Or.inl ⟨by rfl, ?_⟩) ?_ ?_
                   rotate_left
                   ·intro w'
                    go_simp
                    with_reducible rfl
                   rotate_left
                   ·simp only [Act.put, List.setIfInBounds_toArray, List.set_cons_zero, List.set_cons_succ, i64_w, i32_w]
                    rfl
                   refine pure_ (i := 16) (N := some 143) (v := ?_) (a' := ?_) #[true, true, true, true, true, true, true, true, true, true, true, true, true, true, true, false, true, false, false, false, false, false, false, false, false, false, false, false, false, false, false, false, false, false, false, false, false, false] rfl rfl (any_of HT_.1 (by kernel_rfl)) (fun _ _ _ h => h) (Or.inl ⟨by rfl, ?_⟩) ?_ ?_
                   rotate_left
                   ·intro w'
                    go_simp
                    with_reducible rfl
                   rotate_left
                   ·simp only [Act.put, List.setIfInBounds_toArray, List.set_cons_zero, List.set_cons_succ, i64_w, i32_w]
                    rfl
                   refine pure_ (i := 17) (N := some 144) (v := ?_) (a' := ?_) #[true, true, true, true, true, true, true, true, true, true, true, true, true, true, true, false, true, true, false, false, false, false, false, false, false, false, false, false, false, false, false, false, false, false, false, false, false, false] rfl rfl (any_of HT_.1 (by kernel_rfl)) (fun _ _ _ h => h) (Or.inl ⟨by rfl, ?_⟩) ?_ ?_
                   rotate_left
                   ·intro w'
                    go_simp
                    with_reducible rfl
                   rotate_left
                   ·simp only [Act.put, List.setIfInBounds_toArray, List.set_cons_zero, List.set_cons_succ, i64_w, i32_w]
                    rfl
                   refine pure_ (i := 18) (N := some 145) (v := ?_) (a' := ?_) #[true, true, true, true, true, true, true, true, true, true, true, true, true, true, true, false, true, true, true, false, false, false, false, false, false, false, false, false, false, false, false, false, false, false, false, false, false, false] rfl rfl (any_of HT_.1 (by kernel_rfl)) (fun _ _ _ h => h) (Or.inl ⟨by rfl, ?_⟩) ?_ ?_
                   rotate_left
                   ·intro w'
                    go_simp
                    with_reducible rfl
                   rotate_left
                   ·simp only [Act.put, List.setIfInBounds_toArray, List.set_cons_zero, List.set_cons_succ, i64_w, i32_w]
                    rfl
                   refine take_ (i := 15) (N := some 142) (v := ?_) (a' := ?_) #[true, true, true, true, true, true, true, true, true, true, true, true, true, true, true, true, true, true, true, false, false, false, false, false, false, false, false, false, false, false, false, false, false, false, false, false, false, false] rfl rfl (take_ofW HT_.1 HW_.1 (by kernel_rfl)) (fun _ _ _ h => h) (Or.inl ⟨by rfl, ?_⟩) hHeld ?_ ?_
                   rotate_left
                   ·rintro w' ⟨s0, s1, s2, s3, s4, s5⟩
                    go_simp
                    with_reducible rfl
                   rotate_left
                   ·simp only [Act.put, List.setIfInBounds_toArray, List.set_cons_zero, List.set_cons_succ, i64_w, i32_w]
                    rfl
                   refine take_ (i := 19) (N := some 146) (v := ?_) (a' := ?_) #[true, true, true, true, true, true, true, true, true, true, true, true, true, true, true, true, true, true, true, true, false, false, false, false, false, false, false, false, false, false, false, false, false, false, false, false, false, false] rfl rfl (take_ofW HT_.1 HW_.1 (by kernel_rfl)) (fun _ _ _ h => h) (Or.inl ⟨by rfl, ?_⟩) hHeld ?_ ?_
                   rotate_left
                   ·rintro w' ⟨s0, s1, s2, s3, s4, s5⟩
                    go_simp
                    with_reducible rfl
                   rotate_left
                   ·simp only [Act.put, List.setIfInBounds_toArray, List.set_cons_zero, List.set_cons_succ, i64_w, i32_w]
                    rfl
                   refine pure_ (i := 20) (N := some 147) (v := ?_) (a' := ?_) #[true, true, true, true, true, true, true, true, true, true, true, true, true, true, true, true, true, true, true, true, true, false, false, false, false, false, false, false, false, false, false, false, false, false, false, false, false, false] rfl rfl (any_of HT_.1 (by kernel_rfl)) (fun _ _ _ h => h) (Or.inl ⟨by rfl, ?_⟩) ?_ ?_
                   rotate_left
                   ·intro w'
                    go_simp
                    with_reducible rfl
                   rotate_left
                   ·simp only [Act.put, List.setIfInBounds_toArray, List.set_cons_zero, List.set_cons_succ, i64_w, i32_w]
                    rfl
                   refine pure_ (i := 21) (N := some 148) (v := ?_) (a' := ?_) #[true, true, true, true, true, true, true, true, true, true, true, true, true, true, true, true, true, true, true, true, true, true, false, false, false, false, false, false, false, false, false, false, false, false, false, false, false, false] rfl rfl (any_of HT_.1 (by kernel_rfl)) (fun _ _ _ h => h) (Or.inl ⟨by rfl, ?_⟩) ?_ ?_
                   rotate_left
                   ·intro w'
                    go_simp
                    with_reducible rfl
                   rotate_left
                   ·simp only [Act.put, List.setIfInBounds_toArray, List.set_cons_zero, List.set_cons_succ, i64_w, i32_w]
                    rfl
                   refine pure_ (i := 22) (N := some 149) (v := ?_) (a' := ?_) #[true, true, true, true, true, true, true, true, true, true, true, true, true, true, true, true, true, true, true, true, true, true, true, false, false, false, false, false, false, false, false, false, false, false, false, false, false, false] rfl rfl (any_of HT_.1 (by kernel_rfl)) (fun _ _ _ h => h) (Or.inl ⟨by rfl, ?_⟩) ?_ ?_
                   rotate_left
                   ·intro w'
                    go_simp
                    with_reducible rfl
                   rotate_left
                   ·simp only [Act.put, List.setIfInBounds_toArray, List.set_cons_zero, List.set_cons_succ, i64_w, i32_w]
                    rfl
                   refine pure_ (i := 23) (N := some 150) (v := ?_) (a' := ?_) #[true, true, true, true, true, true, true, true, true, true, true, true, true, true, true, true, true, true, true, true, true, true, true, true, false, false, false, false, false, false, false, false, false, false, false, false, false, false] rfl rfl (any_of HT_.1 (by kernel_rfl)) (fun _ _ _ h => h) (Or.inl ⟨by rfl, ?_⟩) ?_ ?_
                   rotate_left
                   ·intro w'
                    go_simp
                    with_reducible rfl
                   rotate_left
                   ·simp only [Act.put, List.setIfInBounds_toArray, List.set_cons_zero, List.set_cons_succ, i64_w, i32_w]
                    rfl
                   refine pure_ (i := 24) (N := some 151) (v := ?_) (a' := ?_) #[true, true, true, true, true, true, true, true, true, true, true, true, true, true, true, true, true, true, true, true, true, true, true, true, true, false, false, false, false, false, false, false, false, false, false, false, false, false] rfl rfl (any_of HT_.1 (by kernel_rfl)) (fun _ _ _ h => h) (Or.inl ⟨by rfl, ?_⟩) ?_ ?_
                   rotate_left
                   ·intro w'
                    go_simp
                    with_reducible rfl
                   rotate_left
                   ·simp only [Act.put, List.setIfInBounds_toArray, List.set_cons_zero, List.set_cons_succ, i64_w, i32_w]
                    rfl
                   refine pure_ (i := 25) (N := some 152) (v := ?_) (a' := ?_) #[true, true, true, true, true, true, true, true, true, true, true, true, true, true, true, true, true, true, true, true, true, true, true, true, true, true, false, false, false, false, false, false, false, false, false, false, false, false] rfl rfl (any_of HT_.1 (by kernel_rfl)) (fun _ _ _ h => h) (Or.inl ⟨by rfl, ?_⟩) ?_ ?_
                   rotate_left
                   ·intro w'
                    go_simp
                    with_reducible rfl
                   rotate_left
                   ·simp only [Act.put, List.setIfInBounds_toArray, List.set_cons_zero, List.set_cons_succ, i64_w, i32_w]
                    rfl
                   refine pure_ (i := 26) (N := some 153) (v := ?_) (a' := ?_) #[true, true, true, true, true, true, true, true, true, true, true, true, true, true, true, true, true, true, true, true, true, true, true, true, true, true, true, false, false, false, false, false, false, false, false, false, false, false] rfl rfl (any_of HT_.1 (by kernel_rfl)) (fun _ _ _ h => h) (Or.inl ⟨by rfl, ?_⟩) ?_ ?_
                   rotate_left
                   ·intro w'
                    go_simp
                    with_reducible rfl
                   rotate_left
                   ·simp only [Act.put, List.setIfInBounds_toArray, List.set_cons_zero, List.set_cons_succ, i64_w, i32_w]
                    rfl
                   refine take_ (i := 27) (N := some 154) (v := ?_) (a' := ?_) #[true, true, true, true, true, true, true, true, true, true, true, true, true, true, true, true, true, true, true, true, true, true, true, true, true, true, true, true, false, false, false, false, false, false, false, false, false, false] rfl rfl (take_ofW HT_.1 HW_.1 (by kernel_rfl)) (fun _ _ _ h => h) (Or.inl ⟨by rfl, ?_⟩) hHeld ?_ ?_
                   rotate_left
                   ·rintro w' ⟨s0, s1, s2, s3, s4, s5⟩
                    go_simp
                    with_reducible rfl
                   rotate_left
                   ·simp only [Act.put, List.setIfInBounds_toArray, List.set_cons_zero, List.set_cons_succ, i64_w, i32_w]
                    rfl
                   refine pure_ (i := 28) (N := some 155) (v := ?_) (a' := ?_) #[true, true, true, true, true, true, true, true, true, true, true, true, true, true, true, true, true, true, true, true, true, true, true, true, true, true, true, true, true, false, false, false, false, false, false, false, false, false] rfl rfl (any_of HT_.1 (by kernel_rfl)) (fun _ _ _ h => h) (Or.inl ⟨by rfl, ?_⟩) ?_ ?_
                   rotate_left
                   ·intro w'
                    go_simp
                    with_reducible rfl
                   rotate_left
                   ·simp only [Act.put, List.setIfInBounds_toArray, List.set_cons_zero, List.set_cons_succ, i64_w, i32_w]
                    rfl
                   refine pure_ (i := 29) (N := some 156) (v := ?_) (a' := ?_) #[true, true, true, true, true, true, true, true, true, true, true, true, true, true, true, true, true, true, true, true, true, true, true, true, true, true, true, true, true, true, false, false, false, false, false, false, false, false] rfl rfl (any_of HT_.1 (by kernel_rfl)) (fun _ _ _ h => h) (Or.inl ⟨by rfl, ?_⟩) ?_ ?_
                   rotate_left
                   ·intro w'
                    go_simp
                    with_reducible rfl
                   rotate_left
                   ·simp only [Act.put, List.setIfInBounds_toArray, List.set_cons_zero, List.set_cons_succ, i64_w, i32_w]
                    rfl
                   refine pure_ (i := 30) (N := some 157) (v := ?_) (a' := ?_) #[true, true, true, true, true, true, true, true, true, true, true, true, true, true, true, true, true, true, true, true, true, true, true, true, true, true, true, true, true, true, true, false, false, false, false, false, false, false] rfl rfl (any_of HT_.1 (by kernel_rfl)) (fun _ _ _ h => h) (Or.inl ⟨by rfl, ?_⟩) ?_ ?_
                   rotate_left
                   ·intro w'
                    go_simp
                    with_reducible rfl
                   rotate_left
                   ·simp only [Act.put, List.setIfInBounds_toArray, List.set_cons_zero, List.set_cons_succ, i64_w, i32_w]
                    rfl
                   refine pure_ (i := 31) (N := some 158) (v := ?_) (a' := ?_) #[true, true, true, true, true, true, true, true, true, true, true, true, true, true, true, true, true, true, true, true, true, true, true, true, true, true, true, true, true, true, true, true, false, false, false, false, false, false] rfl rfl (any_of HT_.1 (by kernel_rfl)) (fun _ _ _ h => h) (Or.inl ⟨by rfl, ?_⟩) ?_ ?_
                   rotate_left
                   ·intro w'
                    go_simp
                    with_reducible rfl
                   rotate_left
                   ·simp only [Act.put, List.setIfInBounds_toArray, List.set_cons_zero, List.set_cons_succ, i64_w, i32_w]
                    rfl
                   refine pure_ (i := 32) (N := some 159) (v := ?_) (a' := ?_) #[true, true, true, true, true, true, true, true, true, true, true, true, true, true, true, true, true, true, true, true, true, true, true, true, true, true, true, true, true, true, true, true, true, false, false, false, false, false] rfl rfl (any_of HT_.1 (by kernel_rfl)) (fun _ _ _ h => h) (Or.inl ⟨by rfl, ?_⟩) ?_ ?_
                   rotate_left
                   ·intro w'
                    go_simp
                    with_reducible rfl
                   rotate_left
                   ·simp only [Act.put, List.setIfInBounds_toArray, List.set_cons_zero, List.set_cons_succ, i64_w, i32_w]
                    rfl
                   refine pure_ (i := 34) (N := some 161) (v := ?_) (a' := ?_) #[true, true, true, true, true, true, true, true, true, true, true, true, true, true, true, true, true, true, true, true, true, true, true, true, true, true, true, true, true, true, true, true, true, false, true, false, false, false] rfl rfl (any_of HT_.1 (by kernel_rfl)) (fun _ _ _ h => h) (Or.inl ⟨by rfl, ?_⟩) ?_ ?_
                   rotate_left
                   ·intro w'
                    go_simp
                    with_reducible rfl
                   rotate_left
                   ·simp only [Act.put, List.setIfInBounds_toArray, List.set_cons_zero, List.set_cons_succ, i64_w, i32_w]
                    rfl
                   refine take_ (i := 33) (N := some 160) (v := ?_) (a' := ?_) #[true, true, true, true, true, true, true, true, true, true, true, true, true, true, true, true, true, true, true, true, true, true, true, true, true, true, true, true, true, true, true, true, true, true, true, false, false, false] rfl rfl (take_ofW HT_.1 HW_.1 (by kernel_rfl)) (fun _ _ _ h => h) (Or.inl ⟨by rfl, ?_⟩) hHeld ?_ ?_
                   rotate_left
                   ·rintro w' ⟨s0, s1, s2, s3, s4, s5⟩
                    go_simp
                    with_reducible rfl
                   rotate_left
                   ·simp only [Act.put, List.setIfInBounds_toArray, List.set_cons_zero, List.set_cons_succ, i64_w, i32_w]
                    rfl
                   refine pure_ (i := 35) (N := some 162) (v := ?_) (a' := ?_) #[true, true, true, true, true, true, true, true, true, true, true, true, true, true, true, true, true, true, true, true, true, true, true, true, true, true, true, true, true, true, true, true, true, true, true, true, false, false] rfl rfl (any_of HT_.1 (by kernel_rfl)) (fun _ _ _ h => h) (Or.inl ⟨by rfl, ?_⟩) ?_ ?_
                   rotate_left
                   ·intro w'
                    go_simp
                    with_reducible rfl
                   rotate_left
                   ·simp only [Act.put, List.setIfInBounds_toArray, List.set_cons_zero, List.set_cons_succ, i64_w, i32_w]
                    rfl
                   refine pure_ (i := 36) (N := some 163) (v := ?_) (a' := ?_) #[true, true, true, true, true, true, true, true, true, true, true, true, true, true, true, true, true, true, true, true, true, true, true, true, true, true, true, true, true, true, true, true, true, true, true, true, true, false] rfl rfl (any_of HT_.1 (by kernel_rfl)) (fun _ _ _ h => h) (Or.inl ⟨by rfl, ?_⟩) ?_ ?_
                   rotate_left
                   ·intro w'
                    go_simp
                    with_reducible rfl
                   rotate_left
                   ·simp only [Act.put, List.setIfInBounds_toArray, List.set_cons_zero, List.set_cons_succ, i64_w, i32_w]
                    rfl
                   refine pure_ (i := 37) (N := some 164) (v := ?_) (a' := ?_) #[true, true, true, true, true, true, true, true, true, true, true, true, true, true, true, true, true, true, true, true, true, true, true, true, true, true, true, true, true, true, true, true, true, true, true, true, true, true] rfl rfl (any_of HT_.1 (by kernel_rfl)) (fun _ _ _ h => h) (Or.inl ⟨by rfl, ?_⟩) ?_ ?_
                   rotate_left
                   ·intro w'
                    go_simp
                    with_reducible rfl
                   rotate_left
                   ·simp only [Act.put, List.setIfInBounds_toArray, List.set_cons_zero, List.set_cons_succ, i64_w, i32_w]
                    rfl
                   refine done_ (done_of HT_.1 (by kernel_rfl)) ?_
                   try go_wp2
                   go_roundg k3
                   case measure => have := HJ7.1; have := HJ50.1; have := HK3.1; omega
                   case rel => exact ⟨(wrap64 (x27_3 + 1)), (by first | rfl ), H', ⟨by have := HJ7.1; have := HJ50.1; have := HK3.1; omega⟩, ⟨by (with_reducible repeat (fail)); exact HO_23.1⟩, ⟨by (with_reducible repeat (fail)); exact HO_25.1⟩, ⟨by (with_reducible repeat (fail)); exact BK863.1⟩, ⟨by (with_reducible repeat (fail)); exact BK864.1⟩, ⟨by repeat (first | (with_reducible first | exact HB.1 ) )⟩⟩
                 ·as_aux_lemma =>
                  rw [if_neg c106] at H
                  have c106b0 : decide (0 ≤ (rd t954 x27_3)) = false := decide_eq_false c106
                  clear c106
                  have H' := Sd.mk H
                  clear H
                  obtain ⟨Ao111, co111, eo111⟩ := Kd.R_slice HO_23.1
                  subst eo111
                  try go_wp2
                  have n0_ := Sd.mk (Kd.R_drew HO_23.1)
                  have n1_ := Sd.mk (Kd.R_drew HO_25.1)
                  have n2_ := Sd.mk (kD BK863.1)
                  have n3_ := Sd.mk (kD BK864.1)
                  have n4_ := Sd.mk (bD HB.1)
                  clear HO_23
                  clear HO_25
                  clear BK863
                  clear BK864
                  clear HB
                  have HO_23 := n0_
                  have HO_25 := n1_
                  have BK863 := n2_
                  have BK864 := n3_
                  have HB := n4_
                  clear n0_ n1_ n2_ n3_ n4_
                  have p958 : 0 ≤ (x27_3 : Int) := of_decide_eq_true (by first | (with_reducible assumption) )
                  have q958 : x27_3 < (t939.length : Int) := of_decide_eq_true (by first | (with_reducible assumption) )
                  obtain ⟨ad958, e958, hx958_0⟩ := Kd.at_int (Kd.R_reads' HO_23.1).2.2 x27_3 p958 q958
                  cases e958
                  replace p958 := eq_true p958
                  replace q958 := eq_true q958
                  obtain ⟨Ao113, co113, eo113⟩ := Kd.R_slice HO_25.1
                  (subst eo113 )
                  have p959 : 0 ≤ (x27_3 : Int) := of_decide_eq_true (by first | (with_reducible assumption) )
                  have q959 : x27_3 < (t954.length : Int) := of_decide_eq_true (by first | (with_reducible assumption) )
                  obtain ⟨ad959, e959, hx959_0⟩ := Kd.at_int (Kd.R_reads' HO_25.1).2.2 x27_3 p959 q959
                  cases e959
                  replace p959 := eq_true p959
                  replace q959 := eq_true q959
                  have p960 : 0 ≤ (x27_3 : Int) := of_decide_eq_true (by first | (with_reducible assumption) )
                  have q960 : x27_3 < (t954.length : Int) := of_decide_eq_true (by first | (with_reducible assumption) )
                  obtain ⟨ad960, e960, hx960_0⟩ := Kd.at_int (Kd.R_reads' HO_25.1).2.2 x27_3 p960 q960
                  obtain rfl : ad959 = ad960 := (by injection e960)
                  replace p960 := eq_true p960
                  replace q960 := eq_true q960
                  have p961 : 0 ≤ (x27_3 : Int) := of_decide_eq_true (by first | (with_reducible assumption) )
                  have q961 : x27_3 < (t939.length : Int) := of_decide_eq_true (by first | (with_reducible assumption) )
                  obtain ⟨ad961, e961, hx961_0⟩ := Kd.at_int (Kd.R_reads' HO_23.1).2.2 x27_3 p961 q961
                  obtain rfl : ad958 = ad961 := (by injection e961)
                  replace p961 := eq_true p961
                  replace q961 := eq_true q961
                  have p962 : 0 ≤ (x27_3 : Int) := of_decide_eq_true (by first | (with_reducible assumption) )
                  have q962 : x27_3 < (t954.length : Int) := of_decide_eq_true (by first | (with_reducible assumption) )
                  obtain ⟨ad962, e962, hx962_0⟩ := Kd.at_int (Kd.R_reads' HO_25.1).2.2 x27_3 p962 q962
                  obtain rfl : ad959 = ad962 := (by injection e962)
                  replace p962 := eq_true p962
                  replace q962 := eq_true q962
                  refine start_ (n := 38) (S := fun w' => w'.cell? (ad958.add (x27_3).toNat) = some (.int .i64 (rd t939 x27_3)) ∧ w'.cell? (ad959.add (x27_3).toNat) = some (.int .i64 (rd t954 x27_3)) ∧ w'.cell? (ad959.add (x27_3).toNat) = some (.int .i64 (rd t954 x27_3)) ∧ w'.cell? (ad958.add (x27_3).toNat) = some (.int .i64 (rd t939 x27_3)) ∧ w'.cell? (ad959.add (x27_3).toNat) = some (.int .i64 (rd t954 x27_3))) (ds := []) #[false, false, false, false, false, false, false, false, false, false, false, false, false, false, false, false, false, false, false, false, false, false, false, false, false, false, false, false, false, false, false, false, false, false, false, false, false, false] (by kernel_rfl) rfl rfl ⟨hx958_0, hx959_0, hx960_0, hx961_0, hx962_0⟩ (fun hHeld => ?_); refine with_tabW glisterlaw04_CipherLost.tab16 glisterlaw04_CipherLost.bits16 (fun HT_ HW_ => ?_)
                  generalize wr.drew = w112 at HO_23 HO_25 BK863 BK864 HB hx958_0 hx959_0 hx960_0 hx961_0 hx962_0 hHeld ⊢
                  refine pure_ (i := 0) (N := some 127) (v := ?_) (a' := ?_) #[true, false, false, false, false, false, false, false, false, false, false, false, false, false, false, false, false, false, false, false, false, false, false, false, false, false, false, false, false, false, false, false, false, false, false, false, false, false] rfl rfl (any_of HT_.1 (by kernel_rfl)) (fun _ _ _ h => h) (Or.inl ⟨by rfl, ?_⟩) ?_ ?_
                  rotate_left
                  ·intro w'
                   go_simp
                   with_reducible rfl
                  rotate_left
                  ·simp only [Act.put, List.setIfInBounds_toArray, List.set_cons_zero, List.set_cons_succ, i64_w, i32_w]
                   rfl
                  refine pure_ (i := 1) (N := some 128) (v := ?_) (a' := ?_) #[true, true, false, false, false, false, false, false, false, false, false, false, false, false, false, false, false, false, false, false, false, false, false, false, false, false, false, false, false, false, false, false, false, false, false, false, false, false] rfl rfl (any_of HT_.1 (by kernel_rfl)) (fun _ _ _ h => h) (Or.inl ⟨by rfl, ?_⟩) ?_ ?_
                  rotate_left
                  ·intro w'
                   go_simp
                   with_reducible rfl
                  rotate_left
                  ·simp only [Act.put, List.setIfInBounds_toArray, List.set_cons_zero, List.set_cons_succ, i64_w, i32_w]
                   rfl
                  refine pure_ (i := 2) (N := some 129) (v := ?_) (a' := ?_) #[true, true, true, false, false, false, false, false, false, false, false, false, false, false, false, false, false, false, false, false, false, false, false, false, false, false, false, false, false, false, false, false, false, false, false, false, false, false] rfl rfl (any_of HT_.1 (by kernel_rfl)) (fun _ _ _ h => h) (Or.inl ⟨by rfl, ?_⟩) ?_ ?_
                  rotate_left
                  ·intro w'
                   go_simp
                   with_reducible rfl
                  rotate_left
                  ·simp only [Act.put, List.setIfInBounds_toArray, List.set_cons_zero, List.set_cons_succ, i64_w, i32_w]
                   rfl
                  refine take_ (i := 3) (N := some 130) (v := ?_) (a' := ?_) #[true, true, true, true, false, false, false, false, false, false, false, false, false, false, false, false, false, false, false, false, false, false, false, false, false, false, false, false, false, false, false, false, false, false, false, false, false, false] rfl rfl (take_ofW HT_.1 HW_.1 (by kernel_rfl)) (fun _ _ _ h => h) (Or.inl ⟨by rfl, ?_⟩) hHeld ?_ ?_
                  rotate_left
                  ·rintro w' ⟨s0, s1, s2, s3, s4⟩
                   go_simp
                   with_reducible rfl
                  rotate_left
                  ·simp only [Act.put, List.setIfInBounds_toArray, List.set_cons_zero, List.set_cons_succ, i64_w, i32_w]
                   rfl
                  refine pure_ (i := 4) (N := some 131) (v := ?_) (a' := ?_) #[true, true, true, true, true, false, false, false, false, false, false, false, false, false, false, false, false, false, false, false, false, false, false, false, false, false, false, false, false, false, false, false, false, false, false, false, false, false] rfl rfl (any_of HT_.1 (by kernel_rfl)) (fun _ _ _ h => h) (Or.inl ⟨by rfl, ?_⟩) ?_ ?_
                  rotate_left
                  ·intro w'
                   go_simp
                   with_reducible rfl
                  rotate_left
                  ·simp only [Act.put, List.setIfInBounds_toArray, List.set_cons_zero, List.set_cons_succ, i64_w, i32_w]
                   rfl
                  refine pure_ (i := 5) (N := some 132) (v := ?_) (a' := ?_) #[true, true, true, true, true, true, false, false, false, false, false, false, false, false, false, false, false, false, false, false, false, false, false, false, false, false, false, false, false, false, false, false, false, false, false, false, false, false] rfl rfl (any_of HT_.1 (by kernel_rfl)) (fun _ _ _ h => h) (Or.inl ⟨by rfl, ?_⟩) ?_ ?_
                  rotate_left
                  ·intro w'
                   go_simp
                   with_reducible rfl
                  rotate_left
                  ·simp only [Act.put, List.setIfInBounds_toArray, List.set_cons_zero, List.set_cons_succ, i64_w, i32_w]
                   rfl
                  refine pure_ (i := 6) (N := some 133) (v := ?_) (a' := ?_) #[true, true, true, true, true, true, true, false, false, false, false, false, false, false, false, false, false, false, false, false, false, false, false, false, false, false, false, false, false, false, false, false, false, false, false, false, false, false] rfl rfl (any_of HT_.1 (by kernel_rfl)) (fun _ _ _ h => h) (Or.inl ⟨by rfl, ?_⟩) ?_ ?_
                  rotate_left
                  ·intro w'
                   go_simp
                   with_reducible rfl
                  rotate_left
                  ·simp only [Act.put, List.setIfInBounds_toArray, List.set_cons_zero, List.set_cons_succ, i64_w, i32_w]
                   rfl
                  refine pure_ (i := 7) (N := some 134) (v := ?_) (a' := ?_) #[true, true, true, true, true, true, true, true, false, false, false, false, false, false, false, false, false, false, false, false, false, false, false, false, false, false, false, false, false, false, false, false, false, false, false, false, false, false] rfl rfl (any_of HT_.1 (by kernel_rfl)) (fun _ _ _ h => h) (Or.inl ⟨by rfl, ?_⟩) ?_ ?_
                  rotate_left
                  ·intro w'
                   go_simp
                   with_reducible rfl
                  rotate_left
                  ·simp only [Act.put, List.setIfInBounds_toArray, List.set_cons_zero, List.set_cons_succ, i64_w, i32_w]
                   rfl
                  refine pure_ (i := 8) (N := some 135) (v := ?_) (a' := ?_) #[true, true, true, true, true, true, true, true, true, false, false, false, false, false, false, false, false, false, false, false, false, false, false, false, false, false, false, false, false, false, false, false, false, false, false, false, false, false] rfl rfl (any_of HT_.1 (by kernel_rfl)) (fun _ _ _ h => h) (Or.inl ⟨by rfl, ?_⟩) ?_ ?_
                  rotate_left
                  ·intro w'
                   go_simp
                   with_reducible rfl
                  rotate_left
                  ·simp only [Act.put, List.setIfInBounds_toArray, List.set_cons_zero, List.set_cons_succ, i64_w, i32_w]
                   rfl
                  refine take_ (i := 9) (N := some 136) (v := ?_) (a' := ?_) #[true, true, true, true, true, true, true, true, true, true, false, false, false, false, false, false, false, false, false, false, false, false, false, false, false, false, false, false, false, false, false, false, false, false, false, false, false, false] rfl rfl (take_ofW HT_.1 HW_.1 (by kernel_rfl)) (fun _ _ _ h => h) (Or.inl ⟨by rfl, ?_⟩) hHeld ?_ ?_
                  rotate_left
                  ·rintro w' ⟨s0, s1, s2, s3, s4⟩
                   go_simp
                   with_reducible rfl
                  rotate_left
                  ·simp only [Act.put, List.setIfInBounds_toArray, List.set_cons_zero, List.set_cons_succ, i64_w, i32_w]
                   rfl
                  refine pure_ (i := 10) (N := some 137) (v := ?_) (a' := ?_) #[true, true, true, true, true, true, true, true, true, true, true, false, false, false, false, false, false, false, false, false, false, false, false, false, false, false, false, false, false, false, false, false, false, false, false, false, false, false] rfl rfl (any_of HT_.1 (by kernel_rfl)) (fun _ _ _ h => h) (Or.inl ⟨by rfl, ?_⟩) ?_ ?_
                  rotate_left
                  ·intro w'
                   go_simp
                   with_reducible rfl
                  rotate_left
                  ·simp only [Act.put, List.setIfInBounds_toArray, List.set_cons_zero, List.set_cons_succ, i64_w, i32_w]
                   rfl
                  refine pure_ (i := 11) (N := some 138) (v := ?_) (a' := ?_) #[true, true, true, true, true, true, true, true, true, true, true, true, false, false, false, false, false, false, false, false, false, false, false, false, false, false, false, false, false, false, false, false, false, false, false, false, false, false] rfl rfl (any_of HT_.1 (by kernel_rfl)) (fun _ _ _ h => h) (Or.inl ⟨by rfl, ?_⟩) ?_ ?_
                  rotate_left
                  ·intro w'
                   go_simp
                   with_reducible rfl
                  rotate_left
                  ·simp only [Act.put, List.setIfInBounds_toArray, List.set_cons_zero, List.set_cons_succ, i64_w, i32_w]
                   rfl
                  refine pure_ (i := 12) (N := some 139) (v := ?_) (a' := ?_) #[true, true, true, true, true, true, true, true, true, true, true, true, true, false, false, false, false, false, false, false, false, false, false, false, false, false, false, false, false, false, false, false, false, false, false, false, false, false] rfl rfl (any_of HT_.1 (by kernel_rfl)) (fun _ _ _ h => h) (Or.inl ⟨by rfl, ?_⟩) ?_ ?_
                  rotate_left
                  ·intro w'
                   go_simp
                   with_reducible rfl
                  rotate_left
                  ·simp only [Act.put, List.setIfInBounds_toArray, List.set_cons_zero, List.set_cons_succ, i64_w, i32_w]
                   rfl
                  refine pure_ (i := 13) (N := some 140) (v := ?_) (a' := ?_) #[true, true, true, true, true, true, true, true, true, true, true, true, true, true, false, false, false, false, false, false, false, false, false, false, false, false, false, false, false, false, false, false, false, false, false, false, false, false] rfl rfl (any_of HT_.1 (by kernel_rfl)) (fun _ _ _ h => h) (Or.inl ⟨by rfl, ?_⟩) ?_ ?_
                  rotate_left
                  ·intro w'
                   go_simp
                   with_reducible rfl
                  rotate_left
                  ·simp only [Act.put, List.setIfInBounds_toArray, List.set_cons_zero, List.set_cons_succ, i64_w, i32_w]
                   rfl
                  refine pure_ (i := 14) (N := some 141) (v := ?_) (a' := ?_) #[true, true, true, true, true, true, true, true, true, true, true, true, true, true, true, false, false, false, false, false, false, false, false, false, false, false, false, false, false, false, false, false, false, false, false, false, false, false] rfl rfl (any_of HT_.1 (by kernel_rfl)) (fun _ _ _ h => h) (Or.inl ⟨by rfl, ?_⟩) ?_ ?_
                  rotate_left
                  ·intro w'
                   go_simp
                   with_reducible rfl
                  rotate_left
                  ·simp only [Act.put, List.setIfInBounds_toArray, List.set_cons_zero, List.set_cons_succ, i64_w, i32_w]
                   rfl
                  refine pure_ (i := 16) (N := some 143) (v := ?_) (a' := ?_) #[true, true, true, true, true, true, true, true, true, true, true, true, true, true, true, false, true, false, false, false, false, false, false, false, false, false, false, false, false, false, false, false, false, false, false, false, false, false] rfl rfl (any_of HT_.1 (by kernel_rfl)) (fun _ _ _ h => h) (Or.inl ⟨by rfl, ?_⟩) ?_ ?_
                  rotate_left
                  ·intro w'
                   go_simp
                   with_reducible rfl
                  rotate_left
                  ·simp only [Act.put, List.setIfInBounds_toArray, List.set_cons_zero, List.set_cons_succ, i64_w, i32_w]
                   rfl
                  refine pure_ (i := 17) (N := some 144) (v := ?_) (a' := ?_) #[true, true, true, true, true, true, true, true, true, true, true, true, true, true, true, false, true, true, false, false, false, false, false, false, false, false, false, false, false, false, false, false, false, false, false, false, false, false] rfl rfl (any_of HT_.1 (by kernel_rfl)) (fun _ _ _ h => h) (Or.inl ⟨by rfl, ?_⟩) ?_ ?_
                  rotate_left
                  ·intro w'
                   go_simp
                   with_reducible rfl
                  rotate_left
                  ·simp only [Act.put, List.setIfInBounds_toArray, List.set_cons_zero, List.set_cons_succ, i64_w, i32_w]
                   rfl
                  refine pure_ (i := 18) (N := some 145) (v := ?_) (a' := ?_) #[true, true, true, true, true, true, true, true, true, true, true, true, true, true, true, false, true, true, true, false, false, false, false, false, false, false, false, false, false, false, false, false, false, false, false, false, false, false] rfl rfl (any_of HT_.1 (by kernel_rfl)) (fun _ _ _ h => h) (Or.inl ⟨by rfl, ?_⟩) ?_ ?_
                  rotate_left
                  ·intro w'
                   go_simp
                   with_reducible rfl
                  rotate_left
                  ·simp only [Act.put, List.setIfInBounds_toArray, List.set_cons_zero, List.set_cons_succ, i64_w, i32_w]
                   rfl
                  refine take_ (i := 15) (N := some 142) (v := ?_) (a' := ?_) #[true, true, true, true, true, true, true, true, true, true, true, true, true, true, true, true, true, true, true, false, false, false, false, false, false, false, false, false, false, false, false, false, false, false, false, false, false, false] rfl rfl (take_ofW HT_.1 HW_.1 (by kernel_rfl)) (fun _ _ _ h => h) (Or.inl ⟨by rfl, ?_⟩) hHeld ?_ ?_
                  rotate_left
                  ·rintro w' ⟨s0, s1, s2, s3, s4⟩
                   go_simp
                   with_reducible rfl
                  rotate_left
                  ·simp only [Act.put, List.setIfInBounds_toArray, List.set_cons_zero, List.set_cons_succ, i64_w, i32_w]
                   rfl
                  refine take_ (i := 19) (N := some 146) (v := ?_) (a' := ?_) #[true, true, true, true, true, true, true, true, true, true, true, true, true, true, true, true, true, true, true, true, false, false, false, false, false, false, false, false, false, false, false, false, false, false, false, false, false, false] rfl rfl (take_ofW HT_.1 HW_.1 (by kernel_rfl)) (fun _ _ _ h => h) (Or.inl ⟨by rfl, ?_⟩) hHeld ?_ ?_
                  rotate_left
                  ·rintro w' ⟨s0, s1, s2, s3, s4⟩
                   go_simp
                   with_reducible rfl
                  rotate_left
                  ·simp only [Act.put, List.setIfInBounds_toArray, List.set_cons_zero, List.set_cons_succ, i64_w, i32_w]
                   rfl
                  refine pure_ (i := 20) (N := some 147) (v := ?_) (a' := ?_) #[true, true, true, true, true, true, true, true, true, true, true, true, true, true, true, true, true, true, true, true, true, false, false, false, false, false, false, false, false, false, false, false, false, false, false, false, false, false] rfl rfl (any_of HT_.1 (by kernel_rfl)) (fun _ _ _ h => h) (Or.inl ⟨by rfl, ?_⟩) ?_ ?_
                  rotate_left
                  ·intro w'
                   go_simp
                   with_reducible rfl
                  rotate_left
                  ·simp only [Act.put, List.setIfInBounds_toArray, List.set_cons_zero, List.set_cons_succ, i64_w, i32_w]
                   rfl
                  refine pure_ (i := 21) (N := some 148) (v := ?_) (a' := ?_) #[true, true, true, true, true, true, true, true, true, true, true, true, true, true, true, true, true, true, true, true, true, true, false, false, false, false, false, false, false, false, false, false, false, false, false, false, false, false] rfl rfl (any_of HT_.1 (by kernel_rfl)) (fun _ _ _ h => h) (Or.inl ⟨by rfl, ?_⟩) ?_ ?_
                  rotate_left
                  ·intro w'
                   go_simp
                   with_reducible rfl
                  rotate_left
                  ·simp only [Act.put, List.setIfInBounds_toArray, List.set_cons_zero, List.set_cons_succ, i64_w, i32_w]
                   rfl
                  refine pure_ (i := 22) (N := some 149) (v := ?_) (a' := ?_) #[true, true, true, true, true, true, true, true, true, true, true, true, true, true, true, true, true, true, true, true, true, true, true, false, false, false, false, false, false, false, false, false, false, false, false, false, false, false] rfl rfl (any_of HT_.1 (by kernel_rfl)) (fun _ _ _ h => h) (Or.inl ⟨by rfl, ?_⟩) ?_ ?_
                  rotate_left
                  ·intro w'
                   go_simp
                   with_reducible rfl
                  rotate_left
                  ·simp only [Act.put, List.setIfInBounds_toArray, List.set_cons_zero, List.set_cons_succ, i64_w, i32_w]
                   rfl
                  refine pure_ (i := 23) (N := some 150) (v := ?_) (a' := ?_) #[true, true, true, true, true, true, true, true, true, true, true, true, true, true, true, true, true, true, true, true, true, true, true, true, false, false, false, false, false, false, false, false, false, false, false, false, false, false] rfl rfl (any_of HT_.1 (by kernel_rfl)) (fun _ _ _ h => h) (Or.inl ⟨by rfl, ?_⟩) ?_ ?_
                  rotate_left
                  ·intro w'
                   go_simp
                   with_reducible rfl
                  rotate_left
                  ·simp only [Act.put, List.setIfInBounds_toArray, List.set_cons_zero, List.set_cons_succ, i64_w, i32_w]
                   rfl
                  refine pure_ (i := 24) (N := some 151) (v := ?_) (a' := ?_) #[true, true, true, true, true, true, true, true, true, true, true, true, true, true, true, true, true, true, true, true, true, true, true, true, true, false, false, false, false, false, false, false, false, false, false, false, false, false] rfl rfl (any_of HT_.1 (by kernel_rfl)) (fun _ _ _ h => h) (Or.inl ⟨by rfl, ?_⟩) ?_ ?_
                  rotate_left
                  ·intro w'
                   go_simp
                   with_reducible rfl
                  rotate_left
                  ·simp only [Act.put, List.setIfInBounds_toArray, List.set_cons_zero, List.set_cons_succ, i64_w, i32_w]
                   rfl
                  refine pure_ (i := 25) (N := some 152) (v := ?_) (a' := ?_) #[true, true, true, true, true, true, true, true, true, true, true, true, true, true, true, true, true, true, true, true, true, true, true, true, true, true, false, false, false, false, false, false, false, false, false, false, false, false] rfl rfl (any_of HT_.1 (by kernel_rfl)) (fun _ _ _ h => h) (Or.inl ⟨by rfl, ?_⟩) ?_ ?_
                  rotate_left
                  ·intro w'
                   go_simp
                   with_reducible rfl
                  rotate_left
                  ·simp only [Act.put, List.setIfInBounds_toArray, List.set_cons_zero, List.set_cons_succ, i64_w, i32_w]
                   rfl
                  refine pure_ (i := 26) (N := some 153) (v := ?_) (a' := ?_) #[true, true, true, true, true, true, true, true, true, true, true, true, true, true, true, true, true, true, true, true, true, true, true, true, true, true, true, false, false, false, false, false, false, false, false, false, false, false] rfl rfl (any_of HT_.1 (by kernel_rfl)) (fun _ _ _ h => h) (Or.inl ⟨by rfl, ?_⟩) ?_ ?_
                  rotate_left
                  ·intro w'
                   go_simp
                   with_reducible rfl
                  rotate_left
                  ·simp only [Act.put, List.setIfInBounds_toArray, List.set_cons_zero, List.set_cons_succ, i64_w, i32_w]
                   rfl
                  refine take_ (i := 27) (N := some 154) (v := ?_) (a' := ?_) #[true, true, true, true, true, true, true, true, true, true, true, true, true, true, true, true, true, true, true, true, true, true, true, true, true, true, true, true, false, false, false, false, false, false, false, false, false, false] rfl rfl (take_ofW HT_.1 HW_.1 (by kernel_rfl)) (fun _ _ _ h => h) (Or.inl ⟨by rfl, ?_⟩) hHeld ?_ ?_
                  rotate_left
                  ·rintro w' ⟨s0, s1, s2, s3, s4⟩
                   go_simp
                   with_reducible rfl
                  rotate_left
                  ·simp only [Act.put, List.setIfInBounds_toArray, List.set_cons_zero, List.set_cons_succ, i64_w, i32_w]
                   rfl
                  refine pure_ (i := 28) (N := some 155) (v := ?_) (a' := ?_) #[true, true, true, true, true, true, true, true, true, true, true, true, true, true, true, true, true, true, true, true, true, true, true, true, true, true, true, true, true, false, false, false, false, false, false, false, false, false] rfl rfl (any_of HT_.1 (by kernel_rfl)) (fun _ _ _ h => h) (Or.inl ⟨by rfl, ?_⟩) ?_ ?_
                  rotate_left
                  ·intro w'
                   go_simp
                   with_reducible rfl
                  rotate_left
                  ·simp only [Act.put, List.setIfInBounds_toArray, List.set_cons_zero, List.set_cons_succ, i64_w, i32_w]
                   rfl
                  refine pure_ (i := 29) (N := some 156) (v := ?_) (a' := ?_) #[true, true, true, true, true, true, true, true, true, true, true, true, true, true, true, true, true, true, true, true, true, true, true, true, true, true, true, true, true, true, false, false, false, false, false, false, false, false] rfl rfl (any_of HT_.1 (by kernel_rfl)) (fun _ _ _ h => h) (Or.inl ⟨by rfl, ?_⟩) ?_ ?_
                  rotate_left
                  ·intro w'
                   go_simp
                   with_reducible rfl
                  rotate_left
                  ·simp only [Act.put, List.setIfInBounds_toArray, List.set_cons_zero, List.set_cons_succ, i64_w, i32_w]
                   rfl
                  refine pure_ (i := 30) (N := some 157) (v := undef) (a' := ?_) #[true, true, true, true, true, true, true, true, true, true, true, true, true, true, true, true, true, true, true, true, true, true, true, true, true, true, true, true, true, true, true, false, false, false, false, false, false, false] rfl rfl (any_of HT_.1 (by kernel_rfl)) (fun _ _ _ h => h) (Or.inr ⟨by rfl, rfl⟩) ?_ ?_
                  rotate_left
                  ·simp only [Act.put, List.setIfInBounds_toArray, List.set_cons_zero, List.set_cons_succ, i64_w, i32_w]
                   rfl
                  refine pure_ (i := 31) (N := some 158) (v := undef) (a' := ?_) #[true, true, true, true, true, true, true, true, true, true, true, true, true, true, true, true, true, true, true, true, true, true, true, true, true, true, true, true, true, true, true, true, false, false, false, false, false, false] rfl rfl (any_of HT_.1 (by kernel_rfl)) (fun _ _ _ h => h) (Or.inr ⟨by rfl, rfl⟩) ?_ ?_
                  rotate_left
                  ·simp only [Act.put, List.setIfInBounds_toArray, List.set_cons_zero, List.set_cons_succ, i64_w, i32_w]
                   rfl
                  refine pure_ (i := 32) (N := some 159) (v := undef) (a' := ?_) #[true, true, true, true, true, true, true, true, true, true, true, true, true, true, true, true, true, true, true, true, true, true, true, true, true, true, true, true, true, true, true, true, true, false, false, false, false, false] rfl rfl (any_of HT_.1 (by kernel_rfl)) (fun _ _ _ h => h) (Or.inr ⟨by rfl, rfl⟩) ?_ ?_
                  rotate_left
                  ·simp only [Act.put, List.setIfInBounds_toArray, List.set_cons_zero, List.set_cons_succ, i64_w, i32_w]
                   rfl
                  refine pure_ (i := 33) (N := some 160) (v := undef) (a' := ?_) #[true, true, true, true, true, true, true, true, true, true, true, true, true, true, true, true, true, true, true, true, true, true, true, true, true, true, true, true, true, true, true, true, true, true, false, false, false, false] rfl rfl (any_of HT_.1 (by kernel_rfl)) (fun _ _ _ h => h) (Or.inr ⟨by rfl, rfl⟩) ?_ ?_
                  rotate_left
                  ·simp only [Act.put, List.setIfInBounds_toArray, List.set_cons_zero, List.set_cons_succ, i64_w, i32_w]
                   rfl
                  refine pure_ (i := 34) (N := some 161) (v := undef) (a' := ?_) #[true, true, true, true, true, true, true, true, true, true, true, true, true, true, true, true, true, true, true, true, true, true, true, true, true, true, true, true, true, true, true, true, true, true, true, false, false, false] rfl rfl (any_of HT_.1 (by kernel_rfl)) (fun _ _ _ h => h) (Or.inr ⟨by rfl, rfl⟩) ?_ ?_
                  rotate_left
                  ·simp only [Act.put, List.setIfInBounds_toArray, List.set_cons_zero, List.set_cons_succ, i64_w, i32_w]
                   rfl
                  refine pure_ (i := 35) (N := some 162) (v := undef) (a' := ?_) #[true, true, true, true, true, true, true, true, true, true, true, true, true, true, true, true, true, true, true, true, true, true, true, true, true, true, true, true, true, true, true, true, true, true, true, true, false, false] rfl rfl (any_of HT_.1 (by kernel_rfl)) (fun _ _ _ h => h) (Or.inr ⟨by rfl, rfl⟩) ?_ ?_
                  rotate_left
                  ·simp only [Act.put, List.setIfInBounds_toArray, List.set_cons_zero, List.set_cons_succ, i64_w, i32_w]
                   rfl
                  refine pure_ (i := 36) (N := some 163) (v := ?_) (a' := ?_) #[true, true, true, true, true, true, true, true, true, true, true, true, true, true, true, true, true, true, true, true, true, true, true, true, true, true, true, true, true, true, true, true, true, true, true, true, true, false] rfl rfl (any_of HT_.1 (by kernel_rfl)) (fun _ _ _ h => h) (Or.inl ⟨by rfl, ?_⟩) ?_ ?_
                  rotate_left
                  ·intro w'
                   go_simp
                   with_reducible rfl
                  rotate_left
                  ·simp only [Act.put, List.setIfInBounds_toArray, List.set_cons_zero, List.set_cons_succ, i64_w, i32_w]
                   rfl
                  refine pure_ (i := 37) (N := some 164) (v := ?_) (a' := ?_) #[true, true, true, true, true, true, true, true, true, true, true, true, true, true, true, true, true, true, true, true, true, true, true, true, true, true, true, true, true, true, true, true, true, true, true, true, true, true] rfl rfl (any_of HT_.1 (by kernel_rfl)) (fun _ _ _ h => h) (Or.inl ⟨by rfl, ?_⟩) ?_ ?_
                  rotate_left
                  ·intro w'
                   go_simp
                   with_reducible rfl
                  rotate_left
                  ·simp only [Act.put, List.setIfInBounds_toArray, List.set_cons_zero, List.set_cons_succ, i64_w, i32_w]
                   rfl
                  refine done_ (done_of HT_.1 (by kernel_rfl)) ?_
                  try go_wp2
                  go_roundg k3
                  case measure => have := HJ7.1; have := HJ50.1; have := HK3.1; omega
                  case rel => exact ⟨(wrap64 (x27_3 + 1)), (by first | rfl ), H', ⟨by have := HJ7.1; have := HJ50.1; have := HK3.1; omega⟩, ⟨by (with_reducible repeat (fail)); exact HO_23.1⟩, ⟨by (with_reducible repeat (fail)); exact HO_25.1⟩, ⟨by (with_reducible repeat (fail)); exact BK863.1⟩, ⟨by (with_reducible repeat (fail)); exact BK864.1⟩, ⟨by repeat (first | (with_reducible first | exact HB.1 ) )⟩⟩
              ·rw [if_neg c103] at H
               exact absurd H (by simp)
             ·rw [if_neg c102] at H
              have c102b0 : decide (0 ≤ (rd t939 x27_3)) = false := decide_eq_false c102
              clear c102
              by_cases c114 : x27_3 < (t954.length : Int)
              ·rw [if_pos c114] at H
               have c114b0 : decide (x27_3 < (t954.length : Int)) = true := decide_eq_true c114
               clear c114
               by_cases c115 : (rd t954 x27_3) ≥ 0
               ·rw [if_pos c115] at H
                have c115b0 : decide (0 ≤ (rd t954 x27_3)) = true := decide_eq_true c115
                clear c115
                by_cases c116 : (rd t954 x27_3) < x27_3
                ·rw [if_pos c116] at H
                 exact absurd H (by simp)
                ·as_aux_lemma =>
                 rw [if_neg c116] at H
                 have c116b0 : decide ((rd t954 x27_3) < x27_3) = false := decide_eq_false c116
                 clear c116
                 have H' := Sd.mk H
                 clear H
                 obtain ⟨Ao117, co117, eo117⟩ := Kd.R_slice HO_23.1
                 subst eo117
                 try go_wp2
                 have n0_ := Sd.mk (Kd.R_drew HO_23.1)
                 have n1_ := Sd.mk (Kd.R_drew HO_25.1)
                 have n2_ := Sd.mk (kD BK863.1)
                 have n3_ := Sd.mk (kD BK864.1)
                 have n4_ := Sd.mk (bD HB.1)
                 clear HO_23
                 clear HO_25
                 clear BK863
                 clear BK864
                 clear HB
                 have HO_23 := n0_
                 have HO_25 := n1_
                 have BK863 := n2_
                 have BK864 := n3_
                 have HB := n4_
                 clear n0_ n1_ n2_ n3_ n4_
                 have p958 : 0 ≤ (x27_3 : Int) := of_decide_eq_true (by first | (with_reducible assumption) )
                 have q958 : x27_3 < (t939.length : Int) := of_decide_eq_true (by first | (with_reducible assumption) )
                 obtain ⟨ad958, e958, hx958_0⟩ := Kd.at_int (Kd.R_reads' HO_23.1).2.2 x27_3 p958 q958
                 cases e958
                 replace p958 := eq_true p958
                 replace q958 := eq_true q958
                 obtain ⟨Ao119, co119, eo119⟩ := Kd.R_slice HO_25.1
                 (subst eo119 )
                 have p964 : 0 ≤ (x27_3 : Int) := of_decide_eq_true (by first | (with_reducible assumption) )
                 have q964 : x27_3 < (t954.length : Int) := of_decide_eq_true (by first | (with_reducible assumption) )
                 obtain ⟨ad964, e964, hx964_0⟩ := Kd.at_int (Kd.R_reads' HO_25.1).2.2 x27_3 p964 q964
                 cases e964
                 replace p964 := eq_true p964
                 replace q964 := eq_true q964
                 have p965 : 0 ≤ (x27_3 : Int) := of_decide_eq_true (by first | (with_reducible assumption) )
                 have q965 : x27_3 < (t954.length : Int) := of_decide_eq_true (by first | (with_reducible assumption) )
                 obtain ⟨ad965, e965, hx965_0⟩ := Kd.at_int (Kd.R_reads' HO_25.1).2.2 x27_3 p965 q965
                 obtain rfl : ad964 = ad965 := (by injection e965)
                 replace p965 := eq_true p965
                 replace q965 := eq_true q965
                 refine start_ (n := 38) (S := fun w' => w'.cell? (ad958.add (x27_3).toNat) = some (.int .i64 (rd t939 x27_3)) ∧ w'.cell? (ad964.add (x27_3).toNat) = some (.int .i64 (rd t954 x27_3)) ∧ w'.cell? (ad964.add (x27_3).toNat) = some (.int .i64 (rd t954 x27_3))) (ds := []) #[false, false, false, false, false, false, false, false, false, false, false, false, false, false, false, false, false, false, false, false, false, false, false, false, false, false, false, false, false, false, false, false, false, false, false, false, false, false] (by kernel_rfl) rfl rfl ⟨hx958_0, hx964_0, hx965_0⟩ (fun hHeld => ?_); refine with_tabW glisterlaw04_CipherLost.tab16 glisterlaw04_CipherLost.bits16 (fun HT_ HW_ => ?_)
                 generalize wr.drew = w118 at HO_23 HO_25 BK863 BK864 HB hx958_0 hx964_0 hx965_0 hHeld ⊢
                 refine pure_ (i := 0) (N := some 127) (v := ?_) (a' := ?_) #[true, false, false, false, false, false, false, false, false, false, false, false, false, false, false, false, false, false, false, false, false, false, false, false, false, false, false, false, false, false, false, false, false, false, false, false, false, false] rfl rfl (any_of HT_.1 (by kernel_rfl)) (fun _ _ _ h => h) (Or.inl ⟨by rfl, ?_⟩) ?_ ?_
                 rotate_left
                 ·intro w'
                  go_simp
                  with_reducible rfl
                 rotate_left
                 ·simp only [Act.put, List.setIfInBounds_toArray, List.set_cons_zero, List.set_cons_succ, i64_w, i32_w]
                  rfl
                 refine pure_ (i := 1) (N := some 128) (v := ?_) (a' := ?_) #[true, true, false, false, false, false, false, false, false, false, false, false, false, false, false, false, false, false, false, false, false, false, false, false, false, false, false, false, false, false, false, false, false, false, false, false, false, false] rfl rfl (any_of HT_.1 (by kernel_rfl)) (fun _ _ _ h => h) (Or.inl ⟨by rfl, ?_⟩) ?_ ?_
                 rotate_left
                 ·intro w'
                  go_simp
                  with_reducible rfl
                 rotate_left
                 ·simp only [Act.put, List.setIfInBounds_toArray, List.set_cons_zero, List.set_cons_succ, i64_w, i32_w]
                  rfl
                 refine pure_ (i := 2) (N := some 129) (v := ?_) (a' := ?_) #[true, true, true, false, false, false, false, false, false, false, false, false, false, false, false, false, false, false, false, false, false, false, false, false, false, false, false, false, false, false, false, false, false, false, false, false, false, false] rfl rfl (any_of HT_.1 (by kernel_rfl)) (fun _ _ _ h => h) (Or.inl ⟨by rfl, ?_⟩) ?_ ?_
                 rotate_left
                 ·intro w'
                  go_simp
                  with_reducible rfl
                 rotate_left
                 ·simp only [Act.put, List.setIfInBounds_toArray, List.set_cons_zero, List.set_cons_succ, i64_w, i32_w]
                  rfl
                 refine take_ (i := 3) (N := some 130) (v := ?_) (a' := ?_) #[true, true, true, true, false, false, false, false, false, false, false, false, false, false, false, false, false, false, false, false, false, false, false, false, false, false, false, false, false, false, false, false, false, false, false, false, false, false] rfl rfl (take_ofW HT_.1 HW_.1 (by kernel_rfl)) (fun _ _ _ h => h) (Or.inl ⟨by rfl, ?_⟩) hHeld ?_ ?_
                 rotate_left
                 ·rintro w' ⟨s0, s1, s2⟩
                  go_simp
                  with_reducible rfl
                 rotate_left
                 ·simp only [Act.put, List.setIfInBounds_toArray, List.set_cons_zero, List.set_cons_succ, i64_w, i32_w]
                  rfl
                 refine pure_ (i := 4) (N := some 131) (v := ?_) (a' := ?_) #[true, true, true, true, true, false, false, false, false, false, false, false, false, false, false, false, false, false, false, false, false, false, false, false, false, false, false, false, false, false, false, false, false, false, false, false, false, false] rfl rfl (any_of HT_.1 (by kernel_rfl)) (fun _ _ _ h => h) (Or.inl ⟨by rfl, ?_⟩) ?_ ?_
                 rotate_left
                 ·intro w'
                  go_simp
                  with_reducible rfl
                 rotate_left
                 ·simp only [Act.put, List.setIfInBounds_toArray, List.set_cons_zero, List.set_cons_succ, i64_w, i32_w]
                  rfl
                 refine pure_ (i := 5) (N := some 132) (v := ?_) (a' := ?_) #[true, true, true, true, true, true, false, false, false, false, false, false, false, false, false, false, false, false, false, false, false, false, false, false, false, false, false, false, false, false, false, false, false, false, false, false, false, false] rfl rfl (any_of HT_.1 (by kernel_rfl)) (fun _ _ _ h => h) (Or.inl ⟨by rfl, ?_⟩) ?_ ?_
                 rotate_left
                 ·intro w'
                  go_simp
                  with_reducible rfl
                 rotate_left
                 ·simp only [Act.put, List.setIfInBounds_toArray, List.set_cons_zero, List.set_cons_succ, i64_w, i32_w]
                  rfl
                 refine pure_ (i := 6) (N := some 133) (v := undef) (a' := ?_) #[true, true, true, true, true, true, true, false, false, false, false, false, false, false, false, false, false, false, false, false, false, false, false, false, false, false, false, false, false, false, false, false, false, false, false, false, false, false] rfl rfl (any_of HT_.1 (by kernel_rfl)) (fun _ _ _ h => h) (Or.inr ⟨by rfl, rfl⟩) ?_ ?_
                 rotate_left
                 ·simp only [Act.put, List.setIfInBounds_toArray, List.set_cons_zero, List.set_cons_succ, i64_w, i32_w]
                  rfl
                 refine pure_ (i := 7) (N := some 134) (v := undef) (a' := ?_) #[true, true, true, true, true, true, true, true, false, false, false, false, false, false, false, false, false, false, false, false, false, false, false, false, false, false, false, false, false, false, false, false, false, false, false, false, false, false] rfl rfl (any_of HT_.1 (by kernel_rfl)) (fun _ _ _ h => h) (Or.inr ⟨by rfl, rfl⟩) ?_ ?_
                 rotate_left
                 ·simp only [Act.put, List.setIfInBounds_toArray, List.set_cons_zero, List.set_cons_succ, i64_w, i32_w]
                  rfl
                 refine pure_ (i := 8) (N := some 135) (v := undef) (a' := ?_) #[true, true, true, true, true, true, true, true, true, false, false, false, false, false, false, false, false, false, false, false, false, false, false, false, false, false, false, false, false, false, false, false, false, false, false, false, false, false] rfl rfl (any_of HT_.1 (by kernel_rfl)) (fun _ _ _ h => h) (Or.inr ⟨by rfl, rfl⟩) ?_ ?_
                 rotate_left
                 ·simp only [Act.put, List.setIfInBounds_toArray, List.set_cons_zero, List.set_cons_succ, i64_w, i32_w]
                  rfl
                 refine pure_ (i := 9) (N := some 136) (v := undef) (a' := ?_) #[true, true, true, true, true, true, true, true, true, true, false, false, false, false, false, false, false, false, false, false, false, false, false, false, false, false, false, false, false, false, false, false, false, false, false, false, false, false] rfl rfl (any_of HT_.1 (by kernel_rfl)) (fun _ _ _ h => h) (Or.inr ⟨by rfl, rfl⟩) ?_ ?_
                 rotate_left
                 ·simp only [Act.put, List.setIfInBounds_toArray, List.set_cons_zero, List.set_cons_succ, i64_w, i32_w]
                  rfl
                 refine pure_ (i := 10) (N := some 137) (v := undef) (a' := ?_) #[true, true, true, true, true, true, true, true, true, true, true, false, false, false, false, false, false, false, false, false, false, false, false, false, false, false, false, false, false, false, false, false, false, false, false, false, false, false] rfl rfl (any_of HT_.1 (by kernel_rfl)) (fun _ _ _ h => h) (Or.inr ⟨by rfl, rfl⟩) ?_ ?_
                 rotate_left
                 ·simp only [Act.put, List.setIfInBounds_toArray, List.set_cons_zero, List.set_cons_succ, i64_w, i32_w]
                  rfl
                 refine pure_ (i := 11) (N := some 138) (v := undef) (a' := ?_) #[true, true, true, true, true, true, true, true, true, true, true, true, false, false, false, false, false, false, false, false, false, false, false, false, false, false, false, false, false, false, false, false, false, false, false, false, false, false] rfl rfl (any_of HT_.1 (by kernel_rfl)) (fun _ _ _ h => h) (Or.inr ⟨by rfl, rfl⟩) ?_ ?_
                 rotate_left
                 ·simp only [Act.put, List.setIfInBounds_toArray, List.set_cons_zero, List.set_cons_succ, i64_w, i32_w]
                  rfl
                 refine pure_ (i := 12) (N := some 139) (v := undef) (a' := ?_) #[true, true, true, true, true, true, true, true, true, true, true, true, true, false, false, false, false, false, false, false, false, false, false, false, false, false, false, false, false, false, false, false, false, false, false, false, false, false] rfl rfl (any_of HT_.1 (by kernel_rfl)) (fun _ _ _ h => h) (Or.inr ⟨by rfl, rfl⟩) ?_ ?_
                 rotate_left
                 ·simp only [Act.put, List.setIfInBounds_toArray, List.set_cons_zero, List.set_cons_succ, i64_w, i32_w]
                  rfl
                 refine pure_ (i := 13) (N := some 140) (v := undef) (a' := ?_) #[true, true, true, true, true, true, true, true, true, true, true, true, true, true, false, false, false, false, false, false, false, false, false, false, false, false, false, false, false, false, false, false, false, false, false, false, false, false] rfl rfl (any_of HT_.1 (by kernel_rfl)) (fun _ _ _ h => h) (Or.inr ⟨by rfl, rfl⟩) ?_ ?_
                 rotate_left
                 ·simp only [Act.put, List.setIfInBounds_toArray, List.set_cons_zero, List.set_cons_succ, i64_w, i32_w]
                  rfl
                 refine pure_ (i := 14) (N := some 141) (v := undef) (a' := ?_) #[true, true, true, true, true, true, true, true, true, true, true, true, true, true, true, false, false, false, false, false, false, false, false, false, false, false, false, false, false, false, false, false, false, false, false, false, false, false] rfl rfl (any_of HT_.1 (by kernel_rfl)) (fun _ _ _ h => h) (Or.inr ⟨by rfl, rfl⟩) ?_ ?_
                 rotate_left
                 ·simp only [Act.put, List.setIfInBounds_toArray, List.set_cons_zero, List.set_cons_succ, i64_w, i32_w]
                  rfl
                 refine pure_ (i := 15) (N := some 142) (v := undef) (a' := ?_) #[true, true, true, true, true, true, true, true, true, true, true, true, true, true, true, true, false, false, false, false, false, false, false, false, false, false, false, false, false, false, false, false, false, false, false, false, false, false] rfl rfl (any_of HT_.1 (by kernel_rfl)) (fun _ _ _ h => h) (Or.inr ⟨by rfl, rfl⟩) ?_ ?_
                 rotate_left
                 ·simp only [Act.put, List.setIfInBounds_toArray, List.set_cons_zero, List.set_cons_succ, i64_w, i32_w]
                  rfl
                 refine pure_ (i := 16) (N := some 143) (v := undef) (a' := ?_) #[true, true, true, true, true, true, true, true, true, true, true, true, true, true, true, true, true, false, false, false, false, false, false, false, false, false, false, false, false, false, false, false, false, false, false, false, false, false] rfl rfl (any_of HT_.1 (by kernel_rfl)) (fun _ _ _ h => h) (Or.inr ⟨by rfl, rfl⟩) ?_ ?_
                 rotate_left
                 ·simp only [Act.put, List.setIfInBounds_toArray, List.set_cons_zero, List.set_cons_succ, i64_w, i32_w]
                  rfl
                 refine pure_ (i := 17) (N := some 144) (v := undef) (a' := ?_) #[true, true, true, true, true, true, true, true, true, true, true, true, true, true, true, true, true, true, false, false, false, false, false, false, false, false, false, false, false, false, false, false, false, false, false, false, false, false] rfl rfl (any_of HT_.1 (by kernel_rfl)) (fun _ _ _ h => h) (Or.inr ⟨by rfl, rfl⟩) ?_ ?_
                 rotate_left
                 ·simp only [Act.put, List.setIfInBounds_toArray, List.set_cons_zero, List.set_cons_succ, i64_w, i32_w]
                  rfl
                 refine pure_ (i := 18) (N := some 145) (v := undef) (a' := ?_) #[true, true, true, true, true, true, true, true, true, true, true, true, true, true, true, true, true, true, true, false, false, false, false, false, false, false, false, false, false, false, false, false, false, false, false, false, false, false] rfl rfl (any_of HT_.1 (by kernel_rfl)) (fun _ _ _ h => h) (Or.inr ⟨by rfl, rfl⟩) ?_ ?_
                 rotate_left
                 ·simp only [Act.put, List.setIfInBounds_toArray, List.set_cons_zero, List.set_cons_succ, i64_w, i32_w]
                  rfl
                 refine pure_ (i := 19) (N := some 146) (v := undef) (a' := ?_) #[true, true, true, true, true, true, true, true, true, true, true, true, true, true, true, true, true, true, true, true, false, false, false, false, false, false, false, false, false, false, false, false, false, false, false, false, false, false] rfl rfl (any_of HT_.1 (by kernel_rfl)) (fun _ _ _ h => h) (Or.inr ⟨by rfl, rfl⟩) ?_ ?_
                 rotate_left
                 ·simp only [Act.put, List.setIfInBounds_toArray, List.set_cons_zero, List.set_cons_succ, i64_w, i32_w]
                  rfl
                 refine pure_ (i := 20) (N := some 147) (v := undef) (a' := ?_) #[true, true, true, true, true, true, true, true, true, true, true, true, true, true, true, true, true, true, true, true, true, false, false, false, false, false, false, false, false, false, false, false, false, false, false, false, false, false] rfl rfl (any_of HT_.1 (by kernel_rfl)) (fun _ _ _ h => h) (Or.inr ⟨by rfl, rfl⟩) ?_ ?_
                 rotate_left
                 ·simp only [Act.put, List.setIfInBounds_toArray, List.set_cons_zero, List.set_cons_succ, i64_w, i32_w]
                  rfl
                 refine pure_ (i := 21) (N := some 148) (v := undef) (a' := ?_) #[true, true, true, true, true, true, true, true, true, true, true, true, true, true, true, true, true, true, true, true, true, true, false, false, false, false, false, false, false, false, false, false, false, false, false, false, false, false] rfl rfl (any_of HT_.1 (by kernel_rfl)) (fun _ _ _ h => h) (Or.inr ⟨by rfl, rfl⟩) ?_ ?_
                 rotate_left
                 ·simp only [Act.put, List.setIfInBounds_toArray, List.set_cons_zero, List.set_cons_succ, i64_w, i32_w]
                  rfl
                 refine pure_ (i := 22) (N := some 149) (v := ?_) (a' := ?_) #[true, true, true, true, true, true, true, true, true, true, true, true, true, true, true, true, true, true, true, true, true, true, true, false, false, false, false, false, false, false, false, false, false, false, false, false, false, false] rfl rfl (any_of HT_.1 (by kernel_rfl)) (fun _ _ _ h => h) (Or.inl ⟨by rfl, ?_⟩) ?_ ?_
                 rotate_left
                 ·intro w'
                  go_simp
                  with_reducible rfl
                 rotate_left
                 ·simp only [Act.put, List.setIfInBounds_toArray, List.set_cons_zero, List.set_cons_succ, i64_w, i32_w]
                  rfl
                 refine pure_ (i := 23) (N := some 150) (v := ?_) (a' := ?_) #[true, true, true, true, true, true, true, true, true, true, true, true, true, true, true, true, true, true, true, true, true, true, true, true, false, false, false, false, false, false, false, false, false, false, false, false, false, false] rfl rfl (any_of HT_.1 (by kernel_rfl)) (fun _ _ _ h => h) (Or.inl ⟨by rfl, ?_⟩) ?_ ?_
                 rotate_left
                 ·intro w'
                  go_simp
                  with_reducible rfl
                 rotate_left
                 ·simp only [Act.put, List.setIfInBounds_toArray, List.set_cons_zero, List.set_cons_succ, i64_w, i32_w]
                  rfl
                 refine pure_ (i := 24) (N := some 151) (v := ?_) (a' := ?_) #[true, true, true, true, true, true, true, true, true, true, true, true, true, true, true, true, true, true, true, true, true, true, true, true, true, false, false, false, false, false, false, false, false, false, false, false, false, false] rfl rfl (any_of HT_.1 (by kernel_rfl)) (fun _ _ _ h => h) (Or.inl ⟨by rfl, ?_⟩) ?_ ?_
                 rotate_left
                 ·intro w'
                  go_simp
                  with_reducible rfl
                 rotate_left
                 ·simp only [Act.put, List.setIfInBounds_toArray, List.set_cons_zero, List.set_cons_succ, i64_w, i32_w]
                  rfl
                 refine pure_ (i := 25) (N := some 152) (v := ?_) (a' := ?_) #[true, true, true, true, true, true, true, true, true, true, true, true, true, true, true, true, true, true, true, true, true, true, true, true, true, true, false, false, false, false, false, false, false, false, false, false, false, false] rfl rfl (any_of HT_.1 (by kernel_rfl)) (fun _ _ _ h => h) (Or.inl ⟨by rfl, ?_⟩) ?_ ?_
                 rotate_left
                 ·intro w'
                  go_simp
                  with_reducible rfl
                 rotate_left
                 ·simp only [Act.put, List.setIfInBounds_toArray, List.set_cons_zero, List.set_cons_succ, i64_w, i32_w]
                  rfl
                 refine pure_ (i := 26) (N := some 153) (v := ?_) (a' := ?_) #[true, true, true, true, true, true, true, true, true, true, true, true, true, true, true, true, true, true, true, true, true, true, true, true, true, true, true, false, false, false, false, false, false, false, false, false, false, false] rfl rfl (any_of HT_.1 (by kernel_rfl)) (fun _ _ _ h => h) (Or.inl ⟨by rfl, ?_⟩) ?_ ?_
                 rotate_left
                 ·intro w'
                  go_simp
                  with_reducible rfl
                 rotate_left
                 ·simp only [Act.put, List.setIfInBounds_toArray, List.set_cons_zero, List.set_cons_succ, i64_w, i32_w]
                  rfl
                 refine take_ (i := 27) (N := some 154) (v := ?_) (a' := ?_) #[true, true, true, true, true, true, true, true, true, true, true, true, true, true, true, true, true, true, true, true, true, true, true, true, true, true, true, true, false, false, false, false, false, false, false, false, false, false] rfl rfl (take_ofW HT_.1 HW_.1 (by kernel_rfl)) (fun _ _ _ h => h) (Or.inl ⟨by rfl, ?_⟩) hHeld ?_ ?_
                 rotate_left
                 ·rintro w' ⟨s0, s1, s2⟩
                  go_simp
                  with_reducible rfl
                 rotate_left
                 ·simp only [Act.put, List.setIfInBounds_toArray, List.set_cons_zero, List.set_cons_succ, i64_w, i32_w]
                  rfl
                 refine pure_ (i := 28) (N := some 155) (v := ?_) (a' := ?_) #[true, true, true, true, true, true, true, true, true, true, true, true, true, true, true, true, true, true, true, true, true, true, true, true, true, true, true, true, true, false, false, false, false, false, false, false, false, false] rfl rfl (any_of HT_.1 (by kernel_rfl)) (fun _ _ _ h => h) (Or.inl ⟨by rfl, ?_⟩) ?_ ?_
                 rotate_left
                 ·intro w'
                  go_simp
                  with_reducible rfl
                 rotate_left
                 ·simp only [Act.put, List.setIfInBounds_toArray, List.set_cons_zero, List.set_cons_succ, i64_w, i32_w]
                  rfl
                 refine pure_ (i := 29) (N := some 156) (v := ?_) (a' := ?_) #[true, true, true, true, true, true, true, true, true, true, true, true, true, true, true, true, true, true, true, true, true, true, true, true, true, true, true, true, true, true, false, false, false, false, false, false, false, false] rfl rfl (any_of HT_.1 (by kernel_rfl)) (fun _ _ _ h => h) (Or.inl ⟨by rfl, ?_⟩) ?_ ?_
                 rotate_left
                 ·intro w'
                  go_simp
                  with_reducible rfl
                 rotate_left
                 ·simp only [Act.put, List.setIfInBounds_toArray, List.set_cons_zero, List.set_cons_succ, i64_w, i32_w]
                  rfl
                 refine pure_ (i := 30) (N := some 157) (v := ?_) (a' := ?_) #[true, true, true, true, true, true, true, true, true, true, true, true, true, true, true, true, true, true, true, true, true, true, true, true, true, true, true, true, true, true, true, false, false, false, false, false, false, false] rfl rfl (any_of HT_.1 (by kernel_rfl)) (fun _ _ _ h => h) (Or.inl ⟨by rfl, ?_⟩) ?_ ?_
                 rotate_left
                 ·intro w'
                  go_simp
                  with_reducible rfl
                 rotate_left
                 ·simp only [Act.put, List.setIfInBounds_toArray, List.set_cons_zero, List.set_cons_succ, i64_w, i32_w]
                  rfl
                 refine pure_ (i := 31) (N := some 158) (v := ?_) (a' := ?_) #[true, true, true, true, true, true, true, true, true, true, true, true, true, true, true, true, true, true, true, true, true, true, true, true, true, true, true, true, true, true, true, true, false, false, false, false, false, false] rfl rfl (any_of HT_.1 (by kernel_rfl)) (fun _ _ _ h => h) (Or.inl ⟨by rfl, ?_⟩) ?_ ?_
                 rotate_left
                 ·intro w'
                  go_simp
                  with_reducible rfl
                 rotate_left
                 ·simp only [Act.put, List.setIfInBounds_toArray, List.set_cons_zero, List.set_cons_succ, i64_w, i32_w]
                  rfl
                 refine pure_ (i := 32) (N := some 159) (v := ?_) (a' := ?_) #[true, true, true, true, true, true, true, true, true, true, true, true, true, true, true, true, true, true, true, true, true, true, true, true, true, true, true, true, true, true, true, true, true, false, false, false, false, false] rfl rfl (any_of HT_.1 (by kernel_rfl)) (fun _ _ _ h => h) (Or.inl ⟨by rfl, ?_⟩) ?_ ?_
                 rotate_left
                 ·intro w'
                  go_simp
                  with_reducible rfl
                 rotate_left
                 ·simp only [Act.put, List.setIfInBounds_toArray, List.set_cons_zero, List.set_cons_succ, i64_w, i32_w]
                  rfl
                 refine pure_ (i := 34) (N := some 161) (v := ?_) (a' := ?_) #[true, true, true, true, true, true, true, true, true, true, true, true, true, true, true, true, true, true, true, true, true, true, true, true, true, true, true, true, true, true, true, true, true, false, true, false, false, false] rfl rfl (any_of HT_.1 (by kernel_rfl)) (fun _ _ _ h => h) (Or.inl ⟨by rfl, ?_⟩) ?_ ?_
                 rotate_left
                 ·intro w'
                  go_simp
                  with_reducible rfl
                 rotate_left
                 ·simp only [Act.put, List.setIfInBounds_toArray, List.set_cons_zero, List.set_cons_succ, i64_w, i32_w]
                  rfl
                 refine take_ (i := 33) (N := some 160) (v := ?_) (a' := ?_) #[true, true, true, true, true, true, true, true, true, true, true, true, true, true, true, true, true, true, true, true, true, true, true, true, true, true, true, true, true, true, true, true, true, true, true, false, false, false] rfl rfl (take_ofW HT_.1 HW_.1 (by kernel_rfl)) (fun _ _ _ h => h) (Or.inl ⟨by rfl, ?_⟩) hHeld ?_ ?_
                 rotate_left
                 ·rintro w' ⟨s0, s1, s2⟩
                  go_simp
                  with_reducible rfl
                 rotate_left
                 ·simp only [Act.put, List.setIfInBounds_toArray, List.set_cons_zero, List.set_cons_succ, i64_w, i32_w]
                  rfl
                 refine pure_ (i := 35) (N := some 162) (v := ?_) (a' := ?_) #[true, true, true, true, true, true, true, true, true, true, true, true, true, true, true, true, true, true, true, true, true, true, true, true, true, true, true, true, true, true, true, true, true, true, true, true, false, false] rfl rfl (any_of HT_.1 (by kernel_rfl)) (fun _ _ _ h => h) (Or.inl ⟨by rfl, ?_⟩) ?_ ?_
                 rotate_left
                 ·intro w'
                  go_simp
                  with_reducible rfl
                 rotate_left
                 ·simp only [Act.put, List.setIfInBounds_toArray, List.set_cons_zero, List.set_cons_succ, i64_w, i32_w]
                  rfl
                 refine pure_ (i := 36) (N := some 163) (v := ?_) (a' := ?_) #[true, true, true, true, true, true, true, true, true, true, true, true, true, true, true, true, true, true, true, true, true, true, true, true, true, true, true, true, true, true, true, true, true, true, true, true, true, false] rfl rfl (any_of HT_.1 (by kernel_rfl)) (fun _ _ _ h => h) (Or.inl ⟨by rfl, ?_⟩) ?_ ?_
                 rotate_left
                 ·intro w'
                  go_simp
                  with_reducible rfl
                 rotate_left
                 ·simp only [Act.put, List.setIfInBounds_toArray, List.set_cons_zero, List.set_cons_succ, i64_w, i32_w]
                  rfl
                 refine pure_ (i := 37) (N := some 164) (v := ?_) (a' := ?_) #[true, true, true, true, true, true, true, true, true, true, true, true, true, true, true, true, true, true, true, true, true, true, true, true, true, true, true, true, true, true, true, true, true, true, true, true, true, true] rfl rfl (any_of HT_.1 (by kernel_rfl)) (fun _ _ _ h => h) (Or.inl ⟨by rfl, ?_⟩) ?_ ?_
                 rotate_left
                 ·intro w'
                  go_simp
                  with_reducible rfl
                 rotate_left
                 ·simp only [Act.put, List.setIfInBounds_toArray, List.set_cons_zero, List.set_cons_succ, i64_w, i32_w]
                  rfl
                 refine done_ (done_of HT_.1 (by kernel_rfl)) ?_
                 try go_wp2
                 go_roundg k3
                 case measure => have := HJ7.1; have := HJ50.1; have := HK3.1; omega
                 case rel => exact ⟨(wrap64 (x27_3 + 1)), (by first | rfl ), H', ⟨by have := HJ7.1; have := HJ50.1; have := HK3.1; omega⟩, ⟨by (with_reducible repeat (fail)); exact HO_23.1⟩, ⟨by (with_reducible repeat (fail)); exact HO_25.1⟩, ⟨by (with_reducible repeat (fail)); exact BK863.1⟩, ⟨by (with_reducible repeat (fail)); exact BK864.1⟩, ⟨by repeat (first | (with_reducible first | exact HB.1 ) )⟩⟩
               ·as_aux_lemma =>
                rw [if_neg c115] at H
                have c115b0 : decide (0 ≤ (rd t954 x27_3)) = false := decide_eq_false c115
                clear c115
                have H' := Sd.mk H
                clear H
                obtain ⟨Ao120, co120, eo120⟩ := Kd.R_slice HO_23.1
                subst eo120
                try go_wp2
                have n0_ := Sd.mk (Kd.R_drew HO_23.1)
                have n1_ := Sd.mk (Kd.R_drew HO_25.1)
                have n2_ := Sd.mk (kD BK863.1)
                have n3_ := Sd.mk (kD BK864.1)
                have n4_ := Sd.mk (bD HB.1)
                clear HO_23
                clear HO_25
                clear BK863
                clear BK864
                clear HB
                have HO_23 := n0_
                have HO_25 := n1_
                have BK863 := n2_
                have BK864 := n3_
                have HB := n4_
                clear n0_ n1_ n2_ n3_ n4_
                have p958 : 0 ≤ (x27_3 : Int) := of_decide_eq_true (by first | (with_reducible assumption) )
                have q958 : x27_3 < (t939.length : Int) := of_decide_eq_true (by first | (with_reducible assumption) )
                obtain ⟨ad958, e958, hx958_0⟩ := Kd.at_int (Kd.R_reads' HO_23.1).2.2 x27_3 p958 q958
                cases e958
                replace p958 := eq_true p958
                replace q958 := eq_true q958
                obtain ⟨Ao122, co122, eo122⟩ := Kd.R_slice HO_25.1
                (subst eo122 )
                have p964 : 0 ≤ (x27_3 : Int) := of_decide_eq_true (by first | (with_reducible assumption) )
                have q964 : x27_3 < (t954.length : Int) := of_decide_eq_true (by first | (with_reducible assumption) )
                obtain ⟨ad964, e964, hx964_0⟩ := Kd.at_int (Kd.R_reads' HO_25.1).2.2 x27_3 p964 q964
                cases e964
                replace p964 := eq_true p964
                replace q964 := eq_true q964
                refine start_ (n := 38) (S := fun w' => w'.cell? (ad958.add (x27_3).toNat) = some (.int .i64 (rd t939 x27_3)) ∧ w'.cell? (ad964.add (x27_3).toNat) = some (.int .i64 (rd t954 x27_3))) (ds := []) #[false, false, false, false, false, false, false, false, false, false, false, false, false, false, false, false, false, false, false, false, false, false, false, false, false, false, false, false, false, false, false, false, false, false, false, false, false, false] (by kernel_rfl) rfl rfl ⟨hx958_0, hx964_0⟩ (fun hHeld => ?_); refine with_tabW glisterlaw04_CipherLost.tab16 glisterlaw04_CipherLost.bits16 (fun HT_ HW_ => ?_)
                generalize wr.drew = w121 at HO_23 HO_25 BK863 BK864 HB hx958_0 hx964_0 hHeld ⊢
                refine pure_ (i := 0) (N := some 127) (v := ?_) (a' := ?_) #[true, false, false, false, false, false, false, false, false, false, false, false, false, false, false, false, false, false, false, false, false, false, false, false, false, false, false, false, false, false, false, false, false, false, false, false, false, false] rfl rfl (any_of HT_.1 (by kernel_rfl)) (fun _ _ _ h => h) (Or.inl ⟨by rfl, ?_⟩) ?_ ?_
                rotate_left
                ·intro w'
                 go_simp
                 with_reducible rfl
                rotate_left
                ·simp only [Act.put, List.setIfInBounds_toArray, List.set_cons_zero, List.set_cons_succ, i64_w, i32_w]
                 rfl
                refine pure_ (i := 1) (N := some 128) (v := ?_) (a' := ?_) #[true, true, false, false, false, false, false, false, false, false, false, false, false, false, false, false, false, false, false, false, false, false, false, false, false, false, false, false, false, false, false, false, false, false, false, false, false, false] rfl rfl (any_of HT_.1 (by kernel_rfl)) (fun _ _ _ h => h) (Or.inl ⟨by rfl, ?_⟩) ?_ ?_
                rotate_left
                ·intro w'
                 go_simp
                 with_reducible rfl
                rotate_left
                ·simp only [Act.put, List.setIfInBounds_toArray, List.set_cons_zero, List.set_cons_succ, i64_w, i32_w]
                 rfl
                refine pure_ (i := 2) (N := some 129) (v := ?_) (a' := ?_) #[true, true, true, false, false, false, false, false, false, false, false, false, false, false, false, false, false, false, false, false, false, false, false, false, false, false, false, false, false, false, false, false, false, false, false, false, false, false] rfl rfl (any_of HT_.1 (by kernel_rfl)) (fun _ _ _ h => h) (Or.inl ⟨by rfl, ?_⟩) ?_ ?_
                rotate_left
                ·intro w'
                 go_simp
                 with_reducible rfl
                rotate_left
                ·simp only [Act.put, List.setIfInBounds_toArray, List.set_cons_zero, List.set_cons_succ, i64_w, i32_w]
                 rfl
                refine take_ (i := 3) (N := some 130) (v := ?_) (a' := ?_) #[true, true, true, true, false, false, false, false, false, false, false, false, false, false, false, false, false, false, false, false, false, false, false, false, false, false, false, false, false, false, false, false, false, false, false, false, false, false] rfl rfl (take_ofW HT_.1 HW_.1 (by kernel_rfl)) (fun _ _ _ h => h) (Or.inl ⟨by rfl, ?_⟩) hHeld ?_ ?_
                rotate_left
                ·rintro w' ⟨s0, s1⟩
                 go_simp
                 with_reducible rfl
                rotate_left
                ·simp only [Act.put, List.setIfInBounds_toArray, List.set_cons_zero, List.set_cons_succ, i64_w, i32_w]
                 rfl
                refine pure_ (i := 4) (N := some 131) (v := ?_) (a' := ?_) #[true, true, true, true, true, false, false, false, false, false, false, false, false, false, false, false, false, false, false, false, false, false, false, false, false, false, false, false, false, false, false, false, false, false, false, false, false, false] rfl rfl (any_of HT_.1 (by kernel_rfl)) (fun _ _ _ h => h) (Or.inl ⟨by rfl, ?_⟩) ?_ ?_
                rotate_left
                ·intro w'
                 go_simp
                 with_reducible rfl
                rotate_left
                ·simp only [Act.put, List.setIfInBounds_toArray, List.set_cons_zero, List.set_cons_succ, i64_w, i32_w]
                 rfl
                refine pure_ (i := 5) (N := some 132) (v := ?_) (a' := ?_) #[true, true, true, true, true, true, false, false, false, false, false, false, false, false, false, false, false, false, false, false, false, false, false, false, false, false, false, false, false, false, false, false, false, false, false, false, false, false] rfl rfl (any_of HT_.1 (by kernel_rfl)) (fun _ _ _ h => h) (Or.inl ⟨by rfl, ?_⟩) ?_ ?_
                rotate_left
                ·intro w'
                 go_simp
                 with_reducible rfl
                rotate_left
                ·simp only [Act.put, List.setIfInBounds_toArray, List.set_cons_zero, List.set_cons_succ, i64_w, i32_w]
                 rfl
                refine pure_ (i := 6) (N := some 133) (v := undef) (a' := ?_) #[true, true, true, true, true, true, true, false, false, false, false, false, false, false, false, false, false, false, false, false, false, false, false, false, false, false, false, false, false, false, false, false, false, false, false, false, false, false] rfl rfl (any_of HT_.1 (by kernel_rfl)) (fun _ _ _ h => h) (Or.inr ⟨by rfl, rfl⟩) ?_ ?_
                rotate_left
                ·simp only [Act.put, List.setIfInBounds_toArray, List.set_cons_zero, List.set_cons_succ, i64_w, i32_w]
                 rfl
                refine pure_ (i := 7) (N := some 134) (v := undef) (a' := ?_) #[true, true, true, true, true, true, true, true, false, false, false, false, false, false, false, false, false, false, false, false, false, false, false, false, false, false, false, false, false, false, false, false, false, false, false, false, false, false] rfl rfl (any_of HT_.1 (by kernel_rfl)) (fun _ _ _ h => h) (Or.inr ⟨by rfl, rfl⟩) ?_ ?_
                rotate_left
                ·simp only [Act.put, List.setIfInBounds_toArray, List.set_cons_zero, List.set_cons_succ, i64_w, i32_w]
                 rfl
                refine pure_ (i := 8) (N := some 135) (v := undef) (a' := ?_) #[true, true, true, true, true, true, true, true, true, false, false, false, false, false, false, false, false, false, false, false, false, false, false, false, false, false, false, false, false, false, false, false, false, false, false, false, false, false] rfl rfl (any_of HT_.1 (by kernel_rfl)) (fun _ _ _ h => h) (Or.inr ⟨by rfl, rfl⟩) ?_ ?_
                rotate_left
                ·simp only [Act.put, List.setIfInBounds_toArray, List.set_cons_zero, List.set_cons_succ, i64_w, i32_w]
                 rfl
                refine pure_ (i := 9) (N := some 136) (v := undef) (a' := ?_) #[true, true, true, true, true, true, true, true, true, true, false, false, false, false, false, false, false, false, false, false, false, false, false, false, false, false, false, false, false, false, false, false, false, false, false, false, false, false] rfl rfl (any_of HT_.1 (by kernel_rfl)) (fun _ _ _ h => h) (Or.inr ⟨by rfl, rfl⟩) ?_ ?_
                rotate_left
                ·simp only [Act.put, List.setIfInBounds_toArray, List.set_cons_zero, List.set_cons_succ, i64_w, i32_w]
                 rfl
                refine pure_ (i := 10) (N := some 137) (v := undef) (a' := ?_) #[true, true, true, true, true, true, true, true, true, true, true, false, false, false, false, false, false, false, false, false, false, false, false, false, false, false, false, false, false, false, false, false, false, false, false, false, false, false] rfl rfl (any_of HT_.1 (by kernel_rfl)) (fun _ _ _ h => h) (Or.inr ⟨by rfl, rfl⟩) ?_ ?_
                rotate_left
                ·simp only [Act.put, List.setIfInBounds_toArray, List.set_cons_zero, List.set_cons_succ, i64_w, i32_w]
                 rfl
                refine pure_ (i := 11) (N := some 138) (v := undef) (a' := ?_) #[true, true, true, true, true, true, true, true, true, true, true, true, false, false, false, false, false, false, false, false, false, false, false, false, false, false, false, false, false, false, false, false, false, false, false, false, false, false] rfl rfl (any_of HT_.1 (by kernel_rfl)) (fun _ _ _ h => h) (Or.inr ⟨by rfl, rfl⟩) ?_ ?_
                rotate_left
                ·simp only [Act.put, List.setIfInBounds_toArray, List.set_cons_zero, List.set_cons_succ, i64_w, i32_w]
                 rfl
                refine pure_ (i := 12) (N := some 139) (v := undef) (a' := ?_) #[true, true, true, true, true, true, true, true, true, true, true, true, true, false, false, false, false, false, false, false, false, false, false, false, false, false, false, false, false, false, false, false, false, false, false, false, false, false] rfl rfl (any_of HT_.1 (by kernel_rfl)) (fun _ _ _ h => h) (Or.inr ⟨by rfl, rfl⟩) ?_ ?_
                rotate_left
                ·simp only [Act.put, List.setIfInBounds_toArray, List.set_cons_zero, List.set_cons_succ, i64_w, i32_w]
                 rfl
                refine pure_ (i := 13) (N := some 140) (v := undef) (a' := ?_) #[true, true, true, true, true, true, true, true, true, true, true, true, true, true, false, false, false, false, false, false, false, false, false, false, false, false, false, false, false, false, false, false, false, false, false, false, false, false] rfl rfl (any_of HT_.1 (by kernel_rfl)) (fun _ _ _ h => h) (Or.inr ⟨by rfl, rfl⟩) ?_ ?_
                rotate_left
                ·simp only [Act.put, List.setIfInBounds_toArray, List.set_cons_zero, List.set_cons_succ, i64_w, i32_w]
                 rfl
                refine pure_ (i := 14) (N := some 141) (v := undef) (a' := ?_) #[true, true, true, true, true, true, true, true, true, true, true, true, true, true, true, false, false, false, false, false, false, false, false, false, false, false, false, false, false, false, false, false, false, false, false, false, false, false] rfl rfl (any_of HT_.1 (by kernel_rfl)) (fun _ _ _ h => h) (Or.inr ⟨by rfl, rfl⟩) ?_ ?_
                rotate_left
                ·simp only [Act.put, List.setIfInBounds_toArray, List.set_cons_zero, List.set_cons_succ, i64_w, i32_w]
                 rfl
                refine pure_ (i := 15) (N := some 142) (v := undef) (a' := ?_) #[true, true, true, true, true, true, true, true, true, true, true, true, true, true, true, true, false, false, false, false, false, false, false, false, false, false, false, false, false, false, false, false, false, false, false, false, false, false] rfl rfl (any_of HT_.1 (by kernel_rfl)) (fun _ _ _ h => h) (Or.inr ⟨by rfl, rfl⟩) ?_ ?_
                rotate_left
                ·simp only [Act.put, List.setIfInBounds_toArray, List.set_cons_zero, List.set_cons_succ, i64_w, i32_w]
                 rfl
                refine pure_ (i := 16) (N := some 143) (v := undef) (a' := ?_) #[true, true, true, true, true, true, true, true, true, true, true, true, true, true, true, true, true, false, false, false, false, false, false, false, false, false, false, false, false, false, false, false, false, false, false, false, false, false] rfl rfl (any_of HT_.1 (by kernel_rfl)) (fun _ _ _ h => h) (Or.inr ⟨by rfl, rfl⟩) ?_ ?_
                rotate_left
                ·simp only [Act.put, List.setIfInBounds_toArray, List.set_cons_zero, List.set_cons_succ, i64_w, i32_w]
                 rfl
                refine pure_ (i := 17) (N := some 144) (v := undef) (a' := ?_) #[true, true, true, true, true, true, true, true, true, true, true, true, true, true, true, true, true, true, false, false, false, false, false, false, false, false, false, false, false, false, false, false, false, false, false, false, false, false] rfl rfl (any_of HT_.1 (by kernel_rfl)) (fun _ _ _ h => h) (Or.inr ⟨by rfl, rfl⟩) ?_ ?_
                rotate_left
                ·simp only [Act.put, List.setIfInBounds_toArray, List.set_cons_zero, List.set_cons_succ, i64_w, i32_w]
                 rfl
                refine pure_ (i := 18) (N := some 145) (v := undef) (a' := ?_) #[true, true, true, true, true, true, true, true, true, true, true, true, true, true, true, true, true, true, true, false, false, false, false, false, false, false, false, false, false, false, false, false, false, false, false, false, false, false] rfl rfl (any_of HT_.1 (by kernel_rfl)) (fun _ _ _ h => h) (Or.inr ⟨by rfl, rfl⟩) ?_ ?_
                rotate_left
                ·simp only [Act.put, List.setIfInBounds_toArray, List.set_cons_zero, List.set_cons_succ, i64_w, i32_w]
                 rfl
                refine pure_ (i := 19) (N := some 146) (v := undef) (a' := ?_) #[true, true, true, true, true, true, true, true, true, true, true, true, true, true, true, true, true, true, true, true, false, false, false, false, false, false, false, false, false, false, false, false, false, false, false, false, false, false] rfl rfl (any_of HT_.1 (by kernel_rfl)) (fun _ _ _ h => h) (Or.inr ⟨by rfl, rfl⟩) ?_ ?_
                rotate_left
                ·simp only [Act.put, List.setIfInBounds_toArray, List.set_cons_zero, List.set_cons_succ, i64_w, i32_w]
                 rfl
                refine pure_ (i := 20) (N := some 147) (v := undef) (a' := ?_) #[true, true, true, true, true, true, true, true, true, true, true, true, true, true, true, true, true, true, true, true, true, false, false, false, false, false, false, false, false, false, false, false, false, false, false, false, false, false] rfl rfl (any_of HT_.1 (by kernel_rfl)) (fun _ _ _ h => h) (Or.inr ⟨by rfl, rfl⟩) ?_ ?_
                rotate_left
                ·simp only [Act.put, List.setIfInBounds_toArray, List.set_cons_zero, List.set_cons_succ, i64_w, i32_w]
                 rfl
                refine pure_ (i := 21) (N := some 148) (v := undef) (a' := ?_) #[true, true, true, true, true, true, true, true, true, true, true, true, true, true, true, true, true, true, true, true, true, true, false, false, false, false, false, false, false, false, false, false, false, false, false, false, false, false] rfl rfl (any_of HT_.1 (by kernel_rfl)) (fun _ _ _ h => h) (Or.inr ⟨by rfl, rfl⟩) ?_ ?_
                rotate_left
                ·simp only [Act.put, List.setIfInBounds_toArray, List.set_cons_zero, List.set_cons_succ, i64_w, i32_w]
                 rfl
                refine pure_ (i := 22) (N := some 149) (v := ?_) (a' := ?_) #[true, true, true, true, true, true, true, true, true, true, true, true, true, true, true, true, true, true, true, true, true, true, true, false, false, false, false, false, false, false, false, false, false, false, false, false, false, false] rfl rfl (any_of HT_.1 (by kernel_rfl)) (fun _ _ _ h => h) (Or.inl ⟨by rfl, ?_⟩) ?_ ?_
                rotate_left
                ·intro w'
                 go_simp
                 with_reducible rfl
                rotate_left
                ·simp only [Act.put, List.setIfInBounds_toArray, List.set_cons_zero, List.set_cons_succ, i64_w, i32_w]
                 rfl
                refine pure_ (i := 23) (N := some 150) (v := ?_) (a' := ?_) #[true, true, true, true, true, true, true, true, true, true, true, true, true, true, true, true, true, true, true, true, true, true, true, true, false, false, false, false, false, false, false, false, false, false, false, false, false, false] rfl rfl (any_of HT_.1 (by kernel_rfl)) (fun _ _ _ h => h) (Or.inl ⟨by rfl, ?_⟩) ?_ ?_
                rotate_left
                ·intro w'
                 go_simp
                 with_reducible rfl
                rotate_left
                ·simp only [Act.put, List.setIfInBounds_toArray, List.set_cons_zero, List.set_cons_succ, i64_w, i32_w]
                 rfl
                refine pure_ (i := 24) (N := some 151) (v := ?_) (a' := ?_) #[true, true, true, true, true, true, true, true, true, true, true, true, true, true, true, true, true, true, true, true, true, true, true, true, true, false, false, false, false, false, false, false, false, false, false, false, false, false] rfl rfl (any_of HT_.1 (by kernel_rfl)) (fun _ _ _ h => h) (Or.inl ⟨by rfl, ?_⟩) ?_ ?_
                rotate_left
                ·intro w'
                 go_simp
                 with_reducible rfl
                rotate_left
                ·simp only [Act.put, List.setIfInBounds_toArray, List.set_cons_zero, List.set_cons_succ, i64_w, i32_w]
                 rfl
                refine pure_ (i := 25) (N := some 152) (v := ?_) (a' := ?_) #[true, true, true, true, true, true, true, true, true, true, true, true, true, true, true, true, true, true, true, true, true, true, true, true, true, true, false, false, false, false, false, false, false, false, false, false, false, false] rfl rfl (any_of HT_.1 (by kernel_rfl)) (fun _ _ _ h => h) (Or.inl ⟨by rfl, ?_⟩) ?_ ?_
                rotate_left
                ·intro w'
                 go_simp
                 with_reducible rfl
                rotate_left
                ·simp only [Act.put, List.setIfInBounds_toArray, List.set_cons_zero, List.set_cons_succ, i64_w, i32_w]
                 rfl
                refine pure_ (i := 26) (N := some 153) (v := ?_) (a' := ?_) #[true, true, true, true, true, true, true, true, true, true, true, true, true, true, true, true, true, true, true, true, true, true, true, true, true, true, true, false, false, false, false, false, false, false, false, false, false, false] rfl rfl (any_of HT_.1 (by kernel_rfl)) (fun _ _ _ h => h) (Or.inl ⟨by rfl, ?_⟩) ?_ ?_
                rotate_left
                ·intro w'
                 go_simp
                 with_reducible rfl
                rotate_left
                ·simp only [Act.put, List.setIfInBounds_toArray, List.set_cons_zero, List.set_cons_succ, i64_w, i32_w]
                 rfl
                refine take_ (i := 27) (N := some 154) (v := ?_) (a' := ?_) #[true, true, true, true, true, true, true, true, true, true, true, true, true, true, true, true, true, true, true, true, true, true, true, true, true, true, true, true, false, false, false, false, false, false, false, false, false, false] rfl rfl (take_ofW HT_.1 HW_.1 (by kernel_rfl)) (fun _ _ _ h => h) (Or.inl ⟨by rfl, ?_⟩) hHeld ?_ ?_
                rotate_left
                ·rintro w' ⟨s0, s1⟩
                 go_simp
                 with_reducible rfl
                rotate_left
                ·simp only [Act.put, List.setIfInBounds_toArray, List.set_cons_zero, List.set_cons_succ, i64_w, i32_w]
                 rfl
                refine pure_ (i := 28) (N := some 155) (v := ?_) (a' := ?_) #[true, true, true, true, true, true, true, true, true, true, true, true, true, true, true, true, true, true, true, true, true, true, true, true, true, true, true, true, true, false, false, false, false, false, false, false, false, false] rfl rfl (any_of HT_.1 (by kernel_rfl)) (fun _ _ _ h => h) (Or.inl ⟨by rfl, ?_⟩) ?_ ?_
                rotate_left
                ·intro w'
                 go_simp
                 with_reducible rfl
                rotate_left
                ·simp only [Act.put, List.setIfInBounds_toArray, List.set_cons_zero, List.set_cons_succ, i64_w, i32_w]
                 rfl
                refine pure_ (i := 29) (N := some 156) (v := ?_) (a' := ?_) #[true, true, true, true, true, true, true, true, true, true, true, true, true, true, true, true, true, true, true, true, true, true, true, true, true, true, true, true, true, true, false, false, false, false, false, false, false, false] rfl rfl (any_of HT_.1 (by kernel_rfl)) (fun _ _ _ h => h) (Or.inl ⟨by rfl, ?_⟩) ?_ ?_
                rotate_left
                ·intro w'
                 go_simp
                 with_reducible rfl
                rotate_left
                ·simp only [Act.put, List.setIfInBounds_toArray, List.set_cons_zero, List.set_cons_succ, i64_w, i32_w]
                 rfl
                refine pure_ (i := 30) (N := some 157) (v := undef) (a' := ?_) #[true, true, true, true, true, true, true, true, true, true, true, true, true, true, true, true, true, true, true, true, true, true, true, true, true, true, true, true, true, true, true, false, false, false, false, false, false, false] rfl rfl (any_of HT_.1 (by kernel_rfl)) (fun _ _ _ h => h) (Or.inr ⟨by rfl, rfl⟩) ?_ ?_
                rotate_left
                ·simp only [Act.put, List.setIfInBounds_toArray, List.set_cons_zero, List.set_cons_succ, i64_w, i32_w]
                 rfl
                refine pure_ (i := 31) (N := some 158) (v := undef) (a' := ?_) #[true, true, true, true, true, true, true, true, true, true, true, true, true, true, true, true, true, true, true, true, true, true, true, true, true, true, true, true, true, true, true, true, false, false, false, false, false, false] rfl rfl (any_of HT_.1 (by kernel_rfl)) (fun _ _ _ h => h) (Or.inr ⟨by rfl, rfl⟩) ?_ ?_
                rotate_left
                ·simp only [Act.put, List.setIfInBounds_toArray, List.set_cons_zero, List.set_cons_succ, i64_w, i32_w]
                 rfl
                refine pure_ (i := 32) (N := some 159) (v := undef) (a' := ?_) #[true, true, true, true, true, true, true, true, true, true, true, true, true, true, true, true, true, true, true, true, true, true, true, true, true, true, true, true, true, true, true, true, true, false, false, false, false, false] rfl rfl (any_of HT_.1 (by kernel_rfl)) (fun _ _ _ h => h) (Or.inr ⟨by rfl, rfl⟩) ?_ ?_
                rotate_left
                ·simp only [Act.put, List.setIfInBounds_toArray, List.set_cons_zero, List.set_cons_succ, i64_w, i32_w]
                 rfl
                refine pure_ (i := 33) (N := some 160) (v := undef) (a' := ?_) #[true, true, true, true, true, true, true, true, true, true, true, true, true, true, true, true, true, true, true, true, true, true, true, true, true, true, true, true, true, true, true, true, true, true, false, false, false, false] rfl rfl (any_of HT_.1 (by kernel_rfl)) (fun _ _ _ h => h) (Or.inr ⟨by rfl, rfl⟩) ?_ ?_
                rotate_left
                ·simp only [Act.put, List.setIfInBounds_toArray, List.set_cons_zero, List.set_cons_succ, i64_w, i32_w]
                 rfl
                refine pure_ (i := 34) (N := some 161) (v := undef) (a' := ?_) #[true, true, true, true, true, true, true, true, true, true, true, true, true, true, true, true, true, true, true, true, true, true, true, true, true, true, true, true, true, true, true, true, true, true, true, false, false, false] rfl rfl (any_of HT_.1 (by kernel_rfl)) (fun _ _ _ h => h) (Or.inr ⟨by rfl, rfl⟩) ?_ ?_
                rotate_left
                ·simp only [Act.put, List.setIfInBounds_toArray, List.set_cons_zero, List.set_cons_succ, i64_w, i32_w]
                 rfl
                refine pure_ (i := 35) (N := some 162) (v := undef) (a' := ?_) #[true, true, true, true, true, true, true, true, true, true, true, true, true, true, true, true, true, true, true, true, true, true, true, true, true, true, true, true, true, true, true, true, true, true, true, true, false, false] rfl rfl (any_of HT_.1 (by kernel_rfl)) (fun _ _ _ h => h) (Or.inr ⟨by rfl, rfl⟩) ?_ ?_
                rotate_left
                ·simp only [Act.put, List.setIfInBounds_toArray, List.set_cons_zero, List.set_cons_succ, i64_w, i32_w]
                 rfl
                refine pure_ (i := 36) (N := some 163) (v := ?_) (a' := ?_) #[true, true, true, true, true, true, true, true, true, true, true, true, true, true, true, true, true, true, true, true, true, true, true, true, true, true, true, true, true, true, true, true, true, true, true, true, true, false] rfl rfl (any_of HT_.1 (by kernel_rfl)) (fun _ _ _ h => h) (Or.inl ⟨by rfl, ?_⟩) ?_ ?_
                rotate_left
                ·intro w'
                 go_simp
                 with_reducible rfl
                rotate_left
                ·simp only [Act.put, List.setIfInBounds_toArray, List.set_cons_zero, List.set_cons_succ, i64_w, i32_w]
                 rfl
                refine pure_ (i := 37) (N := some 164) (v := ?_) (a' := ?_) #[true, true, true, true, true, true, true, true, true, true, true, true, true, true, true, true, true, true, true, true, true, true, true, true, true, true, true, true, true, true, true, true, true, true, true, true, true, true] rfl rfl (any_of HT_.1 (by kernel_rfl)) (fun _ _ _ h => h) (Or.inl ⟨by rfl, ?_⟩) ?_ ?_
                rotate_left
                ·intro w'
                 go_simp
                 with_reducible rfl
                rotate_left
                ·simp only [Act.put, List.setIfInBounds_toArray, List.set_cons_zero, List.set_cons_succ, i64_w, i32_w]
                 rfl
                refine done_ (done_of HT_.1 (by kernel_rfl)) ?_
                try go_wp2
                go_roundg k3
                case measure => have := HJ7.1; have := HJ50.1; have := HK3.1; omega
                case rel => exact ⟨(wrap64 (x27_3 + 1)), (by first | rfl ), H', ⟨by have := HJ7.1; have := HJ50.1; have := HK3.1; omega⟩, ⟨by (with_reducible repeat (fail)); exact HO_23.1⟩, ⟨by (with_reducible repeat (fail)); exact HO_25.1⟩, ⟨by (with_reducible repeat (fail)); exact BK863.1⟩, ⟨by (with_reducible repeat (fail)); exact BK864.1⟩, ⟨by repeat (first | (with_reducible first | exact HB.1 ) )⟩⟩
              ·rw [if_neg c114] at H
               exact absurd H (by simp)
            ·rw [if_neg c101] at H
             exact absurd H (by simp)
           ·rw [if_neg c100] at H
            have c100b0 : decide (x27_3 < (t939.length : Int)) = false := decide_eq_false c100
            clear c100
            by_cases c123 : t895 = 0
            ·rw [if_pos c123] at H
             have c123b0 : (t895 == 0) = true := beq_iff_eq.mpr c123
             have c123b1 : (t895 != 0) = false := bne_eq_false_iff_eq.mpr c123
             clear c123
             by_cases c124 : t911 = 10
             ·rw [if_pos c124] at H
              have c124b0 : (t911 == 10) = true := beq_iff_eq.mpr c124
              have c124b1 : (t911 != 10) = false := bne_eq_false_iff_eq.mpr c124
              clear c124
              by_cases c125 : t927 = 10
              ·rw [if_pos c125] at H
               have c125b0 : (t927 == 10) = true := beq_iff_eq.mpr c125
               have c125b1 : (t927 != 10) = false := bne_eq_false_iff_eq.mpr c125
               clear c125
               obtain ⟨t966, A1260, H⟩ := Option.bind_eq_some_iff.mp H
               have A126 := Sd.mk A1260
               clear A1260
               obtain rfl := Option.some.inj H
               obtain ⟨Ao127, co127, eo127⟩ := Kd.R_slice HO_23.1
               subst eo127
               go_wp2_with (first | (go_at_call 17; (with_reducible refine (glisterlaw04_awake.calls  t966 _ A126.1).mono ?_); rintro e w128 ⟨rfl, hb⟩; replace HO_23 := Sd.mk (Kd.R_below (by (with_reducible repeat (fail)); exact HO_23.1) hb); replace HO_25 := Sd.mk (Kd.R_below (by (with_reducible repeat (fail)); exact HO_25.1) hb); replace BK863 := Sd.mk (kB (g := gb863) (o := .cells #[.int .i64 a0_0, .int .i64 a0_1, .slice A0_2 l0_2.length c0_2, .slice A0_3 l0_3.length c0_3] 25 (0, 0)) (by (with_reducible repeat (fail)); exact BK863.1) hb); replace BK864 := Sd.mk (kB (g := gb864) (o := .cells #[.int .i64 a2_0, .int .i64 a2_1] 58 (0, 0)) (by (with_reducible repeat (fail)); exact BK864.1) hb); replace HB := Sd.mk (bT (by repeat (first | (with_reducible first | exact HB.1 ) )) hb); (try clear hb)))
               go_ret
               exact ⟨by first | rfl , by repeat (first | (with_reducible first | exact HB.1 ) )⟩
              ·rw [if_neg c125] at H
               have c125b0 : (t927 == 10) = false := beq_eq_false_iff_ne.mpr c125
               have c125b1 : (t927 != 10) = true := bne_iff_ne.mpr c125
               by_cases c129 : t927 = 0
               ·as_aux_lemma =>
                rw [if_pos c129] at H
                have c129b0 : (t927 == 0) = true := beq_iff_eq.mpr c129
                have c129b1 : (t927 != 0) = false := bne_eq_false_iff_eq.mpr c129
                clear c129
                by_cases c130 : t926 ≥ t894
                ·rw [if_pos c130] at H
                 have c130b0 : decide (t894 ≤ t926) = true := decide_eq_true c130
                 clear c130
                 obtain ⟨t967, A1310, H⟩ := Option.bind_eq_some_iff.mp H
                 have A131 := Sd.mk A1310
                 clear A1310
                 obtain rfl := Option.some.inj H
                 obtain ⟨Ao132, co132, eo132⟩ := Kd.R_slice HO_23.1
                 subst eo132
                 go_wp2_with (first | (go_at_call 17; (with_reducible refine (glisterlaw04_awake.calls  t967 _ A131.1).mono ?_); rintro e w133 ⟨rfl, hb⟩; replace HO_23 := Sd.mk (Kd.R_below (by (with_reducible repeat (fail)); exact HO_23.1) hb); replace HO_25 := Sd.mk (Kd.R_below (by (with_reducible repeat (fail)); exact HO_25.1) hb); replace BK863 := Sd.mk (kB (g := gb863) (o := .cells #[.int .i64 a0_0, .int .i64 a0_1, .slice A0_2 l0_2.length c0_2, .slice A0_3 l0_3.length c0_3] 25 (0, 0)) (by (with_reducible repeat (fail)); exact BK863.1) hb); replace BK864 := Sd.mk (kB (g := gb864) (o := .cells #[.int .i64 a2_0, .int .i64 a2_1] 58 (0, 0)) (by (with_reducible repeat (fail)); exact BK864.1) hb); replace HB := Sd.mk (bT (by repeat (first | (with_reducible first | exact HB.1 ) )) hb); (try clear hb)))
                 go_ret
                 exact ⟨by first | rfl , by repeat (first | (with_reducible first | exact HB.1 ) )⟩
                ·rw [if_neg c130] at H
                 exact absurd H (by simp)
               ·rw [if_neg c129] at H
                exact absurd H (by simp)
             ·rw [if_neg c124] at H
              have c124b0 : (t911 == 10) = false := beq_eq_false_iff_ne.mpr c124
              have c124b1 : (t911 != 10) = true := bne_iff_ne.mpr c124
              by_cases c134 : t911 = 0
              ·rw [if_pos c134] at H
               have c134b0 : (t911 == 0) = true := beq_iff_eq.mpr c134
               have c134b1 : (t911 != 0) = false := bne_eq_false_iff_eq.mpr c134
               clear c134
               by_cases c135 : t910 ≥ t894
               ·rw [if_pos c135] at H
                have c135b0 : decide (t894 ≤ t910) = true := decide_eq_true c135
                clear c135
                by_cases c136 : t927 = 10
                ·rw [if_pos c136] at H
                 have c136b0 : (t927 == 10) = true := beq_iff_eq.mpr c136
                 have c136b1 : (t927 != 10) = false := bne_eq_false_iff_eq.mpr c136
                 clear c136
                 obtain ⟨t968, A1370, H⟩ := Option.bind_eq_some_iff.mp H
                 have A137 := Sd.mk A1370
                 clear A1370
                 obtain rfl := Option.some.inj H
                 obtain ⟨Ao138, co138, eo138⟩ := Kd.R_slice HO_23.1
                 subst eo138
                 go_wp2_with (first | (go_at_call 17; (with_reducible refine (glisterlaw04_awake.calls  t968 _ A137.1).mono ?_); rintro e w139 ⟨rfl, hb⟩; replace HO_23 := Sd.mk (Kd.R_below (by (with_reducible repeat (fail)); exact HO_23.1) hb); replace HO_25 := Sd.mk (Kd.R_below (by (with_reducible repeat (fail)); exact HO_25.1) hb); replace BK863 := Sd.mk (kB (g := gb863) (o := .cells #[.int .i64 a0_0, .int .i64 a0_1, .slice A0_2 l0_2.length c0_2, .slice A0_3 l0_3.length c0_3] 25 (0, 0)) (by (with_reducible repeat (fail)); exact BK863.1) hb); replace BK864 := Sd.mk (kB (g := gb864) (o := .cells #[.int .i64 a2_0, .int .i64 a2_1] 58 (0, 0)) (by (with_reducible repeat (fail)); exact BK864.1) hb); replace HB := Sd.mk (bT (by repeat (first | (with_reducible first | exact HB.1 ) )) hb); (try clear hb)))
                 go_ret
                 exact ⟨by first | rfl , by repeat (first | (with_reducible first | exact HB.1 ) )⟩
                ·rw [if_neg c136] at H
                 have c136b0 : (t927 == 10) = false := beq_eq_false_iff_ne.mpr c136
                 have c136b1 : (t927 != 10) = true := bne_iff_ne.mpr c136
                 by_cases c140 : t927 = 0
                 ·as_aux_lemma =>
                  rw [if_pos c140] at H
                  have c140b0 : (t927 == 0) = true := beq_iff_eq.mpr c140
                  have c140b1 : (t927 != 0) = false := bne_eq_false_iff_eq.mpr c140
                  clear c140
                  by_cases c141 : t926 ≥ t894
                  ·rw [if_pos c141] at H
                   have c141b0 : decide (t894 ≤ t926) = true := decide_eq_true c141
                   clear c141
                   obtain ⟨t969, A1420, H⟩ := Option.bind_eq_some_iff.mp H
                   have A142 := Sd.mk A1420
                   clear A1420
                   obtain rfl := Option.some.inj H
                   obtain ⟨Ao143, co143, eo143⟩ := Kd.R_slice HO_23.1
                   subst eo143
                   go_wp2_with (first | (go_at_call 17; (with_reducible refine (glisterlaw04_awake.calls  t969 _ A142.1).mono ?_); rintro e w144 ⟨rfl, hb⟩; replace HO_23 := Sd.mk (Kd.R_below (by (with_reducible repeat (fail)); exact HO_23.1) hb); replace HO_25 := Sd.mk (Kd.R_below (by (with_reducible repeat (fail)); exact HO_25.1) hb); replace BK863 := Sd.mk (kB (g := gb863) (o := .cells #[.int .i64 a0_0, .int .i64 a0_1, .slice A0_2 l0_2.length c0_2, .slice A0_3 l0_3.length c0_3] 25 (0, 0)) (by (with_reducible repeat (fail)); exact BK863.1) hb); replace BK864 := Sd.mk (kB (g := gb864) (o := .cells #[.int .i64 a2_0, .int .i64 a2_1] 58 (0, 0)) (by (with_reducible repeat (fail)); exact BK864.1) hb); replace HB := Sd.mk (bT (by repeat (first | (with_reducible first | exact HB.1 ) )) hb); (try clear hb)))
                   go_ret
                   exact ⟨by first | rfl , by repeat (first | (with_reducible first | exact HB.1 ) )⟩
                  ·rw [if_neg c141] at H
                   exact absurd H (by simp)
                 ·rw [if_neg c140] at H
                  exact absurd H (by simp)
               ·rw [if_neg c135] at H
                exact absurd H (by simp)
              ·rw [if_neg c134] at H
               exact absurd H (by simp)
            ·rw [if_neg c123] at H
             have c123b0 : (t895 == 0) = false := beq_eq_false_iff_ne.mpr c123
             have c123b1 : (t895 != 0) = true := bne_iff_ne.mpr c123
             by_cases c145 : t895 = 10
             ·rw [if_pos c145] at H
              have c145b0 : (t895 == 10) = true := beq_iff_eq.mpr c145
              have c145b1 : (t895 != 10) = false := bne_eq_false_iff_eq.mpr c145
              clear c145
              by_cases c146 : t911 = t895
              ·as_aux_lemma =>
               rw [if_pos c146] at H
               have c146b0 : (t911 == t895) = true := beq_iff_eq.mpr c146
               have c146b1 : (t911 != t895) = false := bne_eq_false_iff_eq.mpr c146
               clear c146
               by_cases c147 : t927 = t895
               ·rw [if_pos c147] at H
                have c147b0 : (t927 == t895) = true := beq_iff_eq.mpr c147
                have c147b1 : (t927 != t895) = false := bne_eq_false_iff_eq.mpr c147
                clear c147
                obtain ⟨t970, A1480, H⟩ := Option.bind_eq_some_iff.mp H
                have A148 := Sd.mk A1480
                clear A1480
                obtain rfl := Option.some.inj H
                obtain ⟨Ao149, co149, eo149⟩ := Kd.R_slice HO_23.1
                subst eo149
                go_wp2_with (first | (go_at_call 17; (with_reducible refine (glisterlaw04_awake.calls  t970 _ A148.1).mono ?_); rintro e w150 ⟨rfl, hb⟩; replace HO_23 := Sd.mk (Kd.R_below (by (with_reducible repeat (fail)); exact HO_23.1) hb); replace HO_25 := Sd.mk (Kd.R_below (by (with_reducible repeat (fail)); exact HO_25.1) hb); replace BK863 := Sd.mk (kB (g := gb863) (o := .cells #[.int .i64 a0_0, .int .i64 a0_1, .slice A0_2 l0_2.length c0_2, .slice A0_3 l0_3.length c0_3] 25 (0, 0)) (by (with_reducible repeat (fail)); exact BK863.1) hb); replace BK864 := Sd.mk (kB (g := gb864) (o := .cells #[.int .i64 a2_0, .int .i64 a2_1] 58 (0, 0)) (by (with_reducible repeat (fail)); exact BK864.1) hb); replace HB := Sd.mk (bT (by repeat (first | (with_reducible first | exact HB.1 ) )) hb); (try clear hb)))
                go_ret
                exact ⟨by first | rfl , by repeat (first | (with_reducible first | exact HB.1 ) )⟩
               ·rw [if_neg c147] at H
                exact absurd H (by simp)
              ·rw [if_neg c146] at H
               exact absurd H (by simp)
             ·rw [if_neg c145] at H
              exact absurd H (by simp)
  ·rw [if_neg c7] at H
   exact absurd H (by simp)
 ·rw [if_neg c6] at H
  exact absurd H (by simp)
end Go.Proofs.Ytnidgkmopocdkaa.P
