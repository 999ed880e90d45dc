import Derived.Test.YtnidgkmopocdkaaA11P0
import Derived.Test.YtnidgkmopocdkaaA11P5
namespace Go.Proofs.Ytnidgkmopocdkaa.P
open Go.RowKit Go.Proofs.YtnidgkmopocdkaaW.PrintWords Go.Proofs.YtnidgkmopocdkaaW.PrintLast Go.Proofs.YtnidgkmopocdkaaW.PrintMore
attribute [local go_sem] max2_int min2_int max_two min_two max_three min_three max_four min_four   -- for this text's walks alone
set_option linter.unusedVariables false
set_option linter.unusedSimpArgs false
def glisterlaw04_Guessed.l0 : Nat → List Int → Int → List Int → List (S85) → Int → Int → Int → List (S82) → List Int → Int → Int → Int → Option (List Int × (List (S85)))
 | 0, _, _, _, _, _, _, _, _, _, _, _, _ => none
 | k + 1, x2, x3, x10, x11, x12, x799000, x799001, x799002, x799003, x800000, x800001, x800002 => if x12 < (x2.length : Int) then (if 0 ≤ x12 then ((glisterref04_CodeOf.f x799000 x799001 x799002 x799003 x800000 x800001 x800002 (rd x2 x12) x12).bind fun t801 => (if x10.length < 17592186044416 then ((some (x10 ++ [t801] : List Int)).bind fun y802 => (if 0 ≤ (IntKind.u64.wrap (x12)) then (if (Int.tmod (shr .u16 x3 (IntKind.u64.wrap (x12))) 2) = 1 then (if (x11.length : Int) < 6 then (if x11.length < 8796093022208 then (glisterlaw04_Guessed.l0 k x2 x3 y802 (x11 ++ [(⟨x12, rd x2 x12⟩ : S85)]) (wrap64 (x12 + 1)) x799000 x799001 x799002 x799003 x800000 x800001 x800002) else (none)) else (glisterlaw04_Guessed.l0 k x2 x3 y802 x11 (wrap64 (x12 + 1)) x799000 x799001 x799002 x799003 x800000 x800001 x800002)) else (glisterlaw04_Guessed.l0 k x2 x3 y802 x11 (wrap64 (x12 + 1)) x799000 x799001 x799002 x799003 x800000 x800001 x800002)) else (none))) else (none))) else (none)) else (some (x10, x11))
def glisterlaw04_Guessed.f (k : Nat) (a0_0 : Int) (a0_1 : Int) (l0_2 : List (S82)) (l0_3 : List Int) (a1_0 : Int) (a1_1 : Int) (a1_2 : Int) (l2 : List Int) (a3 : Int) : Option (List Int × (List (S85))) := glisterlaw04_Guessed.l0 k l2 a3 ([] : List Int) ([] : List (S85)) 0 a0_0 a0_1 l0_2 l0_3 a1_0 a1_1 a1_2
def glisterlaw04_Guessed.T6 : Bool × List (List Nat × List Nat) := (true, [([], []), ([], []), ([], []), ([], []), ([], []), ([3, 4], [3, 4]), ([5], [5]), ([], []), ([1, 2, 6, 7], [1, 2, 6, 7]), ([8], [8]), ([0, 9, 8], [0, 9]), ([10, 10, 0, 1, 2, 3, 4, 5, 6, 7, 8, 9, 10], [0, 10])])
def glisterlaw04_Guessed.B6 : List Nat := [0, 0, 0, 0, 0, 24, 56, 0, 254, 510, 1023, 2047]
theorem glisterlaw04_Guessed.tab6 : rtab .any (opsOf Try.f45 6) = glisterlaw04_Guessed.T6 := by kernel_rfl
theorem glisterlaw04_Guessed.bits6 : waitsOk glisterlaw04_Guessed.T6.2 glisterlaw04_Guessed.B6 = true := by kernel_rfl
set_option maxHeartbeats 8000000 in
set_option maxRecDepth 100000 in
theorem glisterlaw04_Guessed.calls (k : Nat) (a0_0 : Int) (a0_1 : Int) (A0_2 : Option Addr) (c0_2 : Nat) (l0_2 : List (S82)) (A0_3 : Option Addr) (c0_3 : Nat) (l0_3 : List Int) (a1_0 : Int) (a1_1 : Int) (a1_2 : Int) (A2 : Option Addr) (c2 : Nat) (l2 : List Int) (a3 : Int) (r1 : List Int) (r2 : List (S85)) (w : World) (hr0_2 : Kd.C k82 w A0_2 l0_2.length l0_2) (hc0_2 : l0_2.length ≤ c0_2) (hr0_3 : Kd.C (Kd.int .i64) w A0_3 l0_3.length l0_3) (hc0_3 : l0_3.length ≤ c0_3) (hr2 : Kd.C (Kd.int .i64) w A2 l2.length l2) (hc2 : l2.length ≤ c2) (h : glisterlaw04_Guessed.f k a0_0 a0_1 l0_2 l0_3 a1_0 a1_1 a1_2 l2 a3 = some (r1, r2)) :
  Calls Try.prog 45 #[.agg #[.int .i64 a0_0, .int .i64 a0_1, .slice A0_2 l0_2.length c0_2, .slice A0_3 l0_3.length c0_3], .agg #[.int .i64 a1_0, .int .i64 a1_1, .int .i64 a1_2], .slice A2 l2.length c2, .int .u16 a3] w fun e w' => ∃ v0_ v1_ : Value, e = .returned (.tuple #[v0_, v1_]) ∧ Kd.R (Kd.int .i64) 3 w' w.heap.size (fun _ => True) v0_ r1 ∧ Kd.R k85 85 w' w.heap.size (fun _ => True) v1_ r2 ∧ Below w.heap.size w w' := by
 have hu25 := Try.underlying25
 have hu82 := Try.underlying82
 have hu85 := Try.underlying85
 have HR0_2 := Sd.mk hr0_2
 have HC0_2 := Sd.mk hc0_2
 clear hr0_2 hc0_2
 have HR0_3 := Sd.mk hr0_3
 have HC0_3 := Sd.mk hc0_3
 clear hr0_3 hc0_3
 have HR2 := Sd.mk hr2
 have HC2 := Sd.mk hc2
 clear hr2 hc2
 have HB := Sd.mk (Below.refl w.heap.size w)
 have H : (glisterlaw04_Guessed.l0 k l2 a3 ([] : List Int) ([] : List (S85)) 0 a0_0 a0_1 l0_2 l0_3 a1_0 a1_1 a1_2) = some (r1, r2) := h
 clear h
 have H' := Sd.mk H
 clear H
 go_enter Try.func45, Try.ntmps45
 go_wp2_with (first | ((with_reducible refine gD (N := 4) rfl ?_); (try (refine gG (by rfl) ?_; dsimp only)); refine xE ?hg (N := 4) ?hd (cs := #[.int .i64 a0_0, .int .i64 a0_1, .slice A0_2 l0_2.length c0_2, .slice A0_3 l0_3.length c0_3]) (t := 25) ?hr ?_; (case hd => rfl); (case hg => rfl); (case hr => first | (go_simp; done) ); intro gb798 hg w5 hbox hb; have BK798 := Sd.mk (hbox); have GW798 := Sd.mk ((by rw [hg]; exact (bZ (by repeat (first | (with_reducible first | exact HB.1 ) ))) : w.heap.size ≤ gb798)); have GE798 := Sd.mk ((by rw [hg]; exact (bZ (by repeat (first | (with_reducible first | exact HB.1 ) ))) : w.heap.size ≤ gb798)); replace HB := Sd.mk (bT (by repeat (first | (with_reducible first | exact HB.1 ) )) hb); clear hb hbox hg) | ((with_reducible refine gD (N := 5) rfl ?_); (try (refine gG (by rfl) ?_; dsimp only)); refine xE ?hg (N := 5) ?hd (cs := #[.int .i64 a1_0, .int .i64 a1_1, .int .i64 a1_2]) (t := 82) ?hr ?_; (case hd => rfl); (case hg => rfl); (case hr => first | (go_simp; done) ); intro gb799 hg w6 hbox hb; have BK799 := Sd.mk (hbox); have GW799 := Sd.mk ((by rw [hg]; exact (bZ (by repeat (first | (with_reducible first | exact HB.1 ) ))) : w.heap.size ≤ gb799)); have GE799 := Sd.mk ((by rw [hg]; exact (bZ (by repeat (first | (with_reducible first | exact HB.1 ) ))) : w.heap.size ≤ gb799)); replace HB := Sd.mk (bT (by repeat (first | (with_reducible first | exact HB.1 ) )) hb); have NB798_799 := Sd.mk ((by rw [hg]; exact Nat.ne_of_lt (blk_lt (g := gb798) (o := .cells #[.int .i64 a0_0, .int .i64 a0_1, .slice A0_2 l0_2.length c0_2, .slice A0_3 l0_3.length c0_3] 25 (0, 0)) (by (with_reducible repeat (fail)); exact BK798.1)) : gb798 ≠ gb799)); have NB799_798 := Sd.mk ((by rw [hg]; exact Nat.ne_of_gt (blk_lt (g := gb798) (o := .cells #[.int .i64 a0_0, .int .i64 a0_1, .slice A0_2 l0_2.length c0_2, .slice A0_3 l0_3.length c0_3] 25 (0, 0)) (by (with_reducible repeat (fail)); exact BK798.1)) : gb799 ≠ gb798)); replace BK798 := Sd.mk (kB (g := gb798) (o := .cells #[.int .i64 a0_0, .int .i64 a0_1, .slice A0_2 l0_2.length c0_2, .slice A0_3 l0_3.length c0_3] 25 (0, 0)) (by (with_reducible repeat (fail)); exact BK798.1) hb); clear hb hbox hg))
 go_loopg [10, 11, 12] k (fun kq v10 v11 v12 w' => ∃ (x10_1 : List Int) (x11_1 : List (S85)) (x12_1 : Int), v12 = .int .i64 x12_1 ∧ Sd (glisterlaw04_Guessed.l0 kq l2 a3 x10_1 x11_1 x12_1 a0_0 a0_1 l0_2 l0_3 a1_0 a1_1 a1_2 = some (r1, r2)) ∧ Sd (kq ≤ k) ∧ Sd (Kd.R (Kd.int .i64) 3 w' w.heap.size (fun _ => True) v10 x10_1) ∧ Sd (Kd.R k85 85 w' w.heap.size (fun _ => True) v11 x11_1) ∧ Sd (w'.heap[gb798]? = some (.cells #[.int .i64 a0_0, .int .i64 a0_1, (.slice A0_2 l0_2.length c0_2), (.slice A0_3 l0_3.length c0_3)] 25 (0, 0))) ∧ Sd (w'.heap[gb799]? = some (.cells #[.int .i64 a1_0, .int .i64 a1_1, .int .i64 a1_2] 82 (0, 0))) ∧ Sd (Below w.heap.size w w'))
 case atStart => exact ⟨(([] : List Int)), (([] : List (S85))), (0), (by first | rfl ), H', ⟨Nat.le_refl _⟩, ⟨by first | exact Kd.R_nil _ _ _ _ _ ⟩, ⟨by first | exact Kd.R_nil _ _ _ _ _ ⟩, ⟨by (with_reducible repeat (fail)); exact BK798.1⟩, ⟨by (with_reducible repeat (fail)); exact BK799.1⟩, ⟨by repeat (first | (with_reducible first | exact HB.1 ) )⟩⟩
 case round =>
  clear H'
  obtain ⟨x10_1, x11_1, x12_1, rfl, HA, HK1, HO_10, HO_11, BK798, BK799, HB⟩ := hrel
  cases gk with
  | zero => exact absurd HA.1 (by simp [glisterlaw04_Guessed.l0])
  | succ k1 =>
   have H := HA.1
   clear HA
   simp only [glisterlaw04_Guessed.l0] at H
   by_cases c7 : x12_1 < (l2.length : Int)
   ·rw [if_pos c7] at H
    have c7b0 : decide (x12_1 < (l2.length : Int)) = true := decide_eq_true c7
    clear c7
    by_cases c8 : 0 ≤ x12_1
    ·rw [if_pos c8] at H
     have c8b0 : decide (0 ≤ x12_1) = true := decide_eq_true c8
     clear c8
     obtain ⟨t801, A90, H⟩ := Option.bind_eq_some_iff.mp H
     have A9 := Sd.mk A90
     clear A90
     by_cases c10 : x10_1.length < 17592186044416
     ·rw [if_pos c10] at H
      have LMc10 := Sd.mk c10
      clear c10
      obtain ⟨y802, hy802⟩ : ∃ y_ : List Int, y_ = (x10_1 ++ [t801]) := ⟨_, rfl⟩
      replace H : (if 0 ≤ (IntKind.u64.wrap (x12_1)) then (if (Int.tmod (shr .u16 a3 (IntKind.u64.wrap (x12_1))) 2) = 1 then (if (x11_1.length : Int) < 6 then (if x11_1.length < 8796093022208 then (glisterlaw04_Guessed.l0 k1 l2 a3 y802 (x11_1 ++ [(⟨x12_1, rd l2 x12_1⟩ : S85)]) (wrap64 (x12_1 + 1)) a0_0 a0_1 l0_2 l0_3 a1_0 a1_1 a1_2) else (none)) else (glisterlaw04_Guessed.l0 k1 l2 a3 y802 x11_1 (wrap64 (x12_1 + 1)) a0_0 a0_1 l0_2 l0_3 a1_0 a1_1 a1_2)) else (glisterlaw04_Guessed.l0 k1 l2 a3 y802 x11_1 (wrap64 (x12_1 + 1)) a0_0 a0_1 l0_2 l0_3 a1_0 a1_1 a1_2)) else (none)) = some (r1, r2) := by first | (have H2_ := (Option.bind_some _ _).symm.trans H; rw [hy802]; with_reducible exact H2_) 
      have Ny802 := Sd.mk hy802
      clear hy802
      obtain ⟨ji11, hji11⟩ : ∃ j_ : Int, (IntKind.u64.wrap (x12_1)) = j_ := ⟨_, rfl⟩
      replace H : (if 0 ≤ (ji11) then (if (Int.tmod (shr .u16 a3 (ji11)) 2) = 1 then (if (x11_1.length : Int) < 6 then (if x11_1.length < 8796093022208 then (glisterlaw04_Guessed.l0 k1 l2 a3 y802 (x11_1 ++ [(⟨x12_1, rd l2 x12_1⟩ : S85)]) (wrap64 (x12_1 + 1)) a0_0 a0_1 l0_2 l0_3 a1_0 a1_1 a1_2) else (none)) else (glisterlaw04_Guessed.l0 k1 l2 a3 y802 x11_1 (wrap64 (x12_1 + 1)) a0_0 a0_1 l0_2 l0_3 a1_0 a1_1 a1_2)) else (glisterlaw04_Guessed.l0 k1 l2 a3 y802 x11_1 (wrap64 (x12_1 + 1)) a0_0 a0_1 l0_2 l0_3 a1_0 a1_1 a1_2)) else (none)) = some (r1, r2) := by first | (rw [hji11] at H; exact H) 
      by_cases c12 : 0 ≤ (ji11)
      ·rw [if_pos c12] at H
       have c12b0 := eq_true c12
       have c12b1 : decide (0 ≤ (ji11)) = true := decide_eq_true c12
       clear c12
       obtain ⟨ji13, hji13⟩ : ∃ j_ : Int, (shr .u16 a3 (ji11)) = j_ := ⟨_, rfl⟩
       replace H : (if (Int.tmod (ji13) 2) = 1 then (if (x11_1.length : Int) < 6 then (if x11_1.length < 8796093022208 then (glisterlaw04_Guessed.l0 k1 l2 a3 y802 (x11_1 ++ [(⟨x12_1, rd l2 x12_1⟩ : S85)]) (wrap64 (x12_1 + 1)) a0_0 a0_1 l0_2 l0_3 a1_0 a1_1 a1_2) else (none)) else (glisterlaw04_Guessed.l0 k1 l2 a3 y802 x11_1 (wrap64 (x12_1 + 1)) a0_0 a0_1 l0_2 l0_3 a1_0 a1_1 a1_2)) else (glisterlaw04_Guessed.l0 k1 l2 a3 y802 x11_1 (wrap64 (x12_1 + 1)) a0_0 a0_1 l0_2 l0_3 a1_0 a1_1 a1_2)) = some (r1, r2) := by first | (rw [hji13] at H; exact H) 
       have hji13_ : (a3 / 2 ^ min (ji11).toNat 16) = ji13 := hji13
       have hji13z : (ji11) ≤ 16 → (a3 / 2 ^ (ji11).toNat) = ji13 := shr_small hji13
       by_cases c14 : (Int.tmod (ji13) 2) = 1
       ·rw [if_pos c14] at H
        have c14b0 : ((Int.tmod (ji13) 2) == 1) = true := beq_iff_eq.mpr c14
        have c14b1 : ((Int.tmod (ji13) 2) != 1) = false := bne_eq_false_iff_eq.mpr c14
        clear c14
        by_cases c15 : (x11_1.length : Int) < 6
        ·rw [if_pos c15] at H
         have c15b0 : decide ((x11_1.length : Int) < 6) = true := decide_eq_true c15
         have c15b1 : decide (x11_1.length < 6) = true := decide_eq_true (by omega)
         clear c15
         by_cases c16 : x11_1.length < 8796093022208
         ·rw [if_pos c16] at H
          have LMc16 := Sd.mk c16
          clear c16
          obtain ⟨y806, hy806⟩ : ∃ y_ : List (S85), y_ = (x11_1 ++ [(⟨x12_1, rd l2 x12_1⟩ : S85)]) := ⟨_, rfl⟩
          replace H : (glisterlaw04_Guessed.l0 k1 l2 a3 y802 y806 (wrap64 (x12_1 + 1)) a0_0 a0_1 l0_2 l0_3 a1_0 a1_1 a1_2) = some (r1, r2) := by first | (rw [hy806]; with_reducible exact H) 
          have Ny806 := Sd.mk hy806
          clear hy806
          have H' := Sd.mk H
          clear H
          try go_wp2
          have n0_ := Sd.mk (Kd.R_drew HO_10.1)
          have n1_ := Sd.mk (Kd.R_drew HO_11.1)
          have n2_ := Sd.mk (kD BK798.1)
          have n3_ := Sd.mk (kD BK799.1)
          have n4_ := Sd.mk (bD HB.1)
          clear HO_10
          clear HO_11
          clear BK798
          clear BK799
          clear HB
          have HO_10 := n0_
          have HO_11 := n1_
          have BK798 := n2_
          have BK799 := n3_
          have HB := n4_
          clear n0_ n1_ n2_ n3_ n4_
          have p800 : 0 ≤ (x12_1 : Int) := of_decide_eq_true (by first | (with_reducible assumption) )
          have q800 : x12_1 < (l2.length : Int) := of_decide_eq_true (by first | (with_reducible assumption) )
          obtain ⟨ad800, e800, hx800_0⟩ := Kd.at_int HR2.1 x12_1 p800 q800
          have hw800_0 := hx800_0
          cases e800
          replace hx800_0 := (HB.1.cell (World.block_lt_of_cell? w _ hx800_0)).trans hx800_0
          replace p800 := eq_true p800
          replace q800 := eq_true q800
          refine start_ (n := 12) (S := fun w' => w'.cell? ⟨gb798, 0, none⟩ = some (.int .i64 a0_0) ∧ w'.cell? ⟨gb798, 1, none⟩ = some (.int .i64 a0_1) ∧ w'.cell? ⟨gb798, 2, none⟩ = some (.slice A0_2 l0_2.length c0_2) ∧ w'.cell? ⟨gb798, 3, none⟩ = some (.slice A0_3 l0_3.length c0_3) ∧ w'.cell? ⟨gb799, 0, none⟩ = some (.int .i64 a1_0) ∧ w'.cell? ⟨gb799, 1, none⟩ = some (.int .i64 a1_1) ∧ w'.cell? ⟨gb799, 2, none⟩ = some (.int .i64 a1_2) ∧ w'.cell? (ad800.add (x12_1).toNat) = some (.int .i64 (rd l2 x12_1))) (ds := []) #[false, false, false, false, false, false, false, false, false, false, false, false] (by kernel_rfl) rfl rfl ⟨(kC BK798.1 0).trans rfl, (kC BK798.1 1).trans rfl, (kC BK798.1 2).trans rfl, (kC BK798.1 3).trans rfl, (kC BK799.1 0).trans rfl, (kC BK799.1 1).trans rfl, (kC BK799.1 2).trans rfl, ((HB.1.cell (World.block_lt_of_cell? w _ hw800_0)).trans hw800_0)⟩ (fun hHeld => ?_); refine with_tabW glisterlaw04_Guessed.tab6 glisterlaw04_Guessed.bits6 (fun HT_ HW_ => ?_)
          generalize wr.drew = w17 at HO_10 HO_11 BK798 BK799 HB hx800_0 hHeld ⊢
          refine pure_ (i := 0) (N := some 19) (v := ?_) (a' := ?_) #[true, false, false, false, false, false, false, false, false, false, false, false] rfl rfl (any_of HT_.1 (by kernel_rfl)) (fun _ _ _ h => h) (Or.inl ⟨by rfl, ?_⟩) ?_ ?_
          rotate_left
          ·intro w'
           go_simp
           with_reducible rfl
          rotate_left
          ·simp only [Act.put, List.setIfInBounds_toArray, List.set_cons_zero, List.set_cons_succ, i64_w, i32_w]
           rfl
          refine pure_ (i := 3) (N := some 22) (v := ?_) (a' := ?_) #[true, false, false, true, false, false, false, false, false, false, false, false] rfl rfl (any_of HT_.1 (by kernel_rfl)) (fun _ _ _ h => h) (Or.inl ⟨by rfl, ?_⟩) ?_ ?_
          rotate_left
          ·intro w'
           go_simp
           with_reducible rfl
          rotate_left
          ·simp only [Act.put, List.setIfInBounds_toArray, List.set_cons_zero, List.set_cons_succ, i64_w, i32_w]
           rfl
          refine pure_ (i := 4) (N := some 23) (v := ?_) (a' := ?_) #[true, false, false, true, true, false, false, false, false, false, false, false] rfl rfl (any_of HT_.1 (by kernel_rfl)) (fun _ _ _ h => h) (Or.inl ⟨by rfl, ?_⟩) ?_ ?_
          rotate_left
          ·intro w'
           go_simp
           with_reducible rfl
          rotate_left
          ·simp only [Act.put, List.setIfInBounds_toArray, List.set_cons_zero, List.set_cons_succ, i64_w, i32_w]
           rfl
          refine pure_ (i := 5) (N := some 24) (v := ?_) (a' := ?_) #[true, false, false, true, true, true, false, false, false, false, false, false] rfl rfl (any_of HT_.1 (by kernel_rfl)) (fun _ _ _ h => h) (Or.inl ⟨by rfl, ?_⟩) ?_ ?_
          rotate_left
          ·intro w'
           go_simp
           with_reducible rfl
          rotate_left
          ·simp only [Act.put, List.setIfInBounds_toArray, List.set_cons_zero, List.set_cons_succ, i64_w, i32_w]
           rfl
          refine pure_ (i := 7) (N := some 26) (v := ?_) (a' := ?_) #[true, false, false, true, true, true, false, true, false, false, false, false] rfl rfl (any_of HT_.1 (by kernel_rfl)) (fun _ _ _ h => h) (Or.inl ⟨by rfl, ?_⟩) ?_ ?_
          rotate_left
          ·intro w'
           go_simp
           with_reducible rfl
          rotate_left
          ·simp only [Act.put, List.setIfInBounds_toArray, List.set_cons_zero, List.set_cons_succ, i64_w, i32_w]
           rfl
          refine take_ (i := 1) (N := some 20) (v := ?_) (a' := ?_) #[true, true, false, true, true, true, false, true, false, false, false, false] rfl rfl (take_ofW HT_.1 HW_.1 (by kernel_rfl)) (fun _ _ _ h => h) (Or.inl ⟨by rfl, ?_⟩) hHeld ?_ ?_
          rotate_left
          ·rintro w' ⟨s0, s1, s2, s3, s4, s5, s6, s7⟩
           go_simp
           with_reducible rfl
          rotate_left
          ·simp only [Act.put, List.setIfInBounds_toArray, List.set_cons_zero, List.set_cons_succ, i64_w, i32_w]
           rfl
          refine take_ (i := 2) (N := some 21) (v := ?_) (a' := ?_) #[true, true, true, true, true, true, false, true, false, false, false, false] rfl rfl (take_ofW HT_.1 HW_.1 (by kernel_rfl)) (fun _ _ _ h => h) (Or.inl ⟨by rfl, ?_⟩) hHeld ?_ ?_
          rotate_left
          ·rintro w' ⟨s0, s1, s2, s3, s4, s5, s6, s7⟩
           go_simp
           with_reducible rfl
          rotate_left
          ·simp only [Act.put, List.setIfInBounds_toArray, List.set_cons_zero, List.set_cons_succ, i64_w, i32_w]
           rfl
          refine take_ (i := 6) (N := some 25) (v := ?_) (a' := ?_) #[true, true, true, true, true, true, true, true, false, false, false, false] rfl rfl (take_ofW HT_.1 HW_.1 (by kernel_rfl)) (fun _ _ _ h => h) (Or.inl ⟨by rfl, ?_⟩) hHeld ?_ ?_
          rotate_left
          ·rintro w' ⟨s0, s1, s2, s3, s4, s5, s6, s7⟩
           go_simp
           with_reducible rfl
          rotate_left
          ·simp only [Act.put, List.setIfInBounds_toArray, List.set_cons_zero, List.set_cons_succ, i64_w, i32_w]
           rfl
          refine one_ (i := 8) (N := some 27) #[true, true, true, true, true, true, true, true, true, false, false, false] rfl rfl (one_of HT_.1 (by kernel_rfl)) (by decide) (fun K hK => ?_)
          refine goes_ Try.func64 (by kernel_rfl) rfl #[.agg #[.int .i64 a0_0, .int .i64 a0_1, .slice A0_2 l0_2.length c0_2, .slice A0_3 l0_3.length c0_3], .agg #[.int .i64 a1_0, .int .i64 a1_1, .int .i64 a1_2], .int .i64 (rd l2 x12_1), .int .i64 x12_1] (by rfl) rfl rfl (by (try simp only [List.map_toArray, List.map_cons, List.map_nil]); first | rfl ) ?_
          with_reducible refine (glisterref04_CodeOf.calls a0_0 a0_1 _ _ l0_2 _ _ l0_3 a1_0 a1_1 a1_2 (rd l2 x12_1) x12_1 t801 _ ?side1 ?side2 ?side3 ?side4 A9.1).mono ?_
          (case side1 => repeat (first | exact (Kd.C_below HR0_2.1 HB.1) ))
          (case side2 => exact HC0_2.1)
          (case side3 => repeat (first | exact (Kd.C_below HR0_3.1 HB.1) ))
          (case side4 => exact HC0_3.1)
          rintro e w18 ⟨rfl, hb⟩
          refine ⟨_, rfl, ?_⟩
          have n0_ := Sd.mk (Kd.R_below (by (with_reducible repeat (fail)); exact HO_10.1) hb)
          have n1_ := Sd.mk (Kd.R_below (by (with_reducible repeat (fail)); exact HO_11.1) hb)
          have n2_ := Sd.mk (kB (g := gb798) (o := .cells #[.int .i64 a0_0, .int .i64 a0_1, .slice A0_2 l0_2.length c0_2, .slice A0_3 l0_3.length c0_3] 25 (0, 0)) (by (with_reducible repeat (fail)); exact BK798.1) hb)
          have n3_ := Sd.mk (kB (g := gb799) (o := .cells #[.int .i64 a1_0, .int .i64 a1_1, .int .i64 a1_2] 82 (0, 0)) (by (with_reducible repeat (fail)); exact BK799.1) hb)
          have n4_ := Sd.mk (bT (by repeat (first | (with_reducible first | exact HB.1 ) )) hb)
          clear HO_10
          clear HO_11
          clear BK798
          clear BK799
          clear HB
          have HO_10 := n0_
          have HO_11 := n1_
          have BK798 := n2_
          have BK799 := n3_
          have HB := n4_
          clear n0_ n1_ n2_ n3_ n4_
          (try clear hb)
          refine hK.out _ _ ⟨(kC BK798.1 0).trans rfl, (kC BK798.1 1).trans rfl, (kC BK798.1 2).trans rfl, (kC BK798.1 3).trans rfl, (kC BK799.1 0).trans rfl, (kC BK799.1 1).trans rfl, (kC BK799.1 2).trans rfl, ((HB.1.cell (World.block_lt_of_cell? w _ hw800_0)).trans hw800_0)⟩ (fun hHeld => ?_)
          clear hK K
          refine norm_ (a' := ?_) ?_ ?_
          rotate_left
          ·show Act.put _ (some 27) _ = _
           simp only [Act.put, List.setIfInBounds_toArray, List.set_cons_zero, List.set_cons_succ, i64_w, i32_w]
           rfl
          refine one_ (i := 9) (N := some 28) #[true, true, true, true, true, true, true, true, true, true, false, false] rfl rfl (one_of HT_.1 (by kernel_rfl)) (by decide) (fun K hK => ?_)
          refine value_ (w1 := ?_) (v := ?_) (by rfl) rfl ?_ ?_
          rotate_left 2
          ·go_simp
           constructor
           ·rfl
           ·rfl
          refine hK.out _ _ ⟨(kC (kA BK798.1 _) 0).trans rfl, (kC (kA BK798.1 _) 1).trans rfl, (kC (kA BK798.1 _) 2).trans rfl, (kC (kA BK798.1 _) 3).trans rfl, (kC (kA BK799.1 _) 0).trans rfl, (kC (kA BK799.1 _) 1).trans rfl, (kC (kA BK799.1 _) 2).trans rfl, (World.cell?_alloc_lt _ _ _ (World.block_lt_of_cell? _ _ (((HB.1.cell (World.block_lt_of_cell? w _ hw800_0)).trans hw800_0)))).trans (((HB.1.cell (World.block_lt_of_cell? w _ hw800_0)).trans hw800_0))⟩ (fun hHeld => ?_)
          clear hK K
          refine norm_ (a' := ?_) ?_ ?_
          rotate_left
          ·show Act.put _ (some 28) _ = _
           simp only [Act.put, List.setIfInBounds_toArray, List.set_cons_zero, List.set_cons_succ, i64_w, i32_w]
           rfl
          refine one_ (i := 10) (N := some 29) #[true, true, true, true, true, true, true, true, true, true, true, false] rfl rfl (one_of HT_.1 (by kernel_rfl)) (by decide) (fun K hK => ?_)
          refine Kd.R_append_step (Kd.int .i64) (w0 := w) w.heap.size (by rfl) (.tmp 19) (.tmp 28) 23 3 (.int .i64 0) 8 rfl Try.underlying23 info3 rfl (by decide) (by omega) u10 x10_1 t801 [.int .i64 t801] (fun _ => True) (fun _ => False) rfl rfl ?aP (fun _ hk => hk.elim) ?aF ?aO ?aB ?aS ?aL ?_
          (case aP => exact rfl)
          (case aB => exact (by repeat (first | (with_reducible first | exact HB.1 ) )))
          (case aF => exact (fun _ _ => trivial))
          (case aO => exact (by (with_reducible repeat (fail)); exact HO_10.1))
          (case aS => exact (bZ (by repeat (first | (with_reducible first | exact HB.1 ) ))))
          (case aL => have := LMc10.1; omega)
          intro v803 w19 ho hb hg hat
          rw [← Ny802.1] at ho
          have n0_ := Sd.mk (Kd.R_over' (by (with_reducible repeat (fail)); exact HO_11.1) (Kd.R_typed (by (with_reducible repeat (fail)); exact HO_10.1)) (by decide) hg)
          have n1_ := Sd.mk (blk_grown (g := gb798) (o := .cells #[.int .i64 a0_0, .int .i64 a0_1, .slice A0_2 l0_2.length c0_2, .slice A0_3 l0_3.length c0_3] 25 (0, 0)) (by (with_reducible repeat (fail)); exact BK798.1) hg (Kd.R_ne HO_10.1 BK798.1 (by decide)))
          have n2_ := Sd.mk (blk_grown (g := gb799) (o := .cells #[.int .i64 a1_0, .int .i64 a1_1, .int .i64 a1_2] 82 (0, 0)) (by (with_reducible repeat (fail)); exact BK799.1) hg (Kd.R_ne HO_10.1 BK799.1 (by decide)))
          have n3_ := Sd.mk (hb)
          have n4_ := Sd.mk (ho)
          clear HO_11
          clear BK798
          clear BK799
          clear HB
          clear HO_10
          have HO_11 := n0_
          have BK798 := n1_
          have BK799 := n2_
          have HB := n3_
          have HO804 := n4_
          clear n0_ n1_ n2_ n3_ n4_
          clear ho hb hg hat
          refine hK.out _ _ ⟨(kC BK798.1 0).trans rfl, (kC BK798.1 1).trans rfl, (kC BK798.1 2).trans rfl, (kC BK798.1 3).trans rfl, (kC BK799.1 0).trans rfl, (kC BK799.1 1).trans rfl, (kC BK799.1 2).trans rfl, ((HB.1.cell (World.block_lt_of_cell? w _ hw800_0)).trans hw800_0)⟩ (fun hHeld => ?_)
          clear hK K
          refine norm_ (a' := ?_) ?_ ?_
          rotate_left
          ·show Act.put _ (some 29) _ = _
           simp only [Act.put, List.setIfInBounds_toArray, List.set_cons_zero, List.set_cons_succ, i64_w, i32_w]
           rfl
          refine pure_ (i := 11) (N := some 10) (v := ?_) (a' := ?_) #[true, true, true, true, true, true, true, true, true, true, true, true] rfl rfl (any_of HT_.1 (by kernel_rfl)) (fun _ _ _ h => h) (Or.inl ⟨by rfl, ?_⟩) ?_ ?_
          rotate_left
          ·intro w'
           go_simp
           with_reducible rfl
          rotate_left
          ·simp only [Act.put, List.setIfInBounds_toArray, List.set_cons_zero, List.set_cons_succ, i64_w, i32_w]
           rfl
          refine done_ (done_of HT_.1 (by kernel_rfl)) ?_
          obtain ⟨Ao20, co20, eo20⟩ := Kd.R_slice HO_11.1
          subst eo20
          have p805 : 0 ≤ (x12_1 : Int) := of_decide_eq_true (by first | (with_reducible assumption) )
          have q805 : x12_1 < (l2.length : Int) := of_decide_eq_true (by first | (with_reducible assumption) )
          obtain ⟨ad805, e805, hx805_0⟩ := Kd.at_int HR2.1 x12_1 p805 q805
          obtain rfl : ad800 = ad805 := (by injection e805)
          replace hx805_0 := (HB.1.cell (World.block_lt_of_cell? w _ hx805_0)).trans hx805_0
          replace p805 := eq_true p805
          replace q805 := eq_true q805
          try go_wp2_with (first | ((with_reducible refine gate_builtin (b := .append) (xs := #[.tmp 41, .tmp 48]) rfl ?_); (try (refine gG (by rfl) ?_; dsimp only)); at_builtin; refine Kd.R_append k85 (w0 := w) w.heap.size rfl (.tmp 41) (.tmp 48) 68 85 (.agg #[(.int .i64 0), (.int .i64 0)]) 16 rfl Try.underlying68 info85 rfl (by decide) (by omega) (.slice Ao20 x11_1.length co20) x11_1 (⟨x12_1, rd l2 x12_1⟩ : S85) [.int .i64 x12_1, .int .i64 (rd l2 x12_1)] (fun _ => True) (fun _ => False) rfl rfl ?aP (fun _ hk => hk.elim) ?aF ?aO ?aB ?aS ?aL ?_; (case aP => exact k85_mkM _ _ _ (⟨x12_1, rd l2 x12_1⟩ : S85)); (case aB => exact (by repeat (first | (with_reducible first | exact HB.1 ) ))); (case aF => exact (fun _ _ => trivial)); (case aO => exact (by (with_reducible repeat (fail)); exact HO_11.1)); (case aS => exact (bZ (by repeat (first | (with_reducible first | exact HB.1 ) )))); (case aL => have := LMc16.1; omega); intro v807 w21 ho hb hg hat; rw [← Ny806.1] at ho; replace BK798 := Sd.mk (blk_grown (g := gb798) (o := .cells #[.int .i64 a0_0, .int .i64 a0_1, .slice A0_2 l0_2.length c0_2, .slice A0_3 l0_3.length c0_3] 25 (0, 0)) (by (with_reducible repeat (fail)); exact BK798.1) hg (Kd.R_ne HO_11.1 BK798.1 (by decide))); replace BK799 := Sd.mk (blk_grown (g := gb799) (o := .cells #[.int .i64 a1_0, .int .i64 a1_1, .int .i64 a1_2] 82 (0, 0)) (by (with_reducible repeat (fail)); exact BK799.1) hg (Kd.R_ne HO_11.1 BK799.1 (by decide))); replace HO804 := Sd.mk (Kd.R_over' (by (with_reducible repeat (fail)); exact HO804.1) (Kd.R_typed (by (with_reducible repeat (fail)); exact HO_11.1)) (by decide) hg); replace HB := Sd.mk (hb); have HO808 := Sd.mk (ho); clear HO_11; clear ho hb hg hat))
          go_roundg k1
          case measure => have := HK1.1; omega
          case rel => exact ⟨(y802), (y806), (wrap64 (x12_1 + 1)), (by first | rfl ), H', ⟨by have := HK1.1; omega⟩, ⟨by (with_reducible repeat (fail)); exact HO804.1⟩, ⟨by (with_reducible repeat (fail)); exact HO808.1⟩, ⟨by (with_reducible repeat (fail)); exact BK798.1⟩, ⟨by (with_reducible repeat (fail)); exact BK799.1⟩, ⟨by repeat (first | (with_reducible first | exact HB.1 ) )⟩⟩
         ·rw [if_neg c16] at H
          exact absurd H (by simp)
        ·rw [if_neg c15] at H
         have c15b0 : decide ((x11_1.length : Int) < 6) = false := decide_eq_false c15
         have c15b1 : decide (x11_1.length < 6) = false := decide_eq_false (by omega)
         clear c15
         have H' := Sd.mk H
         clear H
         try go_wp2
         have n0_ := Sd.mk (Kd.R_drew HO_10.1)
         have n1_ := Sd.mk (Kd.R_drew HO_11.1)
         have n2_ := Sd.mk (kD BK798.1)
         have n3_ := Sd.mk (kD BK799.1)
         have n4_ := Sd.mk (bD HB.1)
         clear HO_10
         clear HO_11
         clear BK798
         clear BK799
         clear HB
         have HO_10 := n0_
         have HO_11 := n1_
         have BK798 := n2_
         have BK799 := n3_
         have HB := n4_
         clear n0_ n1_ n2_ n3_ n4_
         have p800 : 0 ≤ (x12_1 : Int) := of_decide_eq_true (by first | (with_reducible assumption) )
         have q800 : x12_1 < (l2.length : Int) := of_decide_eq_true (by first | (with_reducible assumption) )
         obtain ⟨ad800, e800, hx800_0⟩ := Kd.at_int HR2.1 x12_1 p800 q800
         have hw800_0 := hx800_0
         cases e800
         replace hx800_0 := (HB.1.cell (World.block_lt_of_cell? w _ hx800_0)).trans hx800_0
         replace p800 := eq_true p800
         replace q800 := eq_true q800
         refine start_ (n := 12) (S := fun w' => w'.cell? ⟨gb798, 0, none⟩ = some (.int .i64 a0_0) ∧ w'.cell? ⟨gb798, 1, none⟩ = some (.int .i64 a0_1) ∧ w'.cell? ⟨gb798, 2, none⟩ = some (.slice A0_2 l0_2.length c0_2) ∧ w'.cell? ⟨gb798, 3, none⟩ = some (.slice A0_3 l0_3.length c0_3) ∧ w'.cell? ⟨gb799, 0, none⟩ = some (.int .i64 a1_0) ∧ w'.cell? ⟨gb799, 1, none⟩ = some (.int .i64 a1_1) ∧ w'.cell? ⟨gb799, 2, none⟩ = some (.int .i64 a1_2) ∧ w'.cell? (ad800.add (x12_1).toNat) = some (.int .i64 (rd l2 x12_1))) (ds := []) #[false, false, false, false, false, false, false, false, false, false, false, false] (by kernel_rfl) rfl rfl ⟨(kC BK798.1 0).trans rfl, (kC BK798.1 1).trans rfl, (kC BK798.1 2).trans rfl, (kC BK798.1 3).trans rfl, (kC BK799.1 0).trans rfl, (kC BK799.1 1).trans rfl, (kC BK799.1 2).trans rfl, ((HB.1.cell (World.block_lt_of_cell? w _ hw800_0)).trans hw800_0)⟩ (fun hHeld => ?_); refine with_tabW glisterlaw04_Guessed.tab6 glisterlaw04_Guessed.bits6 (fun HT_ HW_ => ?_)
         generalize wr.drew = w22 at HO_10 HO_11 BK798 BK799 HB hx800_0 hHeld ⊢
         refine pure_ (i := 0) (N := some 19) (v := ?_) (a' := ?_) #[true, false, false, false, false, false, false, false, false, false, false, false] rfl rfl (any_of HT_.1 (by kernel_rfl)) (fun _ _ _ h => h) (Or.inl ⟨by rfl, ?_⟩) ?_ ?_
         rotate_left
         ·intro w'
          go_simp
          with_reducible rfl
         rotate_left
         ·simp only [Act.put, List.setIfInBounds_toArray, List.set_cons_zero, List.set_cons_succ, i64_w, i32_w]
          rfl
         refine pure_ (i := 3) (N := some 22) (v := ?_) (a' := ?_) #[true, false, false, true, false, false, false, false, false, false, false, false] rfl rfl (any_of HT_.1 (by kernel_rfl)) (fun _ _ _ h => h) (Or.inl ⟨by rfl, ?_⟩) ?_ ?_
         rotate_left
         ·intro w'
          go_simp
          with_reducible rfl
         rotate_left
         ·simp only [Act.put, List.setIfInBounds_toArray, List.set_cons_zero, List.set_cons_succ, i64_w, i32_w]
          rfl
         refine pure_ (i := 4) (N := some 23) (v := ?_) (a' := ?_) #[true, false, false, true, true, false, false, false, false, false, false, false] rfl rfl (any_of HT_.1 (by kernel_rfl)) (fun _ _ _ h => h) (Or.inl ⟨by rfl, ?_⟩) ?_ ?_
         rotate_left
         ·intro w'
          go_simp
          with_reducible rfl
         rotate_left
         ·simp only [Act.put, List.setIfInBounds_toArray, List.set_cons_zero, List.set_cons_succ, i64_w, i32_w]
          rfl
         refine pure_ (i := 5) (N := some 24) (v := ?_) (a' := ?_) #[true, false, false, true, true, true, false, false, false, false, false, false] rfl rfl (any_of HT_.1 (by kernel_rfl)) (fun _ _ _ h => h) (Or.inl ⟨by rfl, ?_⟩) ?_ ?_
         rotate_left
         ·intro w'
          go_simp
          with_reducible rfl
         rotate_left
         ·simp only [Act.put, List.setIfInBounds_toArray, List.set_cons_zero, List.set_cons_succ, i64_w, i32_w]
          rfl
         refine pure_ (i := 7) (N := some 26) (v := ?_) (a' := ?_) #[true, false, false, true, true, true, false, true, false, false, false, false] rfl rfl (any_of HT_.1 (by kernel_rfl)) (fun _ _ _ h => h) (Or.inl ⟨by rfl, ?_⟩) ?_ ?_
         rotate_left
         ·intro w'
          go_simp
          with_reducible rfl
         rotate_left
         ·simp only [Act.put, List.setIfInBounds_toArray, List.set_cons_zero, List.set_cons_succ, i64_w, i32_w]
          rfl
         refine take_ (i := 1) (N := some 20) (v := ?_) (a' := ?_) #[true, true, false, true, true, true, false, true, false, false, false, false] rfl rfl (take_ofW HT_.1 HW_.1 (by kernel_rfl)) (fun _ _ _ h => h) (Or.inl ⟨by rfl, ?_⟩) hHeld ?_ ?_
         rotate_left
         ·rintro w' ⟨s0, s1, s2, s3, s4, s5, s6, s7⟩
          go_simp
          with_reducible rfl
         rotate_left
         ·simp only [Act.put, List.setIfInBounds_toArray, List.set_cons_zero, List.set_cons_succ, i64_w, i32_w]
          rfl
         refine take_ (i := 2) (N := some 21) (v := ?_) (a' := ?_) #[true, true, true, true, true, true, false, true, false, false, false, false] rfl rfl (take_ofW HT_.1 HW_.1 (by kernel_rfl)) (fun _ _ _ h => h) (Or.inl ⟨by rfl, ?_⟩) hHeld ?_ ?_
         rotate_left
         ·rintro w' ⟨s0, s1, s2, s3, s4, s5, s6, s7⟩
          go_simp
          with_reducible rfl
         rotate_left
         ·simp only [Act.put, List.setIfInBounds_toArray, List.set_cons_zero, List.set_cons_succ, i64_w, i32_w]
          rfl
         refine take_ (i := 6) (N := some 25) (v := ?_) (a' := ?_) #[true, true, true, true, true, true, true, true, false, false, false, false] rfl rfl (take_ofW HT_.1 HW_.1 (by kernel_rfl)) (fun _ _ _ h => h) (Or.inl ⟨by rfl, ?_⟩) hHeld ?_ ?_
         rotate_left
         ·rintro w' ⟨s0, s1, s2, s3, s4, s5, s6, s7⟩
          go_simp
          with_reducible rfl
         rotate_left
         ·simp only [Act.put, List.setIfInBounds_toArray, List.set_cons_zero, List.set_cons_succ, i64_w, i32_w]
          rfl
         refine one_ (i := 8) (N := some 27) #[true, true, true, true, true, true, true, true, true, false, false, false] rfl rfl (one_of HT_.1 (by kernel_rfl)) (by decide) (fun K hK => ?_)
         refine goes_ Try.func64 (by kernel_rfl) rfl #[.agg #[.int .i64 a0_0, .int .i64 a0_1, .slice A0_2 l0_2.length c0_2, .slice A0_3 l0_3.length c0_3], .agg #[.int .i64 a1_0, .int .i64 a1_1, .int .i64 a1_2], .int .i64 (rd l2 x12_1), .int .i64 x12_1] (by rfl) rfl rfl (by (try simp only [List.map_toArray, List.map_cons, List.map_nil]); first | rfl ) ?_
         with_reducible refine (glisterref04_CodeOf.calls a0_0 a0_1 _ _ l0_2 _ _ l0_3 a1_0 a1_1 a1_2 (rd l2 x12_1) x12_1 t801 _ ?side1 ?side2 ?side3 ?side4 A9.1).mono ?_
         (case side1 => repeat (first | exact (Kd.C_below HR0_2.1 HB.1) ))
         (case side2 => exact HC0_2.1)
         (case side3 => repeat (first | exact (Kd.C_below HR0_3.1 HB.1) ))
         (case side4 => exact HC0_3.1)
         rintro e w23 ⟨rfl, hb⟩
         refine ⟨_, rfl, ?_⟩
         have n0_ := Sd.mk (Kd.R_below (by (with_reducible repeat (fail)); exact HO_10.1) hb)
         have n1_ := Sd.mk (Kd.R_below (by (with_reducible repeat (fail)); exact HO_11.1) hb)
         have n2_ := Sd.mk (kB (g := gb798) (o := .cells #[.int .i64 a0_0, .int .i64 a0_1, .slice A0_2 l0_2.length c0_2, .slice A0_3 l0_3.length c0_3] 25 (0, 0)) (by (with_reducible repeat (fail)); exact BK798.1) hb)
         have n3_ := Sd.mk (kB (g := gb799) (o := .cells #[.int .i64 a1_0, .int .i64 a1_1, .int .i64 a1_2] 82 (0, 0)) (by (with_reducible repeat (fail)); exact BK799.1) hb)
         have n4_ := Sd.mk (bT (by repeat (first | (with_reducible first | exact HB.1 ) )) hb)
         clear HO_10
         clear HO_11
         clear BK798
         clear BK799
         clear HB
         have HO_10 := n0_
         have HO_11 := n1_
         have BK798 := n2_
         have BK799 := n3_
         have HB := n4_
         clear n0_ n1_ n2_ n3_ n4_
         (try clear hb)
         refine hK.out _ _ ⟨(kC BK798.1 0).trans rfl, (kC BK798.1 1).trans rfl, (kC BK798.1 2).trans rfl, (kC BK798.1 3).trans rfl, (kC BK799.1 0).trans rfl, (kC BK799.1 1).trans rfl, (kC BK799.1 2).trans rfl, ((HB.1.cell (World.block_lt_of_cell? w _ hw800_0)).trans hw800_0)⟩ (fun hHeld => ?_)
         clear hK K
         refine norm_ (a' := ?_) ?_ ?_
         rotate_left
         ·show Act.put _ (some 27) _ = _
          simp only [Act.put, List.setIfInBounds_toArray, List.set_cons_zero, List.set_cons_succ, i64_w, i32_w]
          rfl
         refine one_ (i := 9) (N := some 28) #[true, true, true, true, true, true, true, true, true, true, false, false] rfl rfl (one_of HT_.1 (by kernel_rfl)) (by decide) (fun K hK => ?_)
         refine value_ (w1 := ?_) (v := ?_) (by rfl) rfl ?_ ?_
         rotate_left 2
         ·go_simp
          constructor
          ·rfl
          ·rfl
         refine hK.out _ _ ⟨(kC (kA BK798.1 _) 0).trans rfl, (kC (kA BK798.1 _) 1).trans rfl, (kC (kA BK798.1 _) 2).trans rfl, (kC (kA BK798.1 _) 3).trans rfl, (kC (kA BK799.1 _) 0).trans rfl, (kC (kA BK799.1 _) 1).trans rfl, (kC (kA BK799.1 _) 2).trans rfl, (World.cell?_alloc_lt _ _ _ (World.block_lt_of_cell? _ _ (((HB.1.cell (World.block_lt_of_cell? w _ hw800_0)).trans hw800_0)))).trans (((HB.1.cell (World.block_lt_of_cell? w _ hw800_0)).trans hw800_0))⟩ (fun hHeld => ?_)
         clear hK K
         refine norm_ (a' := ?_) ?_ ?_
         rotate_left
         ·show Act.put _ (some 28) _ = _
          simp only [Act.put, List.setIfInBounds_toArray, List.set_cons_zero, List.set_cons_succ, i64_w, i32_w]
          rfl
         refine one_ (i := 10) (N := some 29) #[true, true, true, true, true, true, true, true, true, true, true, false] rfl rfl (one_of HT_.1 (by kernel_rfl)) (by decide) (fun K hK => ?_)
         refine Kd.R_append_step (Kd.int .i64) (w0 := w) w.heap.size (by rfl) (.tmp 19) (.tmp 28) 23 3 (.int .i64 0) 8 rfl Try.underlying23 info3 rfl (by decide) (by omega) u10 x10_1 t801 [.int .i64 t801] (fun _ => True) (fun _ => False) rfl rfl ?aP (fun _ hk => hk.elim) ?aF ?aO ?aB ?aS ?aL ?_
         (case aP => exact rfl)
         (case aB => exact (by repeat (first | (with_reducible first | exact HB.1 ) )))
         (case aF => exact (fun _ _ => trivial))
         (case aO => exact (by (with_reducible repeat (fail)); exact HO_10.1))
         (case aS => exact (bZ (by repeat (first | (with_reducible first | exact HB.1 ) ))))
         (case aL => have := LMc10.1; omega)
         intro v803 w24 ho hb hg hat
         rw [← Ny802.1] at ho
         have n0_ := Sd.mk (Kd.R_over' (by (with_reducible repeat (fail)); exact HO_11.1) (Kd.R_typed (by (with_reducible repeat (fail)); exact HO_10.1)) (by decide) hg)
         have n1_ := Sd.mk (blk_grown (g := gb798) (o := .cells #[.int .i64 a0_0, .int .i64 a0_1, .slice A0_2 l0_2.length c0_2, .slice A0_3 l0_3.length c0_3] 25 (0, 0)) (by (with_reducible repeat (fail)); exact BK798.1) hg (Kd.R_ne HO_10.1 BK798.1 (by decide)))
         have n2_ := Sd.mk (blk_grown (g := gb799) (o := .cells #[.int .i64 a1_0, .int .i64 a1_1, .int .i64 a1_2] 82 (0, 0)) (by (with_reducible repeat (fail)); exact BK799.1) hg (Kd.R_ne HO_10.1 BK799.1 (by decide)))
         have n3_ := Sd.mk (hb)
         have n4_ := Sd.mk (ho)
         clear HO_11
         clear BK798
         clear BK799
         clear HB
         clear HO_10
         have HO_11 := n0_
         have BK798 := n1_
         have BK799 := n2_
         have HB := n3_
         have HO804 := n4_
         clear n0_ n1_ n2_ n3_ n4_
         clear ho hb hg hat
         refine hK.out _ _ ⟨(kC BK798.1 0).trans rfl, (kC BK798.1 1).trans rfl, (kC BK798.1 2).trans rfl, (kC BK798.1 3).trans rfl, (kC BK799.1 0).trans rfl, (kC BK799.1 1).trans rfl, (kC BK799.1 2).trans rfl, ((HB.1.cell (World.block_lt_of_cell? w _ hw800_0)).trans hw800_0)⟩ (fun hHeld => ?_)
         clear hK K
         refine norm_ (a' := ?_) ?_ ?_
         rotate_left
         ·show Act.put _ (some 29) _ = _
          simp only [Act.put, List.setIfInBounds_toArray, List.set_cons_zero, List.set_cons_succ, i64_w, i32_w]
          rfl
         refine pure_ (i := 11) (N := some 10) (v := ?_) (a' := ?_) #[true, true, true, true, true, true, true, true, true, true, true, true] rfl rfl (any_of HT_.1 (by kernel_rfl)) (fun _ _ _ h => h) (Or.inl ⟨by rfl, ?_⟩) ?_ ?_
         rotate_left
         ·intro w'
          go_simp
          with_reducible rfl
         rotate_left
         ·simp only [Act.put, List.setIfInBounds_toArray, List.set_cons_zero, List.set_cons_succ, i64_w, i32_w]
          rfl
         refine done_ (done_of HT_.1 (by kernel_rfl)) ?_
         obtain ⟨Ao25, co25, eo25⟩ := Kd.R_slice HO_11.1
         subst eo25
         try go_wp2
         go_roundg k1
         case measure => have := HK1.1; omega
         case rel => exact ⟨(y802), (x11_1), (wrap64 (x12_1 + 1)), (by first | rfl ), H', ⟨by have := HK1.1; omega⟩, ⟨by (with_reducible repeat (fail)); exact HO804.1⟩, ⟨by (with_reducible repeat (fail)); exact HO_11.1⟩, ⟨by (with_reducible repeat (fail)); exact BK798.1⟩, ⟨by (with_reducible repeat (fail)); exact BK799.1⟩, ⟨by repeat (first | (with_reducible first | exact HB.1 ) )⟩⟩
       ·rw [if_neg c14] at H
        have c14b0 : ((Int.tmod (ji13) 2) == 1) = false := beq_eq_false_iff_ne.mpr c14
        have c14b1 : ((Int.tmod (ji13) 2) != 1) = true := bne_iff_ne.mpr c14
        have H' := Sd.mk H
        clear H
        try go_wp2
        have n0_ := Sd.mk (Kd.R_drew HO_10.1)
        have n1_ := Sd.mk (Kd.R_drew HO_11.1)
        have n2_ := Sd.mk (kD BK798.1)
        have n3_ := Sd.mk (kD BK799.1)
        have n4_ := Sd.mk (bD HB.1)
        clear HO_10
        clear HO_11
        clear BK798
        clear BK799
        clear HB
        have HO_10 := n0_
        have HO_11 := n1_
        have BK798 := n2_
        have BK799 := n3_
        have HB := n4_
        clear n0_ n1_ n2_ n3_ n4_
        have p800 : 0 ≤ (x12_1 : Int) := of_decide_eq_true (by first | (with_reducible assumption) )
        have q800 : x12_1 < (l2.length : Int) := of_decide_eq_true (by first | (with_reducible assumption) )
        obtain ⟨ad800, e800, hx800_0⟩ := Kd.at_int HR2.1 x12_1 p800 q800
        have hw800_0 := hx800_0
        cases e800
        replace hx800_0 := (HB.1.cell (World.block_lt_of_cell? w _ hx800_0)).trans hx800_0
        replace p800 := eq_true p800
        replace q800 := eq_true q800
        refine start_ (n := 12) (S := fun w' => w'.cell? ⟨gb798, 0, none⟩ = some (.int .i64 a0_0) ∧ w'.cell? ⟨gb798, 1, none⟩ = some (.int .i64 a0_1) ∧ w'.cell? ⟨gb798, 2, none⟩ = some (.slice A0_2 l0_2.length c0_2) ∧ w'.cell? ⟨gb798, 3, none⟩ = some (.slice A0_3 l0_3.length c0_3) ∧ w'.cell? ⟨gb799, 0, none⟩ = some (.int .i64 a1_0) ∧ w'.cell? ⟨gb799, 1, none⟩ = some (.int .i64 a1_1) ∧ w'.cell? ⟨gb799, 2, none⟩ = some (.int .i64 a1_2) ∧ w'.cell? (ad800.add (x12_1).toNat) = some (.int .i64 (rd l2 x12_1))) (ds := []) #[false, false, false, false, false, false, false, false, false, false, false, false] (by kernel_rfl) rfl rfl ⟨(kC BK798.1 0).trans rfl, (kC BK798.1 1).trans rfl, (kC BK798.1 2).trans rfl, (kC BK798.1 3).trans rfl, (kC BK799.1 0).trans rfl, (kC BK799.1 1).trans rfl, (kC BK799.1 2).trans rfl, ((HB.1.cell (World.block_lt_of_cell? w _ hw800_0)).trans hw800_0)⟩ (fun hHeld => ?_); refine with_tabW glisterlaw04_Guessed.tab6 glisterlaw04_Guessed.bits6 (fun HT_ HW_ => ?_)
        generalize wr.drew = w26 at HO_10 HO_11 BK798 BK799 HB hx800_0 hHeld ⊢
        refine pure_ (i := 0) (N := some 19) (v := ?_) (a' := ?_) #[true, false, false, false, false, false, false, false, false, false, false, false] rfl rfl (any_of HT_.1 (by kernel_rfl)) (fun _ _ _ h => h) (Or.inl ⟨by rfl, ?_⟩) ?_ ?_
        rotate_left
        ·intro w'
         go_simp
         with_reducible rfl
        rotate_left
        ·simp only [Act.put, List.setIfInBounds_toArray, List.set_cons_zero, List.set_cons_succ, i64_w, i32_w]
         rfl
        refine pure_ (i := 3) (N := some 22) (v := ?_) (a' := ?_) #[true, false, false, true, false, false, false, false, false, false, false, false] rfl rfl (any_of HT_.1 (by kernel_rfl)) (fun _ _ _ h => h) (Or.inl ⟨by rfl, ?_⟩) ?_ ?_
        rotate_left
        ·intro w'
         go_simp
         with_reducible rfl
        rotate_left
        ·simp only [Act.put, List.setIfInBounds_toArray, List.set_cons_zero, List.set_cons_succ, i64_w, i32_w]
         rfl
        refine pure_ (i := 4) (N := some 23) (v := ?_) (a' := ?_) #[true, false, false, true, true, false, false, false, false, false, false, false] rfl rfl (any_of HT_.1 (by kernel_rfl)) (fun _ _ _ h => h) (Or.inl ⟨by rfl, ?_⟩) ?_ ?_
        rotate_left
        ·intro w'
         go_simp
         with_reducible rfl
        rotate_left
        ·simp only [Act.put, List.setIfInBounds_toArray, List.set_cons_zero, List.set_cons_succ, i64_w, i32_w]
         rfl
        refine pure_ (i := 5) (N := some 24) (v := ?_) (a' := ?_) #[true, false, false, true, true, true, false, false, false, false, false, false] rfl rfl (any_of HT_.1 (by kernel_rfl)) (fun _ _ _ h => h) (Or.inl ⟨by rfl, ?_⟩) ?_ ?_
        rotate_left
        ·intro w'
         go_simp
         with_reducible rfl
        rotate_left
        ·simp only [Act.put, List.setIfInBounds_toArray, List.set_cons_zero, List.set_cons_succ, i64_w, i32_w]
         rfl
        refine pure_ (i := 7) (N := some 26) (v := ?_) (a' := ?_) #[true, false, false, true, true, true, false, true, false, false, false, false] rfl rfl (any_of HT_.1 (by kernel_rfl)) (fun _ _ _ h => h) (Or.inl ⟨by rfl, ?_⟩) ?_ ?_
        rotate_left
        ·intro w'
         go_simp
         with_reducible rfl
        rotate_left
        ·simp only [Act.put, List.setIfInBounds_toArray, List.set_cons_zero, List.set_cons_succ, i64_w, i32_w]
         rfl
        refine take_ (i := 1) (N := some 20) (v := ?_) (a' := ?_) #[true, true, false, true, true, true, false, true, false, false, false, false] rfl rfl (take_ofW HT_.1 HW_.1 (by kernel_rfl)) (fun _ _ _ h => h) (Or.inl ⟨by rfl, ?_⟩) hHeld ?_ ?_
        rotate_left
        ·rintro w' ⟨s0, s1, s2, s3, s4, s5, s6, s7⟩
         go_simp
         with_reducible rfl
        rotate_left
        ·simp only [Act.put, List.setIfInBounds_toArray, List.set_cons_zero, List.set_cons_succ, i64_w, i32_w]
         rfl
        refine take_ (i := 2) (N := some 21) (v := ?_) (a' := ?_) #[true, true, true, true, true, true, false, true, false, false, false, false] rfl rfl (take_ofW HT_.1 HW_.1 (by kernel_rfl)) (fun _ _ _ h => h) (Or.inl ⟨by rfl, ?_⟩) hHeld ?_ ?_
        rotate_left
        ·rintro w' ⟨s0, s1, s2, s3, s4, s5, s6, s7⟩
         go_simp
         with_reducible rfl
        rotate_left
        ·simp only [Act.put, List.setIfInBounds_toArray, List.set_cons_zero, List.set_cons_succ, i64_w, i32_w]
         rfl
        refine take_ (i := 6) (N := some 25) (v := ?_) (a' := ?_) #[true, true, true, true, true, true, true, true, false, false, false, false] rfl rfl (take_ofW HT_.1 HW_.1 (by kernel_rfl)) (fun _ _ _ h => h) (Or.inl ⟨by rfl, ?_⟩) hHeld ?_ ?_
        rotate_left
        ·rintro w' ⟨s0, s1, s2, s3, s4, s5, s6, s7⟩
         go_simp
         with_reducible rfl
        rotate_left
        ·simp only [Act.put, List.setIfInBounds_toArray, List.set_cons_zero, List.set_cons_succ, i64_w, i32_w]
         rfl
        refine one_ (i := 8) (N := some 27) #[true, true, true, true, true, true, true, true, true, false, false, false] rfl rfl (one_of HT_.1 (by kernel_rfl)) (by decide) (fun K hK => ?_)
        refine goes_ Try.func64 (by kernel_rfl) rfl #[.agg #[.int .i64 a0_0, .int .i64 a0_1, .slice A0_2 l0_2.length c0_2, .slice A0_3 l0_3.length c0_3], .agg #[.int .i64 a1_0, .int .i64 a1_1, .int .i64 a1_2], .int .i64 (rd l2 x12_1), .int .i64 x12_1] (by rfl) rfl rfl (by (try simp only [List.map_toArray, List.map_cons, List.map_nil]); first | rfl ) ?_
        with_reducible refine (glisterref04_CodeOf.calls a0_0 a0_1 _ _ l0_2 _ _ l0_3 a1_0 a1_1 a1_2 (rd l2 x12_1) x12_1 t801 _ ?side1 ?side2 ?side3 ?side4 A9.1).mono ?_
        (case side1 => repeat (first | exact (Kd.C_below HR0_2.1 HB.1) ))
        (case side2 => exact HC0_2.1)
        (case side3 => repeat (first | exact (Kd.C_below HR0_3.1 HB.1) ))
        (case side4 => exact HC0_3.1)
        rintro e w27 ⟨rfl, hb⟩
        refine ⟨_, rfl, ?_⟩
        have n0_ := Sd.mk (Kd.R_below (by (with_reducible repeat (fail)); exact HO_10.1) hb)
        have n1_ := Sd.mk (Kd.R_below (by (with_reducible repeat (fail)); exact HO_11.1) hb)
        have n2_ := Sd.mk (kB (g := gb798) (o := .cells #[.int .i64 a0_0, .int .i64 a0_1, .slice A0_2 l0_2.length c0_2, .slice A0_3 l0_3.length c0_3] 25 (0, 0)) (by (with_reducible repeat (fail)); exact BK798.1) hb)
        have n3_ := Sd.mk (kB (g := gb799) (o := .cells #[.int .i64 a1_0, .int .i64 a1_1, .int .i64 a1_2] 82 (0, 0)) (by (with_reducible repeat (fail)); exact BK799.1) hb)
        have n4_ := Sd.mk (bT (by repeat (first | (with_reducible first | exact HB.1 ) )) hb)
        clear HO_10
        clear HO_11
        clear BK798
        clear BK799
        clear HB
        have HO_10 := n0_
        have HO_11 := n1_
        have BK798 := n2_
        have BK799 := n3_
        have HB := n4_
        clear n0_ n1_ n2_ n3_ n4_
        (try clear hb)
        refine hK.out _ _ ⟨(kC BK798.1 0).trans rfl, (kC BK798.1 1).trans rfl, (kC BK798.1 2).trans rfl, (kC BK798.1 3).trans rfl, (kC BK799.1 0).trans rfl, (kC BK799.1 1).trans rfl, (kC BK799.1 2).trans rfl, ((HB.1.cell (World.block_lt_of_cell? w _ hw800_0)).trans hw800_0)⟩ (fun hHeld => ?_)
        clear hK K
        refine norm_ (a' := ?_) ?_ ?_
        rotate_left
        ·show Act.put _ (some 27) _ = _
         simp only [Act.put, List.setIfInBounds_toArray, List.set_cons_zero, List.set_cons_succ, i64_w, i32_w]
         rfl
        refine one_ (i := 9) (N := some 28) #[true, true, true, true, true, true, true, true, true, true, false, false] rfl rfl (one_of HT_.1 (by kernel_rfl)) (by decide) (fun K hK => ?_)
        refine value_ (w1 := ?_) (v := ?_) (by rfl) rfl ?_ ?_
        rotate_left 2
        ·go_simp
         constructor
         ·rfl
         ·rfl
        refine hK.out _ _ ⟨(kC (kA BK798.1 _) 0).trans rfl, (kC (kA BK798.1 _) 1).trans rfl, (kC (kA BK798.1 _) 2).trans rfl, (kC (kA BK798.1 _) 3).trans rfl, (kC (kA BK799.1 _) 0).trans rfl, (kC (kA BK799.1 _) 1).trans rfl, (kC (kA BK799.1 _) 2).trans rfl, (World.cell?_alloc_lt _ _ _ (World.block_lt_of_cell? _ _ (((HB.1.cell (World.block_lt_of_cell? w _ hw800_0)).trans hw800_0)))).trans (((HB.1.cell (World.block_lt_of_cell? w _ hw800_0)).trans hw800_0))⟩ (fun hHeld => ?_)
        clear hK K
        refine norm_ (a' := ?_) ?_ ?_
        rotate_left
        ·show Act.put _ (some 28) _ = _
         simp only [Act.put, List.setIfInBounds_toArray, List.set_cons_zero, List.set_cons_succ, i64_w, i32_w]
         rfl
        refine one_ (i := 10) (N := some 29) #[true, true, true, true, true, true, true, true, true, true, true, false] rfl rfl (one_of HT_.1 (by kernel_rfl)) (by decide) (fun K hK => ?_)
        refine Kd.R_append_step (Kd.int .i64) (w0 := w) w.heap.size (by rfl) (.tmp 19) (.tmp 28) 23 3 (.int .i64 0) 8 rfl Try.underlying23 info3 rfl (by decide) (by omega) u10 x10_1 t801 [.int .i64 t801] (fun _ => True) (fun _ => False) rfl rfl ?aP (fun _ hk => hk.elim) ?aF ?aO ?aB ?aS ?aL ?_
        (case aP => exact rfl)
        (case aB => exact (by repeat (first | (with_reducible first | exact HB.1 ) )))
        (case aF => exact (fun _ _ => trivial))
        (case aO => exact (by (with_reducible repeat (fail)); exact HO_10.1))
        (case aS => exact (bZ (by repeat (first | (with_reducible first | exact HB.1 ) ))))
        (case aL => have := LMc10.1; omega)
        intro v803 w28 ho hb hg hat
        rw [← Ny802.1] at ho
        have n0_ := Sd.mk (Kd.R_over' (by (with_reducible repeat (fail)); exact HO_11.1) (Kd.R_typed (by (with_reducible repeat (fail)); exact HO_10.1)) (by decide) hg)
        have n1_ := Sd.mk (blk_grown (g := gb798) (o := .cells #[.int .i64 a0_0, .int .i64 a0_1, .slice A0_2 l0_2.length c0_2, .slice A0_3 l0_3.length c0_3] 25 (0, 0)) (by (with_reducible repeat (fail)); exact BK798.1) hg (Kd.R_ne HO_10.1 BK798.1 (by decide)))
        have n2_ := Sd.mk (blk_grown (g := gb799) (o := .cells #[.int .i64 a1_0, .int .i64 a1_1, .int .i64 a1_2] 82 (0, 0)) (by (with_reducible repeat (fail)); exact BK799.1) hg (Kd.R_ne HO_10.1 BK799.1 (by decide)))
        have n3_ := Sd.mk (hb)
        have n4_ := Sd.mk (ho)
        clear HO_11
        clear BK798
        clear BK799
        clear HB
        clear HO_10
        have HO_11 := n0_
        have BK798 := n1_
        have BK799 := n2_
        have HB := n3_
        have HO804 := n4_
        clear n0_ n1_ n2_ n3_ n4_
        clear ho hb hg hat
        refine hK.out _ _ ⟨(kC BK798.1 0).trans rfl, (kC BK798.1 1).trans rfl, (kC BK798.1 2).trans rfl, (kC BK798.1 3).trans rfl, (kC BK799.1 0).trans rfl, (kC BK799.1 1).trans rfl, (kC BK799.1 2).trans rfl, ((HB.1.cell (World.block_lt_of_cell? w _ hw800_0)).trans hw800_0)⟩ (fun hHeld => ?_)
        clear hK K
        refine norm_ (a' := ?_) ?_ ?_
        rotate_left
        ·show Act.put _ (some 29) _ = _
         simp only [Act.put, List.setIfInBounds_toArray, List.set_cons_zero, List.set_cons_succ, i64_w, i32_w]
         rfl
        refine pure_ (i := 11) (N := some 10) (v := ?_) (a' := ?_) #[true, true, true, true, true, true, true, true, true, true, true, true] rfl rfl (any_of HT_.1 (by kernel_rfl)) (fun _ _ _ h => h) (Or.inl ⟨by rfl, ?_⟩) ?_ ?_
        rotate_left
        ·intro w'
         go_simp
         with_reducible rfl
        rotate_left
        ·simp only [Act.put, List.setIfInBounds_toArray, List.set_cons_zero, List.set_cons_succ, i64_w, i32_w]
         rfl
        refine done_ (done_of HT_.1 (by kernel_rfl)) ?_
        try go_wp2
        go_roundg k1
        case measure => have := HK1.1; omega
        case rel => exact ⟨(y802), (x11_1), (wrap64 (x12_1 + 1)), (by first | rfl ), H', ⟨by have := HK1.1; omega⟩, ⟨by (with_reducible repeat (fail)); exact HO804.1⟩, ⟨by (with_reducible repeat (fail)); exact HO_11.1⟩, ⟨by (with_reducible repeat (fail)); exact BK798.1⟩, ⟨by (with_reducible repeat (fail)); exact BK799.1⟩, ⟨by repeat (first | (with_reducible first | exact HB.1 ) )⟩⟩
      ·rw [if_neg c12] at H
       exact absurd H (by simp)
     ·rw [if_neg c10] at H
      exact absurd H (by simp)
    ·rw [if_neg c8] at H
     exact absurd H (by simp)
   ·rw [if_neg c7] at H
    have c7b0 : decide (x12_1 < (l2.length : Int)) = false := decide_eq_false c7
    clear c7
    simp only [Option.some.injEq, Prod.mk.injEq] at H
    obtain ⟨rfl, rfl⟩ := H
    go_wp2
    go_ret2
    exact ⟨_, _, by first | rfl , by (with_reducible repeat (fail)); exact HO_10.1, by (with_reducible repeat (fail)); exact HO_11.1, by repeat (first | (with_reducible first | exact HB.1 ) )⟩
def glisterlaw04_has.l0 : Nat → List Int → Int → Int → Option (Bool)
 | 0, _, _, _ => none
 | k + 1, x0, x1, x5 => if x5 < (x0.length : Int) then (if 0 ≤ x5 then (if (rd x0 x5) = x1 then (some true) else (glisterlaw04_has.l0 k x0 x1 (wrap64 (x5 + 1)))) else (none)) else (some false)
def glisterlaw04_has.f (k : Nat) (l0 : List Int) (a1 : Int) : Option (Bool) := glisterlaw04_has.l0 k l0 a1 0
set_option maxHeartbeats 8000000 in
set_option maxRecDepth 100000 in
theorem glisterlaw04_has.calls (k : Nat) (A0 : Option Addr) (c0 : Nat) (l0 : List Int) (a1 : Int) (r : Bool) (w : World) (hr0 : Kd.C (Kd.int .i64) w A0 l0.length l0) (hc0 : l0.length ≤ c0) (h : glisterlaw04_has.f k l0 a1 = some r) :
  Calls Try.prog 46 #[.slice A0 l0.length c0, .int .i64 a1] w fun e w' => e = .returned (.bool r) ∧ Drawn0 w w' := by
 have HR0 := Sd.mk hr0
 have HC0 := Sd.mk hc0
 clear hr0 hc0
 have H : (glisterlaw04_has.l0 k l0 a1 0) = some r := h
 clear h
 have H' := Sd.mk H
 clear H
 go_enter Try.func46, Try.ntmps46
 go_wp2
 go_loopg [5] k (fun kq v5 w' => ∃ (x5_1 : Int), v5 = .int .i64 x5_1 ∧ Sd (glisterlaw04_has.l0 kq l0 a1 x5_1 = some r) ∧ Sd (kq ≤ k) ∧ Drawn0 w w')
 case atStart => exact ⟨(0), (by first | rfl ), H', ⟨Nat.le_refl _⟩, by exact Drawn0.refl _ ⟩
 case round =>
  clear H'
  obtain ⟨x5_1, rfl, HA, HK1, ⟨m1, rfl⟩⟩ := hrel
  cases gk with
  | zero => exact absurd HA.1 (by simp [glisterlaw04_has.l0])
  | succ k1 =>
   have H := HA.1
   clear HA
   simp only [glisterlaw04_has.l0] at H
   by_cases c3 : x5_1 < (l0.length : Int)
   ·rw [if_pos c3] at H
    have c3b0 : decide (x5_1 < (l0.length : Int)) = true := decide_eq_true c3
    clear c3
    by_cases c4 : 0 ≤ x5_1
    ·rw [if_pos c4] at H
     have c4b0 : decide (0 ≤ x5_1) = true := decide_eq_true c4
     clear c4
     by_cases c5 : (rd l0 x5_1) = a1
     ·rw [if_pos c5] at H
      have c5b0 : ((rd l0 x5_1) == a1) = true := beq_iff_eq.mpr c5
      have c5b1 : ((rd l0 x5_1) != a1) = false := bne_eq_false_iff_eq.mpr c5
      clear c5
      obtain rfl := Option.some.inj H
      have p809 : 0 ≤ (x5_1 : Int) := of_decide_eq_true (by first | (with_reducible assumption) )
      have q809 : x5_1 < (l0.length : Int) := of_decide_eq_true (by first | (with_reducible assumption) )
      obtain ⟨ad809, e809, hx809_0⟩ := Kd.at_int HR0.1 x5_1 p809 q809
      cases e809
      replace p809 := eq_true p809
      replace q809 := eq_true q809
      go_wp2
      go_ret
      exact ⟨by first | rfl , by repeat (first | exact Drawn0.refl _ | apply Drawn0.step)⟩
     ·rw [if_neg c5] at H
      have c5b0 : ((rd l0 x5_1) == a1) = false := beq_eq_false_iff_ne.mpr c5
      have c5b1 : ((rd l0 x5_1) != a1) = true := bne_iff_ne.mpr c5
      have H' := Sd.mk H
      clear H
      have p809 : 0 ≤ (x5_1 : Int) := of_decide_eq_true (by first | (with_reducible assumption) )
      have q809 : x5_1 < (l0.length : Int) := of_decide_eq_true (by first | (with_reducible assumption) )
      obtain ⟨ad809, e809, hx809_0⟩ := Kd.at_int HR0.1 x5_1 p809 q809
      cases e809
      replace p809 := eq_true p809
      replace q809 := eq_true q809
      go_wp2
      go_roundg k1
      case measure => have := HK1.1; omega
      case rel => exact ⟨(wrap64 (x5_1 + 1)), (by first | rfl ), H', ⟨by have := HK1.1; omega⟩, by repeat (first | exact Drawn0.refl _ | apply Drawn0.step)⟩
    ·rw [if_neg c4] at H
     exact absurd H (by simp)
   ·rw [if_neg c3] at H
    have c3b0 : decide (x5_1 < (l0.length : Int)) = false := decide_eq_false c3
    clear c3
    obtain rfl := Option.some.inj H
    go_wp2
    go_ret
    exact ⟨by first | rfl , by repeat (first | exact Drawn0.refl _ | apply Drawn0.step)⟩
end Go.Proofs.Ytnidgkmopocdkaa.P
