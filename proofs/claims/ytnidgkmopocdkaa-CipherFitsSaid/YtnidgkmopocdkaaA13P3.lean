import Derived.Test.YtnidgkmopocdkaaA13P0
namespace Go.Proofs.Ytnidgkmopocdkaa.P
open Go.RowKit Go.Proofs.YtnidgkmopocdkaaW.PrintWords Go.Proofs.YtnidgkmopocdkaaW.PrintLast Go.Proofs.YtnidgkmopocdkaaW.PrintMore
attribute [local go_sem] max2_int min2_int max_two min_two max_three min_three max_four min_four   -- for this text's walks alone
set_option linter.unusedVariables false
set_option linter.unusedSimpArgs false
def glisterref04_Same.l0 : Nat → List Int → List Int → Int → Option (Bool)
 | 0, _, _, _ => none
 | k + 1, x0, x1, x5 => if x5 < (x0.length : Int) then (if 0 ≤ x5 then (if x5 < (x1.length : Int) then (if (rd x0 x5) = (rd x1 x5) then (glisterref04_Same.l0 k x0 x1 (wrap64 (x5 + 1))) else (some false)) else (none)) else (none)) else (some true)
def glisterref04_Same.f (k : Nat) (l0 : List Int) (l1 : List Int) : Option (Bool) := if (l0.length : Int) = (l1.length : Int) then (glisterref04_Same.l0 k l0 l1 0) else (some false)
set_option maxHeartbeats 8000000 in
set_option maxRecDepth 100000 in
theorem glisterref04_Same.calls (k : Nat) (A0 : Option Addr) (c0 : Nat) (l0 : List Int) (A1 : Option Addr) (c1 : Nat) (l1 : List Int) (r : Bool) (w : World) (hr0 : Kd.C (Kd.int .i64) w A0 l0.length l0) (hc0 : l0.length ≤ c0) (hr1 : Kd.C (Kd.int .i64) w A1 l1.length l1) (hc1 : l1.length ≤ c1) (h : glisterref04_Same.f k l0 l1 = some r) :
  Calls Try.prog 25 #[.slice A0 l0.length c0, .slice A1 l1.length c1] w fun e w' => e = .returned (.bool r) ∧ Drawn0 w w' := by
 have HR0 := Sd.mk hr0
 have HC0 := Sd.mk hc0
 clear hr0 hc0
 have HR1 := Sd.mk hr1
 have HC1 := Sd.mk hc1
 clear hr1 hc1
 have H : (if (l0.length : Int) = (l1.length : Int) then (glisterref04_Same.l0 k l0 l1 0) else (some false)) = some r := h
 clear h
 by_cases c3 : (l0.length : Int) = (l1.length : Int)
 ·rw [if_pos c3] at H
  have c3b0 : ((l0.length : Int) == (l1.length : Int)) = true := beq_iff_eq.mpr c3
  have c3b1 : ((l0.length : Int) != (l1.length : Int)) = false := bne_eq_false_iff_eq.mpr c3
  have c3b2 : (l0.length == l1.length) = true := by first | (simp at c3 ⊢; omega)
  clear c3
  have H' := Sd.mk H
  clear H
  go_enter Try.func25, Try.ntmps25
  go_wp2
  repeat (go_quiet (fail))
  go_loopg [5] k (fun kq v5 w' => ∃ (x5_1 : Int), v5 = .int .i64 x5_1 ∧ Sd (glisterref04_Same.l0 kq l0 l1 x5_1 = some r) ∧ Sd (kq ≤ k) ∧ Drawn0 w w')
  case atStart => exact ⟨(0), (by first | rfl ), H', ⟨Nat.le_refl _⟩, by exact Drawn0.refl _ ⟩
  case round =>
   clear H'
   clear c3b0 c3b1 c3b2
   obtain ⟨x5_1, rfl, HA, HK1, ⟨m1, rfl⟩⟩ := hrel
   cases gk with
   | zero => exact absurd HA.1 (by simp [glisterref04_Same.l0])
   | succ k1 =>
    have H := HA.1
    clear HA
    simp only [glisterref04_Same.l0] at H
    by_cases c4 : x5_1 < (l0.length : Int)
    ·rw [if_pos c4] at H
     have c4b0 : decide (x5_1 < (l0.length : Int)) = true := decide_eq_true c4
     clear c4
     by_cases c5 : 0 ≤ x5_1
     ·rw [if_pos c5] at H
      have c5b0 : decide (0 ≤ x5_1) = true := decide_eq_true c5
      clear c5
      by_cases c6 : x5_1 < (l1.length : Int)
      ·rw [if_pos c6] at H
       have c6b0 : decide (x5_1 < (l1.length : Int)) = true := decide_eq_true c6
       clear c6
       by_cases c7 : (rd l0 x5_1) = (rd l1 x5_1)
       ·rw [if_pos c7] at H
        have c7b0 : ((rd l0 x5_1) == (rd l1 x5_1)) = true := beq_iff_eq.mpr c7
        have c7b1 : ((rd l0 x5_1) != (rd l1 x5_1)) = false := bne_eq_false_iff_eq.mpr c7
        clear c7
        have H' := Sd.mk H
        clear H
        have p183 : 0 ≤ (x5_1 : Int) := of_decide_eq_true (by first | (with_reducible assumption) )
        have q183 : x5_1 < (l0.length : Int) := of_decide_eq_true (by first | (with_reducible assumption) )
        obtain ⟨ad183, e183, hx183_0⟩ := Kd.at_int HR0.1 x5_1 p183 q183
        cases e183
        replace p183 := eq_true p183
        replace q183 := eq_true q183
        have p184 : 0 ≤ (x5_1 : Int) := of_decide_eq_true (by first | (with_reducible assumption) )
        have q184 : x5_1 < (l1.length : Int) := of_decide_eq_true (by first | (with_reducible assumption) )
        obtain ⟨ad184, e184, hx184_0⟩ := Kd.at_int HR1.1 x5_1 p184 q184
        cases e184
        replace p184 := eq_true p184
        replace q184 := eq_true q184
        go_wp2
        repeat (go_quiet (fail); try go_wp2)
        go_roundg k1
        case measure => have := HK1.1; omega
        case rel => exact ⟨(wrap64 (x5_1 + 1)), (by first | rfl ), H', ⟨by have := HK1.1; omega⟩, by repeat (first | exact Drawn0.refl _ | apply Drawn0.step)⟩
       ·rw [if_neg c7] at H
        have c7b0 : ((rd l0 x5_1) == (rd l1 x5_1)) = false := beq_eq_false_iff_ne.mpr c7
        have c7b1 : ((rd l0 x5_1) != (rd l1 x5_1)) = true := bne_iff_ne.mpr c7
        obtain rfl := Option.some.inj H
        have p183 : 0 ≤ (x5_1 : Int) := of_decide_eq_true (by first | (with_reducible assumption) )
        have q183 : x5_1 < (l0.length : Int) := of_decide_eq_true (by first | (with_reducible assumption) )
        obtain ⟨ad183, e183, hx183_0⟩ := Kd.at_int HR0.1 x5_1 p183 q183
        cases e183
        replace p183 := eq_true p183
        replace q183 := eq_true q183
        have p184 : 0 ≤ (x5_1 : Int) := of_decide_eq_true (by first | (with_reducible assumption) )
        have q184 : x5_1 < (l1.length : Int) := of_decide_eq_true (by first | (with_reducible assumption) )
        obtain ⟨ad184, e184, hx184_0⟩ := Kd.at_int HR1.1 x5_1 p184 q184
        cases e184
        replace p184 := eq_true p184
        replace q184 := eq_true q184
        go_wp2
        repeat (go_quiet (fail); try go_wp2)
        go_ret
        exact ⟨by first | rfl , by repeat (first | exact Drawn0.refl _ | apply Drawn0.step)⟩
      ·rw [if_neg c6] at H
       exact absurd H (by simp)
     ·rw [if_neg c5] at H
      exact absurd H (by simp)
    ·rw [if_neg c4] at H
     have c4b0 : decide (x5_1 < (l0.length : Int)) = false := decide_eq_false c4
     clear c4
     obtain rfl := Option.some.inj H
     go_wp2
     repeat (go_quiet (fail))
     go_ret
     exact ⟨by first | rfl , by repeat (first | exact Drawn0.refl _ | apply Drawn0.step)⟩
 ·rw [if_neg c3] at H
  have c3b0 : ((l0.length : Int) == (l1.length : Int)) = false := beq_eq_false_iff_ne.mpr c3
  have c3b1 : ((l0.length : Int) != (l1.length : Int)) = true := bne_iff_ne.mpr c3
  have c3b2 : (l0.length == l1.length) = false := by first | (simp at c3 ⊢; omega)
  obtain rfl := Option.some.inj H
  go_enter Try.func25, Try.ntmps25
  go_wp2
  repeat (go_quiet (fail))
  go_ret
  exact ⟨by first | rfl , by exact Drawn0.refl _ ⟩
def glisterlaw04_book.f  : Option (Int × Int × (List (S91)) × List Int) := some (13, 10, (([(⟨2, 3, 1⟩ : S91), (⟨5, 0, 0⟩ : S91)] : List (S91))), (([0, 0, 1] : List Int)))
set_option maxHeartbeats 8000000 in
set_option maxRecDepth 100000 in
theorem glisterlaw04_book.calls  (r1 : Int) (r2 : Int) (r3 : List (S91)) (r4 : List Int) (w : World) (h : glisterlaw04_book.f  = some (r1, r2, r3, r4)) :
  Calls Try.prog 47 #[] w fun e w' => ∃ v2_ v3_ : Value, e = .returned (.agg #[.int .i64 r1, .int .i64 r2, v2_, v3_]) ∧ Kd.R k91 91 w' w.heap.size (fun _ => True) v2_ r3 ∧ Kd.R (Kd.int .i64) 3 w' w.heap.size (fun _ => True) v3_ r4 ∧ Below w.heap.size w w' := by
 have hu32 := Try.underlying32
 have hu91 := Try.underlying91
 have HB := Sd.mk (Below.refl w.heap.size w)
 have H : (some (13, 10, (([(⟨2, 3, 1⟩ : S91), (⟨5, 0, 0⟩ : S91)] : List (S91))), (([0, 0, 1] : List Int)))) = some (r1, r2, r3, r4) := h
 clear h
 obtain ⟨y196, hy196⟩ : ∃ y_ : List (S91), y_ = (([(⟨2, 3, 1⟩ : S91), (⟨5, 0, 0⟩ : S91)] : List (S91))) := ⟨_, rfl⟩
 replace H : (some (13, 10, y196, (([0, 0, 1] : List Int)))) = some (r1, r2, r3, r4) := by first | (rw [hy196]; with_reducible exact H) 
 have Ny196 := Sd.mk hy196
 clear hy196
 obtain ⟨y199, hy199⟩ : ∃ y_ : List Int, y_ = (([0, 0, 1] : List Int)) := ⟨_, rfl⟩
 replace H : (some (13, 10, y196, y199)) = some (r1, r2, r3, r4) := by first | (rw [hy199]; with_reducible exact H) 
 have Ny199 := Sd.mk hy199
 clear hy199
 simp only [Option.some.injEq, Prod.mk.injEq] at H
 obtain ⟨rfl, rfl, rfl, rfl⟩ := H
 go_enter Try.func47, Try.ntmps47
 go_wp2_with (first | ((with_reducible refine gD (N := 0) rfl ?_); refine xE ?hg (N := 0) ?hd (cs := #[.int .i64 0, .int .i64 0, .slice none 0 0, .slice none 0 0]) (t := 32) ?hr ?_; (case hd => rfl); (case hg => rfl); (case hr => first | (go_simp; done) ); intro gb195 hg w1 hbox hb; have BK195 := Sd.mk (hbox); have GW195 := Sd.mk ((by rw [hg]; exact (bZ (by repeat (first | (with_reducible first | exact HB.1 ) ))) : w.heap.size ≤ gb195)); have GE195 := Sd.mk ((by rw [hg]; exact (bZ (by repeat (first | (with_reducible first | exact HB.1 ) ))) : w.heap.size ≤ gb195)); replace HB := Sd.mk (bT (by repeat (first | (with_reducible first | exact HB.1 ) )) hb); clear hb hbox hg) | ((with_reducible refine gD (N := 3) rfl ?_); refine Kd.R_lit k91 _ 91 ?hg (N := 3) ?hd (xs := ([(⟨2, 3, 1⟩ : S91), (⟨5, 0, 0⟩ : S91)] : List (S91))) (inner := [.int .i64 2, .int .i64 3, .int .i64 1, .int .i64 5, .int .i64 0, .int .i64 0]) (ok := fun _ => True) (okp := fun _ => True) ?hr ?hp (fun _ hk => hk) trivial (Below.refl _ _) (Nat.le_refl _) (by simp) ?_; (case hd => rfl); (case hg => rfl); (case hr => first | (go_simp; done) ); (case hp => exact (Reps.c3 (show Kd.M k91 _ _ _ (⟨2, 3, 1⟩ : S91) [.int .i64 2, .int .i64 3, .int .i64 1] from (k91_mkM _ _ _ (⟨2, 3, 1⟩ : S91) )) (Reps.c3 (show Kd.M k91 _ _ _ (⟨5, 0, 0⟩ : S91) [.int .i64 5, .int .i64 0, .int .i64 0] from (k91_mkM _ _ _ (⟨5, 0, 0⟩ : S91) )) (Reps.none _ _)))); intro v197 w2 ho3 hb hg_ hnew_; clear hg_ hnew_; (rw [← Ny196.1] at ho3 ); have HO198 := Sd.mk (Kd.R_lower ho3 (bZ (by repeat (first | (with_reducible first | exact HB.1 ) )))); replace BK195 := Sd.mk (kB (g := gb195) (o := .cells #[.int .i64 0, .int .i64 0, .slice none 0 0, .slice none 0 0] 32 (0, 0)) (by (with_reducible repeat (fail)); exact BK195.1) hb); replace HB := Sd.mk (bT (by repeat (first | (with_reducible first | exact HB.1 ) )) hb); clear hb ho3) | ((with_reducible refine gD (N := 4) rfl ?_); refine Kd.R_lit (Kd.int .i64) _ 3 ?hg (N := 4) ?hd (xs := ([0, 0, 1] : List Int)) (inner := [.int .i64 0, .int .i64 0, .int .i64 1]) (ok := fun _ => True) (okp := fun _ => True) ?hr ?hp (fun _ hk => hk) trivial (Below.refl _ _) (Nat.le_refl _) (by simp) ?_; (case hd => rfl); (case hg => rfl); (case hr => first | (go_simp; done) ); (case hp => exact (Reps.one (show Kd.M (Kd.int .i64) _ _ _ 0 [.int .i64 0] from rfl) (Reps.one (show Kd.M (Kd.int .i64) _ _ _ 0 [.int .i64 0] from rfl) (Reps.one (show Kd.M (Kd.int .i64) _ _ _ 1 [.int .i64 1] from rfl) (Reps.none _ _))))); intro v200 w4 ho5 hb hg_ hnew_; clear hg_ hnew_; (rw [← Ny199.1] at ho5 ); replace HO198 := Sd.mk (Kd.R_below (by (with_reducible repeat (fail)); exact HO198.1) hb); have HO201 := Sd.mk (Kd.R_lower ho5 (bZ (by repeat (first | (with_reducible first | exact HB.1 ) )))); replace BK195 := Sd.mk (kB (g := gb195) (o := .cells #[.int .i64 0, .int .i64 0, .slice none 0 0, .slice none 0 0] 32 (0, 0)) (by (with_reducible repeat (fail)); exact BK195.1) hb); replace HB := Sd.mk (bT (by repeat (first | (with_reducible first | exact HB.1 ) )) hb); clear hb ho5; obtain ⟨Ao6, co6, eo6⟩ := Kd.R_slice HO201.1; subst eo6; obtain ⟨Ao7, co7, eo7⟩ := Kd.R_slice HO198.1; subst eo7; have z_8_0 : w4.cell? ⟨gb195, 0, none⟩ = some (.int .i64 0) := (kC BK195.1 0).trans rfl; have z_8_1 : w4.cell? ⟨gb195, 1, none⟩ = some (.int .i64 0) := (kC BK195.1 1).trans rfl; have z_8_2 : w4.cell? ⟨gb195, 2, none⟩ = some (.slice none 0 0) := (kC BK195.1 2).trans rfl; have z_8_3 : w4.cell? ⟨gb195, 3, none⟩ = some (.slice none 0 0) := (kC BK195.1 3).trans rfl; have hfz8_0 := kF BK195.1 0; have hfz8_1 := kF BK195.1 1; have hfz8_2 := kF BK195.1 2; have hfz8_3 := kF BK195.1 3))
 refine bodyPost_ret (results_cell_row rfl _ _ gb195 32 #[.int .i64 13, .int .i64 10, .slice Ao7 y196.length co7, .slice Ao6 y199.length co6] (0, 0) _ rfl (by (with_reducible repeat (fail)); refine blk_put (cs := #[.int .i64 13, .int .i64 10, .slice Ao7 y196.length co7, .slice none 0 0]) ?_ 3 _ rfl; (with_reducible repeat (fail)); refine blk_put (cs := #[.int .i64 13, .int .i64 10, .slice none 0 0, .slice none 0 0]) ?_ 2 _ rfl; (with_reducible repeat (fail)); refine blk_put (cs := #[.int .i64 13, .int .i64 0, .slice none 0 0, .slice none 0 0]) ?_ 1 _ rfl; (with_reducible repeat (fail)); refine blk_put (cs := #[.int .i64 0, .int .i64 0, .slice none 0 0, .slice none 0 0]) ?_ 0 _ rfl; (with_reducible repeat (fail)); exact BK195.1) Try.underlying32 rfl (by kernel_rfl)) rfl ?_
 exact ⟨_, _, by first | rfl , by (with_reducible repeat (fail)); exact Kd.R_mono (Kd.R_far (p := ⟨gb195, 3, none⟩) (Kd.R_far (p := ⟨gb195, 2, none⟩) (Kd.R_far (p := ⟨gb195, 1, none⟩) (Kd.R_far (p := ⟨gb195, 0, none⟩) (Kd.R_types HO198.1 BK195.1 (by decide)) (fun _ hk => hk.2) (.int .i64 13)) (fun _ hk => hk.2) (.int .i64 10)) (fun _ hk => hk.2) (.slice Ao7 y196.length co7)) (fun _ hk => hk.2) (.slice Ao6 y199.length co6)) (fun _ hk => trivial), by (with_reducible repeat (fail)); exact Kd.R_mono (Kd.R_far (p := ⟨gb195, 3, none⟩) (Kd.R_far (p := ⟨gb195, 2, none⟩) (Kd.R_far (p := ⟨gb195, 1, none⟩) (Kd.R_far (p := ⟨gb195, 0, none⟩) (Kd.R_types HO201.1 BK195.1 (by decide)) (fun _ hk => hk.2) (.int .i64 13)) (fun _ hk => hk.2) (.int .i64 10)) (fun _ hk => hk.2) (.slice Ao7 y196.length co7)) (fun _ hk => hk.2) (.slice Ao6 y199.length co6)) (fun _ hk => trivial), by repeat (first | (with_reducible first | exact HB.1 | refine bS ?_ GE195.1) )⟩
def glisterlaw04_early.f  : Option ((List (S110))) := some (([(⟨0, 1⟩ : S110)] : List (S110)))
set_option maxHeartbeats 8000000 in
set_option maxRecDepth 100000 in
theorem glisterlaw04_early.calls  (r : List (S110)) (w : World) (h : glisterlaw04_early.f  = some r) :
  Calls Try.prog 48 #[] w fun e w' => ∃ v0_ : Value, e = .returned (v0_) ∧ Kd.R k110 110 w' w.heap.size (fun _ => True) v0_ r ∧ Below w.heap.size w w' := by
 have hu110 := Try.underlying110
 have HB := Sd.mk (Below.refl w.heap.size w)
 have H : (some (([(⟨0, 1⟩ : S110)] : List (S110)))) = some r := h
 clear h
 obtain ⟨y202, hy202⟩ : ∃ y_ : List (S110), y_ = (([(⟨0, 1⟩ : S110)] : List (S110))) := ⟨_, rfl⟩
 replace H : (some y202) = some r := by first | (rw [hy202]; with_reducible exact H) 
 have Ny202 := Sd.mk hy202
 clear hy202
 obtain rfl := Option.some.inj H
 go_enter Try.func48, Try.ntmps48
 go_wp2_with (first | ((with_reducible refine gD (N := 2) rfl ?_); refine Kd.R_lit k110 _ 110 ?hg (N := 2) ?hd (xs := ([(⟨0, 1⟩ : S110)] : List (S110))) (inner := [.int .i64 0, .int .i64 1]) (ok := fun _ => True) (okp := fun _ => True) ?hr ?hp (fun _ hk => hk) trivial (Below.refl _ _) (Nat.le_refl _) (by simp) ?_; (case hd => rfl); (case hg => rfl); (case hr => first | (go_simp; done) ); (case hp => exact (Reps.c2 (show Kd.M k110 _ _ _ (⟨0, 1⟩ : S110) [.int .i64 0, .int .i64 1] from (k110_mkM _ _ _ (⟨0, 1⟩ : S110) )) (Reps.none _ _))); intro v203 w1 ho2 hb hg_ hnew_; clear hg_ hnew_; (rw [← Ny202.1] at ho2 ); have HO204 := Sd.mk (Kd.R_lower ho2 (bZ (by repeat (first | (with_reducible first | exact HB.1 ) )))); replace HB := Sd.mk (bT (by repeat (first | (with_reducible first | exact HB.1 ) )) hb); clear hb ho2))
 go_ret
 exact ⟨_, by first | rfl , by (with_reducible repeat (fail)); exact HO204.1, by repeat (first | (with_reducible first | exact HB.1 ) )⟩
def glisterlaw04_list.f (l0 : List Int) : Option (List Int) := (some (([] : List Int) : List Int)).bind fun y205 => (if y205.length + l0.length < 17592186044416 then (some (y205 ++ l0)) else (none))
set_option maxHeartbeats 8000000 in
set_option maxRecDepth 100000 in
theorem glisterlaw04_list.calls (A0 : Option Addr) (c0 : Nat) (l0 : List Int) (r : List Int) (w : World) (hr0 : Kd.C (Kd.int .i64) w A0 l0.length l0) (hc0 : l0.length ≤ c0) (h : glisterlaw04_list.f l0 = some r) :
  Calls Try.prog 21 #[.slice A0 l0.length c0] w fun e w' => ∃ v0_ : Value, e = .returned (v0_) ∧ Kd.R (Kd.int .i64) 3 w' w.heap.size (fun _ => True) v0_ r ∧ Below w.heap.size w w' := by
 have HR0 := Sd.mk hr0
 have HC0 := Sd.mk hc0
 clear hr0 hc0
 have HB := Sd.mk (Below.refl w.heap.size w)
 have H : ((some (([] : List Int) : List Int)).bind fun y205 => (if y205.length + l0.length < 17592186044416 then (some (y205 ++ l0)) else (none))) = some r := h
 clear h
 obtain ⟨y205, hy205⟩ : ∃ y_ : List Int, y_ = (([] : List Int)) := ⟨_, rfl⟩
 replace H : (if y205.length + l0.length < 17592186044416 then (some (y205 ++ l0)) else (none)) = some r := by first | (have H2_ := (Option.bind_some _ _).symm.trans H; rw [hy205]; with_reducible exact H2_) 
 have Ny205 := Sd.mk hy205
 clear hy205
 by_cases c2 : y205.length + l0.length < 17592186044416
 ·rw [if_pos c2] at H
  have LMc2 := Sd.mk c2
  clear c2
  obtain ⟨y208, hy208⟩ : ∃ y_ : List Int, y_ = (y205 ++ l0) := ⟨_, rfl⟩
  replace H : (some y208) = some r := by first | (rw [hy208]; with_reducible exact H) 
  have Ny208 := Sd.mk hy208
  clear hy208
  obtain rfl := Option.some.inj H
  go_enter Try.func21, Try.ntmps21
  go_wp2_with (first | ((with_reducible refine gD (N := 3) rfl ?_); refine Kd.R_lit (Kd.int .i64) _ 3 ?hg (N := 3) ?hd (xs := ([] : List Int)) (inner := []) (ok := fun _ => True) (okp := fun _ => True) ?hr ?hp (fun _ hk => hk) trivial (Below.refl _ _) (Nat.le_refl _) (by simp) ?_; (case hd => rfl); (case hg => rfl); (case hr => first | (go_simp; done) ); (case hp => exact (Reps.none _ _)); intro v206 w3 ho4 hb hg_ hnew_; clear hg_ hnew_; (rw [← Ny205.1] at ho4 ); have HO207 := Sd.mk (Kd.R_lower ho4 (bZ (by repeat (first | (with_reducible first | exact HB.1 ) )))); replace HB := Sd.mk (bT (by repeat (first | (with_reducible first | exact HB.1 ) )) hb); clear hb ho4) | ((with_reducible refine gate_builtin (b := .append) (xs := #[.tmp 3, .tmp 4]) rfl ?_); at_builtin; refine Kd.R_append_rows (Kd.int .i64) (w0 := w) w.heap.size rfl (.tmp 3) (.tmp 4) 23 3 (.int .i64 0) 8 rfl Try.underlying23 info3 rfl (by decide) (by omega) v206 y205 l0 _ _ _ (fun _ => True) (fun _ => False) rfl rfl ?aO ?aR (fun _ _ h => h) (fun _ h => h.elim) ?aF ?aB ?aS ?aL ?_; (case aR => repeat (first | exact (Kd.C_below HR0.1 HB.1) )); (case aB => exact (by repeat (first | (with_reducible first | exact HB.1 ) ))); (case aF => exact (fun _ _ => trivial)); (case aO => exact (by (with_reducible repeat (fail)); exact HO207.1)); (case aS => exact (bZ (by repeat (first | (with_reducible first | exact HB.1 ) )))); (case aL => have := LMc2.1; omega); intro v209 w5 ho hb hg hat; rw [← Ny208.1] at ho; replace HB := Sd.mk (hb); have HO210 := Sd.mk (ho); clear HO207; clear ho hb hg hat))
  go_ret
  exact ⟨_, by first | rfl , by (with_reducible repeat (fail)); exact HO210.1, by repeat (first | (with_reducible first | exact HB.1 ) )⟩
 ·rw [if_neg c2] at H
  exact absurd H (by simp)
def glisterlaw04_Key.f (a0_0 : Int) (a0_1 : Int) (a0_2 : Int) : Option (Int × Int × Int) := some (a0_0, a0_1, a0_2)
set_option maxHeartbeats 8000000 in
set_option maxRecDepth 100000 in
theorem glisterlaw04_Key.calls (a0_0 : Int) (a0_1 : Int) (a0_2 : Int) (r1 : Int) (r2 : Int) (r3 : Int) (w : World) (h : glisterlaw04_Key.f a0_0 a0_1 a0_2 = some (r1, r2, r3)) :
  Calls Try.prog 55 #[.agg #[.int .i64 a0_0, .int .i64 a0_1, .int .i64 a0_2]] w fun e w' => e = .returned (.agg #[.int .i64 r1, .int .i64 r2, .int .i64 r3]) ∧ Below w.heap.size w w' := by
 have hu82 := Try.underlying82
 have hu91 := Try.underlying91
 have HB := Sd.mk (Below.refl w.heap.size w)
 have H : (some (a0_0, a0_1, a0_2)) = some (r1, r2, r3) := h
 clear h
 simp only [Option.some.injEq, Prod.mk.injEq] at H
 obtain ⟨rfl, rfl, rfl⟩ := H
 go_enter Try.func55, Try.ntmps55
 go_wp2_with (first | ((with_reducible refine gD (N := 1) rfl ?_); refine xE ?hg (N := 1) ?hd (cs := #[.int .i64 a0_0, .int .i64 a0_1, .int .i64 a0_2]) (t := 82) ?hr ?_; (case hd => rfl); (case hg => rfl); (case hr => first | (go_simp; done) ); intro gb211 hg w2 hbox hb; have BK211 := Sd.mk (hbox); have GW211 := Sd.mk ((by rw [hg]; exact (bZ (by repeat (first | (with_reducible first | exact HB.1 ) ))) : w.heap.size ≤ gb211)); have GE211 := Sd.mk ((by rw [hg]; exact (bZ (by repeat (first | (with_reducible first | exact HB.1 ) ))) : w.heap.size ≤ gb211)); replace HB := Sd.mk (bT (by repeat (first | (with_reducible first | exact HB.1 ) )) hb); clear hb hbox hg) | ((with_reducible refine gD (N := 2) rfl ?_); refine xE ?hg (N := 2) ?hd (cs := #[.int .i64 0, .int .i64 0, .int .i64 0]) (t := 91) ?hr ?_; (case hd => rfl); (case hg => rfl); (case hr => first | (go_simp; done) ); intro gb212 hg w3 hbox hb; have BK212 := Sd.mk (hbox); have GW212 := Sd.mk ((by rw [hg]; exact (bZ (by repeat (first | (with_reducible first | exact HB.1 ) ))) : w.heap.size ≤ gb212)); have GE212 := Sd.mk ((by rw [hg]; exact (bZ (by repeat (first | (with_reducible first | exact HB.1 ) ))) : w.heap.size ≤ gb212)); replace HB := Sd.mk (bT (by repeat (first | (with_reducible first | exact HB.1 ) )) hb); have NB211_212 := Sd.mk ((by rw [hg]; exact Nat.ne_of_lt (blk_lt (g := gb211) (o := .cells #[.int .i64 a0_0, .int .i64 a0_1, .int .i64 a0_2] 82 (0, 0)) (by (with_reducible repeat (fail)); exact BK211.1)) : gb211 ≠ gb212)); have NB212_211 := Sd.mk ((by rw [hg]; exact Nat.ne_of_gt (blk_lt (g := gb211) (o := .cells #[.int .i64 a0_0, .int .i64 a0_1, .int .i64 a0_2] 82 (0, 0)) (by (with_reducible repeat (fail)); exact BK211.1)) : gb212 ≠ gb211)); replace BK211 := Sd.mk (kB (g := gb211) (o := .cells #[.int .i64 a0_0, .int .i64 a0_1, .int .i64 a0_2] 82 (0, 0)) (by (with_reducible repeat (fail)); exact BK211.1) hb); clear hb hbox hg; have hnb4 := NB211_212.1; have hnc4 := NB212_211.1; have z_5_0 : w3.cell? ⟨gb211, 0, none⟩ = some (.int .i64 a0_0) := (kC BK211.1 0).trans rfl; have z_5_1 : w3.cell? ⟨gb211, 1, none⟩ = some (.int .i64 a0_1) := (kC BK211.1 1).trans rfl; have z_5_2 : w3.cell? ⟨gb211, 2, none⟩ = some (.int .i64 a0_2) := (kC BK211.1 2).trans rfl; have z_6_0 : w3.cell? ⟨gb212, 0, none⟩ = some (.int .i64 0) := (kC BK212.1 0).trans rfl; have z_6_1 : w3.cell? ⟨gb212, 1, none⟩ = some (.int .i64 0) := (kC BK212.1 1).trans rfl; have z_6_2 : w3.cell? ⟨gb212, 2, none⟩ = some (.int .i64 0) := (kC BK212.1 2).trans rfl; have hfz6_0 := kF BK212.1 0; have hfz6_1 := kF BK212.1 1; have hfz6_2 := kF BK212.1 2))
 refine bodyPost_ret (results_cell_row rfl _ _ gb212 91 #[.int .i64 a0_0, .int .i64 a0_1, .int .i64 a0_2] (0, 0) _ rfl (by (with_reducible repeat (fail)); refine blk_put (cs := #[.int .i64 a0_0, .int .i64 a0_1, .int .i64 0]) ?_ 2 _ rfl; (with_reducible repeat (fail)); refine blk_put (cs := #[.int .i64 a0_0, .int .i64 0, .int .i64 0]) ?_ 1 _ rfl; (with_reducible repeat (fail)); refine blk_put (cs := #[.int .i64 0, .int .i64 0, .int .i64 0]) ?_ 0 _ rfl; (with_reducible repeat (fail)); exact BK212.1) Try.underlying91 rfl (by kernel_rfl)) rfl ?_
 exact ⟨by first | rfl , by repeat (first | (with_reducible first | exact HB.1 | refine bS ?_ GE212.1) )⟩
end Go.Proofs.Ytnidgkmopocdkaa.P
