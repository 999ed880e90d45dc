import Derived.Test.YtnidgkmopocdkaaA13P0
import Derived.Test.YtnidgkmopocdkaaA13P3
namespace Go.Proofs.Ytnidgkmopocdkaa.P
open Go.RowKit Go.Proofs.YtnidgkmopocdkaaW.PrintWords Go.Proofs.YtnidgkmopocdkaaW.PrintLast Go.Proofs.YtnidgkmopocdkaaW.PrintMore
attribute [local go_sem] max2_int min2_int max_two min_two max_three min_three max_four min_four   -- for this text's walks alone
set_option linter.unusedVariables false
set_option linter.unusedSimpArgs false
def glisterlaw04_Book.l0 : Nat → Int → Int → Int → List (S82) → List Int → Int → Int → List (S91) → List Int → Option (Int × Int × (List (S91)) × List Int)
 | 0, _, _, _, _, _, _, _, _, _ => none
 | k + 1, x4, x214000, x214001, x214002, x214003, x219000, x219001, x219002, x219003 => if x4 < (x214002.length : Int) then (if 0 ≤ x4 then ((glisterlaw04_Key.f ((rd_T82 x214002 x4).f0) ((rd_T82 x214002 x4).f1) ((rd_T82 x214002 x4).f2)).bind fun bt220 => (if x219002.length < 5864062014805 then (glisterlaw04_Book.l0 k (wrap64 (x4 + 1)) x214000 x214001 x214002 x214003 x219000 x219001 (x219002 ++ [(⟨bt220.1, bt220.2.1, bt220.2.2⟩ : S91)]) x219003) else (none))) else (none)) else (some (x219000, x219001, x219002, x219003))
def glisterlaw04_Book.f (k : Nat) (a0_0 : Int) (a0_1 : Int) (l0_2 : List (S82)) (l0_3 : List Int) : Option (Int × Int × (List (S91)) × List Int) := (glisterlaw04_list.f l0_3).bind fun t215 => (glisterlaw04_Book.l0 k 0 a0_0 a0_1 l0_2 l0_3 a0_0 a0_1 ([] : List (S91)) t215)
def glisterlaw04_Book.T1 : Bool × List (List Nat × List Nat) := (true, [([], []), ([0], [0]), ([], []), ([2], [2]), ([], []), ([4], [4]), ([5], [5]), ([1, 3, 6], [1, 3, 6]), ([], []), ([8, 7, 6, 0, 1, 2, 3, 4, 5, 6, 7, 8], [7, 8])])
def glisterlaw04_Book.B1 : List Nat := [0, 1, 0, 4, 0, 16, 48, 127, 0, 511]
theorem glisterlaw04_Book.tab1 : rtab .any (opsOf Try.f19 1) = glisterlaw04_Book.T1 := by kernel_rfl
theorem glisterlaw04_Book.bits1 : waitsOk glisterlaw04_Book.T1.2 glisterlaw04_Book.B1 = true := by kernel_rfl
def glisterlaw04_Book.T5 : Bool × List (List Nat × List Nat) := (true, [([], []), ([0], [0]), ([], []), ([2], [2]), ([], []), ([3, 4], [3, 4]), ([5], [5]), ([6], [6]), ([7], [7]), ([1, 8, 7], [1, 8]), ([0, 1, 2, 3, 4, 5, 6, 7, 8, 9], []), ([10, 9, 9, 0, 1, 2, 3, 4, 5, 6, 7, 8, 9], [9, 10])])
def glisterlaw04_Book.B5 : List Nat := [0, 1, 0, 4, 0, 28, 60, 124, 252, 511, 1023, 2047]
theorem glisterlaw04_Book.tab5 : rtab .any (opsOf Try.f19 5) = glisterlaw04_Book.T5 := by kernel_rfl
theorem glisterlaw04_Book.bits5 : waitsOk glisterlaw04_Book.T5.2 glisterlaw04_Book.B5 = true := by kernel_rfl
set_option maxHeartbeats 8000000 in
set_option maxRecDepth 100000 in
theorem glisterlaw04_Book.calls (k : Nat) (a0_0 : Int) (a0_1 : Int) (A0_2 : Option Addr) (c0_2 : Nat) (l0_2 : List (S82)) (A0_3 : Option Addr) (c0_3 : Nat) (l0_3 : List Int) (r1 : Int) (r2 : Int) (r3 : List (S91)) (r4 : List Int) (w : World) (hr0_2 : Kd.C k82 w A0_2 l0_2.length l0_2) (hc0_2 : l0_2.length ≤ c0_2) (hr0_3 : Kd.C (Kd.int .i64) w A0_3 l0_3.length l0_3) (hc0_3 : l0_3.length ≤ c0_3) (h : glisterlaw04_Book.f k a0_0 a0_1 l0_2 l0_3 = some (r1, r2, r3, r4)) :
  Calls Try.prog 19 #[.agg #[.int .i64 a0_0, .int .i64 a0_1, .slice A0_2 l0_2.length c0_2, .slice A0_3 l0_3.length c0_3]] w fun e w' => ∃ v2_ v3_ : Value, e = .returned (.agg #[.int .i64 r1, .int .i64 r2, v2_, v3_]) ∧ Kd.R k91 91 w' w.heap.size (fun _ => True) v2_ r3 ∧ Kd.R (Kd.int .i64) 3 w' w.heap.size (fun _ => True) v3_ r4 ∧ Below w.heap.size w w' := by
 have hu25 := Try.underlying25
 have hu32 := Try.underlying32
 have hu82 := Try.underlying82
 have HR0_2 := Sd.mk hr0_2
 have HC0_2 := Sd.mk hc0_2
 clear hr0_2 hc0_2
 have HR0_3 := Sd.mk hr0_3
 have HC0_3 := Sd.mk hc0_3
 clear hr0_3 hc0_3
 have HB := Sd.mk (Below.refl w.heap.size w)
 have H : ((glisterlaw04_list.f l0_3).bind fun t215 => (glisterlaw04_Book.l0 k 0 a0_0 a0_1 l0_2 l0_3 a0_0 a0_1 ([] : List (S91)) t215)) = some (r1, r2, r3, r4) := h
 clear h
 obtain ⟨t215, A20, H⟩ := Option.bind_eq_some_iff.mp H
 have A2 := Sd.mk A20
 clear A20
 have H' := Sd.mk H
 clear H
 go_enter Try.func19, Try.ntmps19
 try go_wp2_with (first | ((with_reducible refine gD (N := 1) rfl ?_); refine xE ?hg (N := 1) ?hd (cs := #[.int .i64 a0_0, .int .i64 a0_1, .slice A0_2 l0_2.length c0_2, .slice A0_3 l0_3.length c0_3]) (t := 25) ?hr ?_; (case hd => rfl); (case hg => rfl); (case hr => first | (go_simp; done) ); intro gb213 hg w3 hbox hb; have BK213 := Sd.mk (hbox); have GW213 := Sd.mk ((by rw [hg]; exact (bZ (by repeat (first | (with_reducible first | exact HB.1 ) ))) : w.heap.size ≤ gb213)); have GE213 := Sd.mk ((by rw [hg]; exact (bZ (by repeat (first | (with_reducible first | exact HB.1 ) ))) : w.heap.size ≤ gb213)); replace HB := Sd.mk (bT (by repeat (first | (with_reducible first | exact HB.1 ) )) hb); clear hb hbox hg) | ((with_reducible refine gD (N := 2) rfl ?_); refine xE ?hg (N := 2) ?hd (cs := #[.int .i64 0, .int .i64 0, .slice none 0 0, .slice none 0 0]) (t := 32) ?hr ?_; (case hd => rfl); (case hg => rfl); (case hr => first | (go_simp; done) ); intro gb214 hg w4 hbox hb; have BK214 := Sd.mk (hbox); have GW214 := Sd.mk ((by rw [hg]; exact (bZ (by repeat (first | (with_reducible first | exact HB.1 ) ))) : w.heap.size ≤ gb214)); have GE214 := Sd.mk ((by rw [hg]; exact (bZ (by repeat (first | (with_reducible first | exact HB.1 ) ))) : w.heap.size ≤ gb214)); replace HB := Sd.mk (bT (by repeat (first | (with_reducible first | exact HB.1 ) )) hb); have NB213_214 := Sd.mk ((by rw [hg]; exact Nat.ne_of_lt (blk_lt (g := gb213) (o := .cells #[.int .i64 a0_0, .int .i64 a0_1, .slice A0_2 l0_2.length c0_2, .slice A0_3 l0_3.length c0_3] 25 (0, 0)) (by (with_reducible repeat (fail)); exact BK213.1)) : gb213 ≠ gb214)); have NB214_213 := Sd.mk ((by rw [hg]; exact Nat.ne_of_gt (blk_lt (g := gb213) (o := .cells #[.int .i64 a0_0, .int .i64 a0_1, .slice A0_2 l0_2.length c0_2, .slice A0_3 l0_3.length c0_3] 25 (0, 0)) (by (with_reducible repeat (fail)); exact BK213.1)) : gb214 ≠ gb213)); replace BK213 := Sd.mk (kB (g := gb213) (o := .cells #[.int .i64 a0_0, .int .i64 a0_1, .slice A0_2 l0_2.length c0_2, .slice A0_3 l0_3.length c0_3] 25 (0, 0)) (by (with_reducible repeat (fail)); exact BK213.1) hb); clear hb hbox hg))
 have n0_ := Sd.mk (kD BK213.1)
 have n1_ := Sd.mk (kD BK214.1)
 have n2_ := Sd.mk (bD HB.1)
 clear BK213
 clear BK214
 clear HB
 have BK213 := n0_
 have BK214 := n1_
 have HB := n2_
 clear n0_ n1_ n2_
 refine start_ (n := 10) (S := fun w' => w'.cell? ⟨gb213, 0, none⟩ = some (.int .i64 a0_0) ∧ w'.cell? ⟨gb213, 1, none⟩ = some (.int .i64 a0_1) ∧ w'.cell? ⟨gb213, 2, none⟩ = some (.slice A0_2 l0_2.length c0_2) ∧ w'.cell? ⟨gb213, 3, none⟩ = some (.slice A0_3 l0_3.length c0_3)) (ds := []) #[false, false, false, false, false, false, false, false, false, false] (by kernel_rfl) rfl rfl ⟨(kC BK213.1 0).trans rfl, (kC BK213.1 1).trans rfl, (kC BK213.1 2).trans rfl, (kC BK213.1 3).trans rfl⟩ (fun hHeld => ?_); refine with_tabW glisterlaw04_Book.tab1 glisterlaw04_Book.bits1 (fun HT_ HW_ => ?_)
 generalize w4.drew = w5 at BK213 BK214 HB hHeld ⊢
 refine pure_ (i := 0) (N := some 5) (v := ?_) (a' := ?_) #[true, false, false, false, false, false, false, false, false, false] rfl rfl (any_of HT_.1 (by kernel_rfl)) (fun _ _ _ h => h) (Or.inl ⟨by rfl, ?_⟩) ?_ ?_
 rotate_left
 ·intro w'
  go_simp
  with_reducible rfl
 rotate_left
 ·simp only [Act.put, List.setIfInBounds_toArray, List.set_cons_zero, List.set_cons_succ, i64_w, i32_w]
  rfl
 refine pure_ (i := 2) (N := some 7) (v := ?_) (a' := ?_) #[true, false, true, false, false, false, false, false, false, false] rfl rfl (any_of HT_.1 (by kernel_rfl)) (fun _ _ _ h => h) (Or.inl ⟨by rfl, ?_⟩) ?_ ?_
 rotate_left
 ·intro w'
  go_simp
  with_reducible rfl
 rotate_left
 ·simp only [Act.put, List.setIfInBounds_toArray, List.set_cons_zero, List.set_cons_succ, i64_w, i32_w]
  rfl
 refine pure_ (i := 4) (N := some 9) (v := ?_) (a' := ?_) #[true, false, true, false, true, false, false, false, false, false] rfl rfl (any_of HT_.1 (by kernel_rfl)) (fun _ _ _ h => h) (Or.inl ⟨by rfl, ?_⟩) ?_ ?_
 rotate_left
 ·intro w'
  go_simp
  with_reducible rfl
 rotate_left
 ·simp only [Act.put, List.setIfInBounds_toArray, List.set_cons_zero, List.set_cons_succ, i64_w, i32_w]
  rfl
 refine take_ (i := 1) (N := some 6) (v := ?_) (a' := ?_) #[true, true, true, false, true, false, false, false, false, false] rfl rfl (take_ofW HT_.1 HW_.1 (by kernel_rfl)) (fun _ _ _ h => h) (Or.inl ⟨by rfl, ?_⟩) hHeld ?_ ?_
 rotate_left
 ·rintro w' ⟨s0, s1, s2, s3⟩
  go_simp
  with_reducible rfl
 rotate_left
 ·simp only [Act.put, List.setIfInBounds_toArray, List.set_cons_zero, List.set_cons_succ, i64_w, i32_w]
  rfl
 refine take_ (i := 3) (N := some 8) (v := ?_) (a' := ?_) #[true, true, true, true, true, false, false, false, false, false] rfl rfl (take_ofW HT_.1 HW_.1 (by kernel_rfl)) (fun _ _ _ h => h) (Or.inl ⟨by rfl, ?_⟩) hHeld ?_ ?_
 rotate_left
 ·rintro w' ⟨s0, s1, s2, s3⟩
  go_simp
  with_reducible rfl
 rotate_left
 ·simp only [Act.put, List.setIfInBounds_toArray, List.set_cons_zero, List.set_cons_succ, i64_w, i32_w]
  rfl
 refine take_ (i := 5) (N := some 10) (v := ?_) (a' := ?_) #[true, true, true, true, true, true, false, false, false, false] rfl rfl (take_ofW HT_.1 HW_.1 (by kernel_rfl)) (fun _ _ _ h => h) (Or.inl ⟨by rfl, ?_⟩) hHeld ?_ ?_
 rotate_left
 ·rintro w' ⟨s0, s1, s2, s3⟩
  go_simp
  with_reducible rfl
 rotate_left
 ·simp only [Act.put, List.setIfInBounds_toArray, List.set_cons_zero, List.set_cons_succ, i64_w, i32_w]
  rfl
 refine join_ (σ := Value × Nat) 1 #[true, true, true, true, true, true, true, true, true, false] (fun s_ => [(11, s_.1), (3, .pointer (some ⟨s_.2, 0, none⟩)), (12, .agg #[.int .i64 a0_0, .int .i64 a0_1, .slice none 0 0, s_.1])]) (fun s_ w' => (w'.cell? ⟨gb213, 0, none⟩ = some (.int .i64 a0_0) ∧ w'.cell? ⟨gb213, 1, none⟩ = some (.int .i64 a0_1) ∧ w'.cell? ⟨gb213, 2, none⟩ = some (.slice A0_2 l0_2.length c0_2) ∧ w'.cell? ⟨gb213, 3, none⟩ = some (.slice A0_3 l0_3.length c0_3)) ∧ (Kd.R (Kd.int .i64) 3 w' w.heap.size (fun _ => True) s_.1 t215) ∧ (w'.heap[gb213]? = some (.cells #[.int .i64 a0_0, .int .i64 a0_1, .slice A0_2 l0_2.length c0_2, .slice A0_3 l0_3.length c0_3] 25 (0, 0))) ∧ (w'.heap[gb214]? = some (.cells #[.int .i64 0, .int .i64 0, .slice none 0 0, .slice none 0 0] 32 (0, 0))) ∧ (w'.heap[s_.2]? = some (.cells #[.int .i64 0, .int .i64 0, .slice none 0 0, .slice none 0 0] 32 (0, 0))) ∧ (w.heap.size ≤ s_.2) ∧ (w.heap.size ≤ s_.2) ∧ (gb213 ≠ s_.2) ∧ (s_.2 ≠ gb213) ∧ (gb214 ≠ s_.2) ∧ (s_.2 ≠ gb214) ∧ (Below w.heap.size w w')) ?_ ?_
 rotate_left
 ·intro hCont
  refine two_ (i := 6) (j := 8) (Ni := some 11) (Nj := some 3) #[true, true, true, true, true, true, true, false, false, false] #[true, true, true, true, true, true, false, false, true, false] rfl rfl rfl rfl (two_of HT_.1 (by kernel_rfl)) (by decide) (by decide) (fun K hK => ?_) (fun K hK => ?_)
  ·skip
   refine goes_ Try.func21 (by kernel_rfl) rfl #[.slice A0_3 l0_3.length c0_3] (by rfl) rfl rfl (by (try simp only [List.map_toArray, List.map_cons, List.map_nil]); first | rfl ) ?_
   with_reducible refine (glisterlaw04_list.calls _ _ l0_3 t215 _ ?side1 ?side2 A2.1).mono ?_
   (case side1 => repeat (first | exact (Kd.C_below HR0_3.1 HB.1) ))
   (case side2 => exact HC0_3.1)
   rintro e w6 ⟨v216, rfl, ho0, hb⟩
   refine ⟨_, rfl, ?_⟩
   have n0_ := Sd.mk (Kd.R_lower ho0 (bZ (by repeat (first | (with_reducible first | exact HB.1 ) ))))
   have n1_ := Sd.mk (kB (g := gb213) (o := .cells #[.int .i64 a0_0, .int .i64 a0_1, .slice A0_2 l0_2.length c0_2, .slice A0_3 l0_3.length c0_3] 25 (0, 0)) (by (with_reducible repeat (fail)); exact BK213.1) hb)
   have n2_ := Sd.mk (kB (g := gb214) (o := .cells #[.int .i64 0, .int .i64 0, .slice none 0 0, .slice none 0 0] 32 (0, 0)) (by (with_reducible repeat (fail)); exact BK214.1) hb)
   have n3_ := Sd.mk (bT (by repeat (first | (with_reducible first | exact HB.1 ) )) hb)
   clear BK213
   clear BK214
   clear HB
   have HO217 := n0_
   have BK213 := n1_
   have BK214 := n2_
   have HB := n3_
   clear n0_ n1_ n2_ n3_
   (try clear hb)
   (try clear ho0)
   obtain ⟨Ao7, co7, eo7⟩ := Kd.R_slice HO217.1
   (subst eo7 )
   refine hK.out _ _ ⟨(kC BK213.1 0).trans rfl, (kC BK213.1 1).trans rfl, (kC BK213.1 2).trans rfl, (kC BK213.1 3).trans rfl⟩ (fun hHeld => ?_)
   clear hK K
   refine norm_ (a' := ?_) ?_ ?_
   rotate_left
   ·show Act.put _ (some 11) _ = _
    simp only [Act.put, List.setIfInBounds_toArray, List.set_cons_zero, List.set_cons_succ, i64_w, i32_w]
    rfl
   refine pure_ (i := 7) (N := some 12) (v := ?_) (a' := ?_) #[true, true, true, true, true, true, true, true, false, false] rfl rfl (any_of HT_.1 (by kernel_rfl)) (fun _ _ _ h => h) (Or.inl ⟨by rfl, ?_⟩) ?_ ?_
   rotate_left
   ·intro w'
    go_simp
    with_reducible rfl
   rotate_left
   ·simp only [Act.put, List.setIfInBounds_toArray, List.set_cons_zero, List.set_cons_succ, i64_w, i32_w]
    rfl
   refine one_ (i := 8) (N := some 3) #[true, true, true, true, true, true, true, true, true, false] rfl rfl (one_of HT_.1 (by kernel_rfl)) (by decide) (fun K hK => ?_)
   refine box_step ?hg (N := 3) ?hd (cs := #[.int .i64 0, .int .i64 0, .slice none 0 0, .slice none 0 0]) (t := 32) ?hr ?_; (case hd => rfl); (case hg => rfl); (case hr => first | (go_simp; done) )
   intro gb218 hg w8 hbox hb
   have n0_ := Sd.mk (Kd.R_below (by (with_reducible repeat (fail)); exact HO217.1) hb)
   have n1_ := Sd.mk (kB (g := gb213) (o := .cells #[.int .i64 a0_0, .int .i64 a0_1, .slice A0_2 l0_2.length c0_2, .slice A0_3 l0_3.length c0_3] 25 (0, 0)) (by (with_reducible repeat (fail)); exact BK213.1) hb)
   have n2_ := Sd.mk (kB (g := gb214) (o := .cells #[.int .i64 0, .int .i64 0, .slice none 0 0, .slice none 0 0] 32 (0, 0)) (by (with_reducible repeat (fail)); exact BK214.1) hb)
   have n3_ := Sd.mk (bT (by repeat (first | (with_reducible first | exact HB.1 ) )) hb)
   have n4_ := Sd.mk (hbox)
   have n5_ := Sd.mk ((by rw [hg]; exact (bZ (by repeat (first | (with_reducible first | exact HB.1 ) ))) : w.heap.size ≤ gb218))
   have n6_ := Sd.mk ((by rw [hg]; exact (bZ (by repeat (first | (with_reducible first | exact HB.1 ) ))) : w.heap.size ≤ gb218))
   have n7_ := Sd.mk ((by rw [hg]; exact Nat.ne_of_lt (blk_lt (g := gb213) (o := .cells #[.int .i64 a0_0, .int .i64 a0_1, .slice A0_2 l0_2.length c0_2, .slice A0_3 l0_3.length c0_3] 25 (0, 0)) (by (with_reducible repeat (fail)); exact BK213.1)) : gb213 ≠ gb218))
   have n8_ := Sd.mk ((by rw [hg]; exact Nat.ne_of_gt (blk_lt (g := gb213) (o := .cells #[.int .i64 a0_0, .int .i64 a0_1, .slice A0_2 l0_2.length c0_2, .slice A0_3 l0_3.length c0_3] 25 (0, 0)) (by (with_reducible repeat (fail)); exact BK213.1)) : gb218 ≠ gb213))
   have n9_ := Sd.mk ((by rw [hg]; exact Nat.ne_of_lt (blk_lt (g := gb214) (o := .cells #[.int .i64 0, .int .i64 0, .slice none 0 0, .slice none 0 0] 32 (0, 0)) (by (with_reducible repeat (fail)); exact BK214.1)) : gb214 ≠ gb218))
   have n10_ := Sd.mk ((by rw [hg]; exact Nat.ne_of_gt (blk_lt (g := gb214) (o := .cells #[.int .i64 0, .int .i64 0, .slice none 0 0, .slice none 0 0] 32 (0, 0)) (by (with_reducible repeat (fail)); exact BK214.1)) : gb218 ≠ gb214))
   clear HO217
   clear BK213
   clear BK214
   clear HB
   have HO217 := n0_
   have BK213 := n1_
   have BK214 := n2_
   have HB := n3_
   have BK218 := n4_
   have GW218 := n5_
   have GE218 := n6_
   have NB213_218 := n7_
   have NB218_213 := n8_
   have NB214_218 := n9_
   have NB218_214 := n10_
   clear n0_ n1_ n2_ n3_ n4_ n5_ n6_ n7_ n8_ n9_ n10_
   clear hb hbox hg
   refine hK.out _ _ ⟨(kC BK213.1 0).trans rfl, (kC BK213.1 1).trans rfl, (kC BK213.1 2).trans rfl, (kC BK213.1 3).trans rfl⟩ (fun hHeld => ?_)
   clear hK K
   refine norm_ (a' := ?_) ?_ ?_
   rotate_left
   ·show Act.put _ (some 3) _ = _
    simp only [Act.put, List.setIfInBounds_toArray, List.set_cons_zero, List.set_cons_succ, i64_w, i32_w]
    rfl
   exact norm_ (by simp only [putAll, Act.put, List.setIfInBounds_toArray, List.set_cons_zero, List.set_cons_succ]) (hCont (.slice Ao7 t215.length co7, gb218) _ ⟨hHeld, (by (with_reducible repeat (fail)); exact HO217.1), (by (with_reducible repeat (fail)); exact BK213.1), (by (with_reducible repeat (fail)); exact BK214.1), (by (with_reducible repeat (fail)); exact BK218.1), GW218.1, GE218.1, NB213_218.1, NB218_213.1, NB214_218.1, NB218_214.1, (by repeat (first | (with_reducible first | exact HB.1 ) ))⟩)
  ·skip
   refine box_step ?hg (N := 3) ?hd (cs := #[.int .i64 0, .int .i64 0, .slice none 0 0, .slice none 0 0]) (t := 32) ?hr ?_; (case hd => rfl); (case hg => rfl); (case hr => first | (go_simp; done) )
   intro gb218 hg w6 hbox hb
   have n0_ := Sd.mk (kB (g := gb213) (o := .cells #[.int .i64 a0_0, .int .i64 a0_1, .slice A0_2 l0_2.length c0_2, .slice A0_3 l0_3.length c0_3] 25 (0, 0)) (by (with_reducible repeat (fail)); exact BK213.1) hb)
   have n1_ := Sd.mk (kB (g := gb214) (o := .cells #[.int .i64 0, .int .i64 0, .slice none 0 0, .slice none 0 0] 32 (0, 0)) (by (with_reducible repeat (fail)); exact BK214.1) hb)
   have n2_ := Sd.mk (bT (by repeat (first | (with_reducible first | exact HB.1 ) )) hb)
   have n3_ := Sd.mk (hbox)
   have n4_ := Sd.mk ((by rw [hg]; exact (bZ (by repeat (first | (with_reducible first | exact HB.1 ) ))) : w.heap.size ≤ gb218))
   have n5_ := Sd.mk ((by rw [hg]; exact (bZ (by repeat (first | (with_reducible first | exact HB.1 ) ))) : w.heap.size ≤ gb218))
   have n6_ := Sd.mk ((by rw [hg]; exact Nat.ne_of_lt (blk_lt (g := gb213) (o := .cells #[.int .i64 a0_0, .int .i64 a0_1, .slice A0_2 l0_2.length c0_2, .slice A0_3 l0_3.length c0_3] 25 (0, 0)) (by (with_reducible repeat (fail)); exact BK213.1)) : gb213 ≠ gb218))
   have n7_ := Sd.mk ((by rw [hg]; exact Nat.ne_of_gt (blk_lt (g := gb213) (o := .cells #[.int .i64 a0_0, .int .i64 a0_1, .slice A0_2 l0_2.length c0_2, .slice A0_3 l0_3.length c0_3] 25 (0, 0)) (by (with_reducible repeat (fail)); exact BK213.1)) : gb218 ≠ gb213))
   have n8_ := Sd.mk ((by rw [hg]; exact Nat.ne_of_lt (blk_lt (g := gb214) (o := .cells #[.int .i64 0, .int .i64 0, .slice none 0 0, .slice none 0 0] 32 (0, 0)) (by (with_reducible repeat (fail)); exact BK214.1)) : gb214 ≠ gb218))
   have n9_ := Sd.mk ((by rw [hg]; exact Nat.ne_of_gt (blk_lt (g := gb214) (o := .cells #[.int .i64 0, .int .i64 0, .slice none 0 0, .slice none 0 0] 32 (0, 0)) (by (with_reducible repeat (fail)); exact BK214.1)) : gb218 ≠ gb214))
   clear BK213
   clear BK214
   clear HB
   have BK213 := n0_
   have BK214 := n1_
   have HB := n2_
   have BK218 := n3_
   have GW218 := n4_
   have GE218 := n5_
   have NB213_218 := n6_
   have NB218_213 := n7_
   have NB214_218 := n8_
   have NB218_214 := n9_
   clear n0_ n1_ n2_ n3_ n4_ n5_ n6_ n7_ n8_ n9_
   clear hb hbox hg
   refine hK.out _ _ ⟨(kC BK213.1 0).trans rfl, (kC BK213.1 1).trans rfl, (kC BK213.1 2).trans rfl, (kC BK213.1 3).trans rfl⟩ (fun hHeld => ?_)
   clear hK K
   refine norm_ (a' := ?_) ?_ ?_
   rotate_left
   ·show Act.put _ (some 3) _ = _
    simp only [Act.put, List.setIfInBounds_toArray, List.set_cons_zero, List.set_cons_succ, i64_w, i32_w]
    rfl
   refine one_ (i := 6) (N := some 11) #[true, true, true, true, true, true, true, false, true, false] rfl rfl (one_of HT_.1 (by kernel_rfl)) (by decide) (fun K hK => ?_)
   refine goes_ Try.func21 (by kernel_rfl) rfl #[.slice A0_3 l0_3.length c0_3] (by rfl) rfl rfl (by (try simp only [List.map_toArray, List.map_cons, List.map_nil]); first | rfl ) ?_
   with_reducible refine (glisterlaw04_list.calls _ _ l0_3 t215 _ ?side1 ?side2 A2.1).mono ?_
   (case side1 => repeat (first | exact (Kd.C_below HR0_3.1 HB.1) ))
   (case side2 => exact HC0_3.1)
   rintro e w7 ⟨v216, rfl, ho0, hb⟩
   refine ⟨_, rfl, ?_⟩
   have n0_ := Sd.mk (Kd.R_lower ho0 (bZ (by repeat (first | (with_reducible first | exact HB.1 ) ))))
   have n1_ := Sd.mk (kB (g := gb213) (o := .cells #[.int .i64 a0_0, .int .i64 a0_1, .slice A0_2 l0_2.length c0_2, .slice A0_3 l0_3.length c0_3] 25 (0, 0)) (by (with_reducible repeat (fail)); exact BK213.1) hb)
   have n2_ := Sd.mk (kB (g := gb214) (o := .cells #[.int .i64 0, .int .i64 0, .slice none 0 0, .slice none 0 0] 32 (0, 0)) (by (with_reducible repeat (fail)); exact BK214.1) hb)
   have n3_ := Sd.mk (kB (g := gb218) (o := .cells #[.int .i64 0, .int .i64 0, .slice none 0 0, .slice none 0 0] 32 (0, 0)) (by (with_reducible repeat (fail)); exact BK218.1) hb)
   have n4_ := Sd.mk (bT (by repeat (first | (with_reducible first | exact HB.1 ) )) hb)
   clear BK213
   clear BK214
   clear BK218
   clear HB
   have HO217 := n0_
   have BK213 := n1_
   have BK214 := n2_
   have BK218 := n3_
   have HB := n4_
   clear n0_ n1_ n2_ n3_ n4_
   (try clear hb)
   (try clear ho0)
   obtain ⟨Ao8, co8, eo8⟩ := Kd.R_slice HO217.1
   (subst eo8 )
   refine hK.out _ _ ⟨(kC BK213.1 0).trans rfl, (kC BK213.1 1).trans rfl, (kC BK213.1 2).trans rfl, (kC BK213.1 3).trans rfl⟩ (fun hHeld => ?_)
   clear hK K
   refine norm_ (a' := ?_) ?_ ?_
   rotate_left
   ·show Act.put _ (some 11) _ = _
    simp only [Act.put, List.setIfInBounds_toArray, List.set_cons_zero, List.set_cons_succ, i64_w, i32_w]
    rfl
   refine pure_ (i := 7) (N := some 12) (v := ?_) (a' := ?_) #[true, true, true, true, true, true, true, true, true, false] rfl rfl (any_of HT_.1 (by kernel_rfl)) (fun _ _ _ h => h) (Or.inl ⟨by rfl, ?_⟩) ?_ ?_
   rotate_left
   ·intro w'
    go_simp
    with_reducible rfl
   rotate_left
   ·simp only [Act.put, List.setIfInBounds_toArray, List.set_cons_zero, List.set_cons_succ, i64_w, i32_w]
    rfl
   exact norm_ (by simp only [putAll, Act.put, List.setIfInBounds_toArray, List.set_cons_zero, List.set_cons_succ]) (hCont (.slice Ao8 t215.length co8, gb218) _ ⟨hHeld, (by (with_reducible repeat (fail)); exact HO217.1), (by (with_reducible repeat (fail)); exact BK213.1), (by (with_reducible repeat (fail)); exact BK214.1), (by (with_reducible repeat (fail)); exact BK218.1), GW218.1, GE218.1, NB213_218.1, NB218_213.1, NB214_218.1, NB218_214.1, (by repeat (first | (with_reducible first | exact HB.1 ) ))⟩)
 rintro ⟨v216, gb218⟩ w9 ⟨hS_, h0_, h1_, h2_, h3_, h4_, h5_, h6_, h7_, h8_, h9_, h10_⟩
 have n0_ : Sd (Kd.R (Kd.int .i64) 3 w9 w.heap.size (fun _ => True) v216 t215) := ⟨h0_⟩
 have n1_ : Sd (w9.heap[gb213]? = some (.cells #[.int .i64 a0_0, .int .i64 a0_1, .slice A0_2 l0_2.length c0_2, .slice A0_3 l0_3.length c0_3] 25 (0, 0))) := ⟨h1_⟩
 have n2_ : Sd (w9.heap[gb214]? = some (.cells #[.int .i64 0, .int .i64 0, .slice none 0 0, .slice none 0 0] 32 (0, 0))) := ⟨h2_⟩
 have n3_ : Sd (w9.heap[gb218]? = some (.cells #[.int .i64 0, .int .i64 0, .slice none 0 0, .slice none 0 0] 32 (0, 0))) := ⟨h3_⟩
 have n4_ : Sd (w.heap.size ≤ gb218) := ⟨h4_⟩
 have n5_ : Sd (w.heap.size ≤ gb218) := ⟨h5_⟩
 have n6_ : Sd (gb213 ≠ gb218) := ⟨h6_⟩
 have n7_ : Sd (gb218 ≠ gb213) := ⟨h7_⟩
 have n8_ : Sd (gb214 ≠ gb218) := ⟨h8_⟩
 have n9_ : Sd (gb218 ≠ gb214) := ⟨h9_⟩
 have n10_ : Sd (Below w.heap.size w w9) := ⟨h10_⟩
 clear BK213
 clear BK214
 clear HB
 clear h0_ h1_ h2_ h3_ h4_ h5_ h6_ h7_ h8_ h9_ h10_
 have HO217 := n0_
 have BK213 := n1_
 have BK214 := n2_
 have BK218 := n3_
 have GW218 := n4_
 have GE218 := n5_
 have NB213_218 := n6_
 have NB218_213 := n7_
 have NB214_218 := n8_
 have NB218_214 := n9_
 have HB := n10_
 clear n0_ n1_ n2_ n3_ n4_ n5_ n6_ n7_ n8_ n9_ n10_
 have hHeld : w9.cell? ⟨gb213, 0, none⟩ = some (.int .i64 a0_0) ∧ w9.cell? ⟨gb213, 1, none⟩ = some (.int .i64 a0_1) ∧ w9.cell? ⟨gb213, 2, none⟩ = some (.slice A0_2 l0_2.length c0_2) ∧ w9.cell? ⟨gb213, 3, none⟩ = some (.slice A0_3 l0_3.length c0_3) := hS_
 obtain ⟨Ao10, co10, eo10⟩ := Kd.R_slice HO217.1
 (subst eo10 )
 refine norm_ (a' := ?_) ?_ ?_
 rotate_left
 ·simp only [putAll, Act.put, List.setIfInBounds_toArray, List.set_cons_zero, List.set_cons_succ]
  rfl
 refine one_ (i := 9) (N := none) #[true, true, true, true, true, true, true, true, true, true] rfl rfl (one_of HT_.1 (by kernel_rfl)) (by decide) (fun K hK => ?_)
 have hs11 : w9.cell? ⟨gb218, 0, none⟩ = some (.int .i64 0) := (kC BK218.1 0).trans rfl
 have hfs11 := kF BK218.1 0
 have hns11_0 := NB213_218.1
 have hns11_1 := NB214_218.1
 have hms11_0 := NB218_213.1
 have hms11_1 := NB218_214.1
 have hs12 : w9.cell? ⟨gb218, 1, none⟩ = some (.int .i64 0) := (kC BK218.1 1).trans rfl
 have hfs12 := kF BK218.1 1
 have hns12_0 := NB213_218.1
 have hns12_1 := NB214_218.1
 have hms12_0 := NB218_213.1
 have hms12_1 := NB218_214.1
 have hs13 : w9.cell? ⟨gb218, 2, none⟩ = some (.slice none 0 0) := (kC BK218.1 2).trans rfl
 have hfs13 := kF BK218.1 2
 have hns13_0 := NB213_218.1
 have hns13_1 := NB214_218.1
 have hms13_0 := NB218_213.1
 have hms13_1 := NB218_214.1
 have hs14 : w9.cell? ⟨gb218, 3, none⟩ = some (.slice none 0 0) := (kC BK218.1 3).trans rfl
 have hfs14 := kF BK218.1 3
 have hns14_0 := NB213_218.1
 have hns14_1 := NB214_218.1
 have hms14_0 := NB218_213.1
 have hms14_1 := NB218_214.1
 refine skip_ (w1 := ?_) (by rfl) rfl ?_ ?_
 rotate_left
 ·go_simp
  rfl
 refine hK.out _ _ ⟨((cell_far (p := ⟨gb218, _, none⟩) NB213_218.1 _).trans (((cell_far (p := ⟨gb218, _, none⟩) NB213_218.1 _).trans (((cell_far (p := ⟨gb218, _, none⟩) NB213_218.1 _).trans (((cell_far (p := ⟨gb218, _, none⟩) NB213_218.1 _).trans (hHeld.1)))))))), ((cell_far (p := ⟨gb218, _, none⟩) NB213_218.1 _).trans (((cell_far (p := ⟨gb218, _, none⟩) NB213_218.1 _).trans (((cell_far (p := ⟨gb218, _, none⟩) NB213_218.1 _).trans (((cell_far (p := ⟨gb218, _, none⟩) NB213_218.1 _).trans (hHeld.2.1)))))))), ((cell_far (p := ⟨gb218, _, none⟩) NB213_218.1 _).trans (((cell_far (p := ⟨gb218, _, none⟩) NB213_218.1 _).trans (((cell_far (p := ⟨gb218, _, none⟩) NB213_218.1 _).trans (((cell_far (p := ⟨gb218, _, none⟩) NB213_218.1 _).trans (hHeld.2.2.1)))))))), ((cell_far (p := ⟨gb218, _, none⟩) NB213_218.1 _).trans (((cell_far (p := ⟨gb218, _, none⟩) NB213_218.1 _).trans (((cell_far (p := ⟨gb218, _, none⟩) NB213_218.1 _).trans (((cell_far (p := ⟨gb218, _, none⟩) NB213_218.1 _).trans (hHeld.2.2.2))))))))⟩ (fun hHeld => ?_)
 clear hK K
 refine done_ (done_of HT_.1 (by kernel_rfl)) ?_
 try go_wp2
 go_loopg [4] k (fun kq v4 w' => ∃ (x4_1 : Int) (x219002_1 : List (S91)) (u219002 : Value), v4 = .int .i64 x4_1 ∧ Sd (glisterlaw04_Book.l0 kq x4_1 a0_0 a0_1 l0_2 l0_3 a0_0 a0_1 x219002_1 t215 = some (r1, r2, r3, r4)) ∧ Sd (kq ≤ k) ∧ Sd (Kd.R k91 91 w' w.heap.size (fun _ => True) u219002 x219002_1) ∧ Sd (Kd.R (Kd.int .i64) 3 w' w.heap.size (fun _ => True) (.slice Ao10 t215.length co10) t215) ∧ Sd (w'.heap[gb213]? = some (.cells #[.int .i64 a0_0, .int .i64 a0_1, (.slice A0_2 l0_2.length c0_2), (.slice A0_3 l0_3.length c0_3)] 25 (0, 0))) ∧ Sd (w'.heap[gb214]? = some (.cells #[.int .i64 0, .int .i64 0, (.slice none 0 0), (.slice none 0 0)] 32 (0, 0))) ∧ Sd (w'.heap[gb218]? = some (.cells #[.int .i64 a0_0, .int .i64 a0_1, u219002, (.slice Ao10 t215.length co10)] 32 (0, 0))) ∧ Sd (Below w.heap.size w w'))
 case atStart => exact ⟨(0), (([] : List (S91))), (.slice none 0 0), (by first | rfl ), H', ⟨Nat.le_refl _⟩, ⟨by first | exact Kd.R_nil _ _ _ _ _ ⟩, ⟨by (with_reducible repeat (fail)); exact Kd.R_mono (Kd.R_far (p := ⟨gb218, 3, none⟩) (Kd.R_far (p := ⟨gb218, 2, none⟩) (Kd.R_far (p := ⟨gb218, 1, none⟩) (Kd.R_far (p := ⟨gb218, 0, none⟩) (Kd.R_types HO217.1 BK218.1 (by decide)) (fun _ hk => hk.2) (.int .i64 a0_0)) (fun _ hk => hk.2) (.int .i64 a0_1)) (fun _ hk => hk.2) (.slice none 0 0)) (fun _ hk => hk.2) (.slice Ao10 t215.length co10)) (fun _ hk => trivial)⟩, ⟨by (with_reducible repeat (fail)); refine blk_far ?_ NB213_218.1 _; (with_reducible repeat (fail)); refine blk_far ?_ NB213_218.1 _; (with_reducible repeat (fail)); refine blk_far ?_ NB213_218.1 _; (with_reducible repeat (fail)); refine blk_far ?_ NB213_218.1 _; (with_reducible repeat (fail)); exact BK213.1⟩, ⟨by (with_reducible repeat (fail)); refine blk_far ?_ NB214_218.1 _; (with_reducible repeat (fail)); refine blk_far ?_ NB214_218.1 _; (with_reducible repeat (fail)); refine blk_far ?_ NB214_218.1 _; (with_reducible repeat (fail)); refine blk_far ?_ NB214_218.1 _; (with_reducible repeat (fail)); exact BK214.1⟩, ⟨by (with_reducible repeat (fail)); refine blk_put (cs := #[.int .i64 a0_0, .int .i64 a0_1, .slice none 0 0, .slice none 0 0]) ?_ 3 _ rfl; (with_reducible repeat (fail)); refine blk_put (cs := #[.int .i64 a0_0, .int .i64 a0_1, .slice none 0 0, .slice none 0 0]) ?_ 2 _ rfl; (with_reducible repeat (fail)); refine blk_put (cs := #[.int .i64 a0_0, .int .i64 0, .slice none 0 0, .slice none 0 0]) ?_ 1 _ rfl; (with_reducible repeat (fail)); refine blk_put (cs := #[.int .i64 0, .int .i64 0, .slice none 0 0, .slice none 0 0]) ?_ 0 _ rfl; (with_reducible repeat (fail)); exact BK218.1⟩, ⟨by repeat (first | (with_reducible first | exact HB.1 | refine bS ?_ GE218.1) )⟩⟩
 case round =>
  clear H'
  obtain ⟨x4_1, x219002_1, u219002, rfl, HA, HK1, HO_219002, HO_219003, BK213, BK214, BK218, HB⟩ := hrel
  cases gk with
  | zero => exact absurd HA.1 (by simp [glisterlaw04_Book.l0])
  | succ k1 =>
   have H := HA.1
   clear HA
   simp only [glisterlaw04_Book.l0] at H
   by_cases c15 : x4_1 < (l0_2.length : Int)
   ·rw [if_pos c15] at H
    have c15b0 : decide (x4_1 < (l0_2.length : Int)) = true := decide_eq_true c15
    clear c15
    by_cases c16 : 0 ≤ x4_1
    ·rw [if_pos c16] at H
     have c16b0 : decide (0 ≤ x4_1) = true := decide_eq_true c16
     clear c16
     replace H := Option.bind_eq_some_iff.mp H
     obtain ⟨⟨t220, t221, t222⟩, A170, H⟩ := H
     replace H : (if x219002_1.length < 5864062014805 then (glisterlaw04_Book.l0 k1 (wrap64 (x4_1 + 1)) a0_0 a0_1 l0_2 l0_3 a0_0 a0_1 (x219002_1 ++ [(⟨t220, t221, t222⟩ : S91)]) t215) else (none)) = some (r1, r2, r3, r4) := H
     have A17 := Sd.mk A170
     clear A170
     by_cases c18 : x219002_1.length < 5864062014805
     ·rw [if_pos c18] at H
      have LMc18 := Sd.mk c18
      clear c18
      obtain ⟨y223, hy223⟩ : ∃ y_ : List (S91), y_ = (x219002_1 ++ [(⟨t220, t221, t222⟩ : S91)]) := ⟨_, rfl⟩
      replace H : (glisterlaw04_Book.l0 k1 (wrap64 (x4_1 + 1)) a0_0 a0_1 l0_2 l0_3 a0_0 a0_1 y223 t215) = some (r1, r2, r3, r4) := by first | (rw [hy223]; with_reducible exact H) 
      have Ny223 := Sd.mk hy223
      clear hy223
      have H' := Sd.mk H
      clear H
      have hnb19 := NB213_214.1
      have hnc19 := NB214_213.1
      have hnb20 := NB213_218.1
      have hnc20 := NB218_213.1
      have z_21_0 : wr.cell? ⟨gb213, 0, none⟩ = some (.int .i64 a0_0) := (kC BK213.1 0).trans rfl
      have z_21_2 : wr.cell? ⟨gb213, 2, none⟩ = some (.slice A0_2 l0_2.length c0_2) := (kC BK213.1 2).trans rfl
      try go_wp2
      have n0_ := Sd.mk (Kd.R_drew HO_219002.1)
      have n1_ := Sd.mk (Kd.R_drew HO_219003.1)
      have n2_ := Sd.mk (kD BK213.1)
      have n3_ := Sd.mk (kD BK214.1)
      have n4_ := Sd.mk (kD BK218.1)
      have n5_ := Sd.mk (bD HB.1)
      clear HO_219002
      clear HO_219003
      clear BK213
      clear BK214
      clear BK218
      clear HB
      have HO_219002 := n0_
      have HO_219003 := n1_
      have BK213 := n2_
      have BK214 := n3_
      have BK218 := n4_
      have HB := n5_
      clear n0_ n1_ n2_ n3_ n4_ n5_
      have p219 : 0 ≤ (x4_1 : Int) := of_decide_eq_true (by first | (with_reducible assumption) )
      have q219 : x4_1 < (l0_2.length : Int) := of_decide_eq_true (by first | (with_reducible assumption) )
      obtain ⟨ad219, e219, hx219_0, hx219_1, hx219_2⟩ := at_T82 HR0_2.1 x4_1 p219 q219
      have hw219_2 := hx219_2
      have hw219_1 := hx219_1
      have hw219_0 := hx219_0
      cases e219
      replace hx219_0 := (HB.1.cell (World.block_lt_of_cell? w _ hx219_0)).trans hx219_0
      replace hx219_1 := (HB.1.cell (World.block_lt_of_cell? w _ hx219_1)).trans hx219_1
      replace hx219_2 := (HB.1.cell (World.block_lt_of_cell? w _ hx219_2)).trans hx219_2
      replace p219 := eq_true p219
      replace q219 := eq_true q219
      refine start_ (n := 12) (S := fun w' => w'.cell? ⟨gb218, 0, none⟩ = some (.int .i64 a0_0) ∧ w'.cell? ⟨gb218, 1, none⟩ = some (.int .i64 a0_1) ∧ w'.cell? ⟨gb218, 2, none⟩ = some (u219002) ∧ w'.cell? ⟨gb218, 3, none⟩ = some (.slice Ao10 t215.length co10) ∧ w'.cell? ⟨gb213, 0, none⟩ = some (.int .i64 a0_0) ∧ w'.cell? ⟨gb213, 1, none⟩ = some (.int .i64 a0_1) ∧ w'.cell? ⟨gb213, 2, none⟩ = some (.slice (some ad219) l0_2.length c0_2) ∧ w'.cell? ⟨gb213, 3, none⟩ = some (.slice A0_3 l0_3.length c0_3) ∧ w'.cell? (ad219.add ((x4_1).toNat * 3)) = some (.int .i64 ((rd_T82 l0_2 x4_1).f0)) ∧ w'.cell? ⟨(ad219.add ((x4_1).toNat * 3)).block, (ad219.add ((x4_1).toNat * 3)).off + 1, none⟩ = some (.int .i64 ((rd_T82 l0_2 x4_1).f1)) ∧ w'.cell? ⟨(ad219.add ((x4_1).toNat * 3)).block, (ad219.add ((x4_1).toNat * 3)).off + 2, none⟩ = some (.int .i64 ((rd_T82 l0_2 x4_1).f2))) (ds := [11]) #[false, false, false, false, false, false, false, false, false, false, false, false] (by kernel_rfl) rfl rfl ⟨(kC BK218.1 0).trans rfl, (kC BK218.1 1).trans rfl, (kC BK218.1 2).trans rfl, (kC BK218.1 3).trans rfl, (kC BK213.1 0).trans rfl, (kC BK213.1 1).trans rfl, (kC BK213.1 2).trans rfl, (kC BK213.1 3).trans rfl, ((HB.1.cell (World.block_lt_of_cell? w _ hw219_0)).trans hw219_0), ((HB.1.cell (World.block_lt_of_cell? w _ hw219_1)).trans hw219_1), ((HB.1.cell (World.block_lt_of_cell? w _ hw219_2)).trans hw219_2)⟩ (fun hHeld => ?_); refine with_tabW glisterlaw04_Book.tab5 glisterlaw04_Book.bits5 (fun HT_ HW_ => ?_)
      generalize wr.drew = w22 at HO_219002 HO_219003 BK213 BK214 BK218 HB hx219_0 hx219_1 hx219_2 hHeld ⊢
      refine pure_ (i := 0) (N := some 20) (v := ?_) (a' := ?_) #[true, false, false, false, false, false, false, false, false, false, false, false] rfl rfl (any_of HT_.1 (by kernel_rfl)) (fun _ _ _ h => h) (Or.inl ⟨by rfl, ?_⟩) ?_ ?_
      rotate_left
      ·intro w'
       go_simp
       with_reducible rfl
      rotate_left
      ·simp only [Act.put, List.setIfInBounds_toArray, List.set_cons_zero, List.set_cons_succ, i64_w, i32_w]
       rfl
      refine pure_ (i := 2) (N := some 22) (v := ?_) (a' := ?_) #[true, false, true, false, false, false, false, false, false, false, false, false] rfl rfl (any_of HT_.1 (by kernel_rfl)) (fun _ _ _ h => h) (Or.inl ⟨by rfl, ?_⟩) ?_ ?_
      rotate_left
      ·intro w'
       go_simp
       with_reducible rfl
      rotate_left
      ·simp only [Act.put, List.setIfInBounds_toArray, List.set_cons_zero, List.set_cons_succ, i64_w, i32_w]
       rfl
      refine pure_ (i := 4) (N := some 24) (v := ?_) (a' := ?_) #[true, false, true, false, true, false, false, false, false, false, false, false] rfl rfl (any_of HT_.1 (by kernel_rfl)) (fun _ _ _ h => h) (Or.inl ⟨by rfl, ?_⟩) ?_ ?_
      rotate_left
      ·intro w'
       go_simp
       with_reducible rfl
      rotate_left
      ·simp only [Act.put, List.setIfInBounds_toArray, List.set_cons_zero, List.set_cons_succ, i64_w, i32_w]
       rfl
      refine take_ (i := 1) (N := some 21) (v := ?_) (a' := ?_) #[true, true, true, false, true, false, false, false, false, false, false, false] rfl rfl (take_ofW HT_.1 HW_.1 (by kernel_rfl)) (fun _ _ _ h => h) (Or.inl ⟨by rfl, ?_⟩) hHeld ?_ ?_
      rotate_left
      ·rintro w' ⟨s0, s1, s2, s3, s4, s5, s6, s7, s8, s9, s10⟩
       go_simp
       with_reducible rfl
      rotate_left
      ·simp only [Act.put, List.setIfInBounds_toArray, List.set_cons_zero, List.set_cons_succ, i64_w, i32_w]
       rfl
      refine take_ (i := 3) (N := some 23) (v := ?_) (a' := ?_) #[true, true, true, true, true, false, false, false, false, false, false, false] rfl rfl (take_ofW HT_.1 HW_.1 (by kernel_rfl)) (fun _ _ _ h => h) (Or.inl ⟨by rfl, ?_⟩) hHeld ?_ ?_
      rotate_left
      ·rintro w' ⟨s0, s1, s2, s3, s4, s5, s6, s7, s8, s9, s10⟩
       go_simp
       with_reducible rfl
      rotate_left
      ·simp only [Act.put, List.setIfInBounds_toArray, List.set_cons_zero, List.set_cons_succ, i64_w, i32_w]
       rfl
      refine pure_ (i := 5) (N := some 25) (v := ?_) (a' := ?_) #[true, true, true, true, true, true, false, false, false, false, false, false] rfl rfl (any_of HT_.1 (by kernel_rfl)) (fun _ _ _ h => h) (Or.inl ⟨by rfl, ?_⟩) ?_ ?_
      rotate_left
      ·intro w'
       go_simp
       with_reducible rfl
      rotate_left
      ·simp only [Act.put, List.setIfInBounds_toArray, List.set_cons_zero, List.set_cons_succ, i64_w, i32_w]
       rfl
      refine take_ (i := 6) (N := some 26) (v := ?_) (a' := ?_) #[true, true, true, true, true, true, true, false, false, false, false, false] rfl rfl (take_ofW HT_.1 HW_.1 (by kernel_rfl)) (fun _ _ _ h => h) (Or.inl ⟨by rfl, ?_⟩) hHeld ?_ ?_
      rotate_left
      ·rintro w' ⟨s0, s1, s2, s3, s4, s5, s6, s7, s8, s9, s10⟩
       go_simp
       with_reducible rfl
      rotate_left
      ·simp only [Act.put, List.setIfInBounds_toArray, List.set_cons_zero, List.set_cons_succ, i64_w, i32_w]
       rfl
      refine one_ (i := 7) (N := some 27) #[true, true, true, true, true, true, true, true, false, false, false, false] rfl rfl (one_of HT_.1 (by kernel_rfl)) (by decide) (fun K hK => ?_)
      refine goes_ Try.func55 (by kernel_rfl) rfl #[.agg #[.int .i64 ((rd_T82 l0_2 x4_1).f0), .int .i64 ((rd_T82 l0_2 x4_1).f1), .int .i64 ((rd_T82 l0_2 x4_1).f2)]] (by rfl) rfl rfl (by (try simp only [List.map_toArray, List.map_cons, List.map_nil]); first | rfl ) ?_
      with_reducible refine (glisterlaw04_Key.calls ((rd_T82 l0_2 x4_1).f0) ((rd_T82 l0_2 x4_1).f1) ((rd_T82 l0_2 x4_1).f2) t220 t221 t222 _ A17.1).mono ?_
      rintro e w23 ⟨rfl, hb⟩
      refine ⟨_, rfl, ?_⟩
      have n0_ := Sd.mk (Kd.R_below (by (with_reducible repeat (fail)); exact HO_219002.1) hb)
      have n1_ := Sd.mk (Kd.R_below (by (with_reducible repeat (fail)); exact HO_219003.1) hb)
      have n2_ := Sd.mk (kB (g := gb213) (o := .cells #[.int .i64 a0_0, .int .i64 a0_1, .slice (some ad219) l0_2.length c0_2, .slice A0_3 l0_3.length c0_3] 25 (0, 0)) (by (with_reducible repeat (fail)); exact BK213.1) hb)
      have n3_ := Sd.mk (kB (g := gb214) (o := .cells #[.int .i64 0, .int .i64 0, .slice none 0 0, .slice none 0 0] 32 (0, 0)) (by (with_reducible repeat (fail)); exact BK214.1) hb)
      have n4_ := Sd.mk (kB (g := gb218) (o := .cells #[.int .i64 a0_0, .int .i64 a0_1, u219002, .slice Ao10 t215.length co10] 32 (0, 0)) (by (with_reducible repeat (fail)); exact BK218.1) hb)
      have n5_ := Sd.mk (bT (by repeat (first | (with_reducible first | exact HB.1 ) )) hb)
      clear HO_219002
      clear HO_219003
      clear BK213
      clear BK214
      clear BK218
      clear HB
      have HO_219002 := n0_
      have HO_219003 := n1_
      have BK213 := n2_
      have BK214 := n3_
      have BK218 := n4_
      have HB := n5_
      clear n0_ n1_ n2_ n3_ n4_ n5_
      (try clear hb)
      refine hK.out _ _ ⟨(kC BK218.1 0).trans rfl, (kC BK218.1 1).trans rfl, (kC BK218.1 2).trans rfl, (kC BK218.1 3).trans rfl, (kC BK213.1 0).trans rfl, (kC BK213.1 1).trans rfl, (kC BK213.1 2).trans rfl, (kC BK213.1 3).trans rfl, ((HB.1.cell (World.block_lt_of_cell? w _ hw219_0)).trans hw219_0), ((HB.1.cell (World.block_lt_of_cell? w _ hw219_1)).trans hw219_1), ((HB.1.cell (World.block_lt_of_cell? w _ hw219_2)).trans hw219_2)⟩ (fun hHeld => ?_)
      clear hK K
      refine norm_ (a' := ?_) ?_ ?_
      rotate_left
      ·show Act.put _ (some 27) _ = _
       simp only [Act.put, List.setIfInBounds_toArray, List.set_cons_zero, List.set_cons_succ, i64_w, i32_w]
       rfl
      refine one_ (i := 8) (N := some 28) #[true, true, true, true, true, true, true, true, true, false, false, false] rfl rfl (one_of HT_.1 (by kernel_rfl)) (by decide) (fun K hK => ?_)
      refine value_ (w1 := ?_) (v := ?_) (by rfl) rfl ?_ ?_
      rotate_left 2
      ·go_simp
       constructor
       ·rfl
       ·rfl
      refine hK.out _ _ ⟨(kC (kA BK218.1 _) 0).trans rfl, (kC (kA BK218.1 _) 1).trans rfl, (kC (kA BK218.1 _) 2).trans rfl, (kC (kA BK218.1 _) 3).trans rfl, (kC (kA BK213.1 _) 0).trans rfl, (kC (kA BK213.1 _) 1).trans rfl, (kC (kA BK213.1 _) 2).trans rfl, (kC (kA BK213.1 _) 3).trans rfl, (World.cell?_alloc_lt _ _ _ (World.block_lt_of_cell? _ _ (((HB.1.cell (World.block_lt_of_cell? w _ hw219_0)).trans hw219_0)))).trans (((HB.1.cell (World.block_lt_of_cell? w _ hw219_0)).trans hw219_0)), (World.cell?_alloc_lt _ _ _ (World.block_lt_of_cell? _ _ (((HB.1.cell (World.block_lt_of_cell? w _ hw219_1)).trans hw219_1)))).trans (((HB.1.cell (World.block_lt_of_cell? w _ hw219_1)).trans hw219_1)), (World.cell?_alloc_lt _ _ _ (World.block_lt_of_cell? _ _ (((HB.1.cell (World.block_lt_of_cell? w _ hw219_2)).trans hw219_2)))).trans (((HB.1.cell (World.block_lt_of_cell? w _ hw219_2)).trans hw219_2))⟩ (fun hHeld => ?_)
      clear hK K
      refine norm_ (a' := ?_) ?_ ?_
      rotate_left
      ·show Act.put _ (some 28) _ = _
       simp only [Act.put, List.setIfInBounds_toArray, List.set_cons_zero, List.set_cons_succ, i64_w, i32_w]
       rfl
      refine one_ (i := 9) (N := some 29) #[true, true, true, true, true, true, true, true, true, true, false, false] rfl rfl (one_of HT_.1 (by kernel_rfl)) (by decide) (fun K hK => ?_)
      refine Kd.R_append_step k91 (w0 := w) w.heap.size (by rfl) (.tmp 21) (.tmp 28) 30 91 (.agg #[(.int .i64 0), (.int .i64 0), (.int .i64 0)]) 24 rfl Try.underlying30 info91 rfl (by decide) (by omega) u219002 x219002_1 (⟨t220, t221, t222⟩ : S91) [.int .i64 t220, .int .i64 t221, .int .i64 t222] (fun _ => True) (fun _ => False) rfl rfl ?aP (fun _ hk => hk.elim) ?aF ?aO ?aB ?aS ?aL ?_
      (case aP => exact k91_mkM _ _ _ (⟨t220, t221, t222⟩ : S91))
      (case aB => exact (by repeat (first | (with_reducible first | exact HB.1 ) )))
      (case aF => exact (fun _ _ => trivial))
      (case aO => exact (by (with_reducible repeat (fail)); exact HO_219002.1))
      (case aS => exact (bZ (by repeat (first | (with_reducible first | exact HB.1 ) ))))
      (case aL => have := LMc18.1; omega)
      intro v224 w24 ho hb hg hat
      rw [← Ny223.1] at ho
      have n0_ := Sd.mk (Kd.R_over' (by (with_reducible repeat (fail)); exact HO_219003.1) (Kd.R_typed (by (with_reducible repeat (fail)); exact HO_219002.1)) (by decide) hg)
      have n1_ := Sd.mk (blk_grown (g := gb213) (o := .cells #[.int .i64 a0_0, .int .i64 a0_1, .slice (some ad219) l0_2.length c0_2, .slice A0_3 l0_3.length c0_3] 25 (0, 0)) (by (with_reducible repeat (fail)); exact BK213.1) hg (Kd.R_ne HO_219002.1 BK213.1 (by decide)))
      have n2_ := Sd.mk (blk_grown (g := gb214) (o := .cells #[.int .i64 0, .int .i64 0, .slice none 0 0, .slice none 0 0] 32 (0, 0)) (by (with_reducible repeat (fail)); exact BK214.1) hg (Kd.R_ne HO_219002.1 BK214.1 (by decide)))
      have n3_ := Sd.mk (blk_grown (g := gb218) (o := .cells #[.int .i64 a0_0, .int .i64 a0_1, u219002, .slice Ao10 t215.length co10] 32 (0, 0)) (by (with_reducible repeat (fail)); exact BK218.1) hg (Kd.R_ne HO_219002.1 BK218.1 (by decide)))
      have n4_ := Sd.mk (hb)
      have n5_ := Sd.mk (ho)
      clear HO_219003
      clear BK213
      clear BK214
      clear BK218
      clear HB
      clear HO_219002
      have HO_219003 := n0_
      have BK213 := n1_
      have BK214 := n2_
      have BK218 := n3_
      have HB := n4_
      have HO225 := n5_
      clear n0_ n1_ n2_ n3_ n4_ n5_
      clear ho hb hg hat
      obtain ⟨Ao25, co25, eo25⟩ := Kd.R_slice HO225.1
      (subst eo25 )
      refine hK.out _ _ ⟨(kC BK218.1 0).trans rfl, (kC BK218.1 1).trans rfl, (kC BK218.1 2).trans rfl, (kC BK218.1 3).trans rfl, (kC BK213.1 0).trans rfl, (kC BK213.1 1).trans rfl, (kC BK213.1 2).trans rfl, (kC BK213.1 3).trans rfl, ((HB.1.cell (World.block_lt_of_cell? w _ hw219_0)).trans hw219_0), ((HB.1.cell (World.block_lt_of_cell? w _ hw219_1)).trans hw219_1), ((HB.1.cell (World.block_lt_of_cell? w _ hw219_2)).trans hw219_2)⟩ (fun hHeld => ?_)
      clear hK K
      refine norm_ (a' := ?_) ?_ ?_
      rotate_left
      ·show Act.put _ (some 29) _ = _
       simp only [Act.put, List.setIfInBounds_toArray, List.set_cons_zero, List.set_cons_succ, i64_w, i32_w]
       rfl
      refine pure_ (i := 10) (N := some 30) (v := ?_) (a' := ?_) #[true, true, true, true, true, true, true, true, true, true, true, false] rfl rfl (any_of HT_.1 (by kernel_rfl)) (fun _ _ _ h => h) (Or.inl ⟨by rfl, ?_⟩) ?_ ?_
      rotate_left
      ·intro w'
       go_simp
       with_reducible rfl
      rotate_left
      ·simp only [Act.put, List.setIfInBounds_toArray, List.set_cons_zero, List.set_cons_succ, i64_w, i32_w]
       rfl
      refine last_ (i := 11) (N := none) #[true, true, true, true, true, true, true, true, true, true, true, true] rfl rfl (one_of HT_.1 (by kernel_rfl)) (by decide) (fun K hK => ?_)
      have hs26 : w24.cell? ⟨gb218, 2, none⟩ = some (u219002) := (kC BK218.1 2).trans rfl
      have hfs26 := kF BK218.1 2
      have hns26_0 := NB213_218.1
      have hns26_1 := NB214_218.1
      have hms26_0 := NB218_213.1
      have hms26_1 := NB218_214.1
      refine skip_ (w1 := ?_) (by rfl) rfl ?_ ?_
      rotate_left
      ·go_simp
       rfl
      refine hK.out _ _ ?_
      clear hK K
      refine done_ (done_of HT_.1 (by kernel_rfl)) ?_
      try go_wp2
      go_roundg k1
      case measure => have := HK1.1; omega
      case rel => exact ⟨(wrap64 (x4_1 + 1)), (y223), (.slice Ao25 y223.length co25), (by first | rfl ), H', ⟨by have := HK1.1; omega⟩, ⟨by (with_reducible repeat (fail)); exact Kd.R_mono (Kd.R_far (p := ⟨gb218, 2, none⟩) (Kd.R_types HO225.1 BK218.1 (by decide)) (fun _ hk => hk.2) (.slice Ao25 y223.length co25)) (fun _ hk => trivial)⟩, ⟨by (with_reducible repeat (fail)); exact Kd.R_mono (Kd.R_far (p := ⟨gb218, 2, none⟩) (Kd.R_types HO_219003.1 BK218.1 (by decide)) (fun _ hk => hk.2) (.slice Ao25 y223.length co25)) (fun _ hk => trivial)⟩, ⟨by (with_reducible repeat (fail)); refine blk_far ?_ NB213_218.1 _; (with_reducible repeat (fail)); exact BK213.1⟩, ⟨by (with_reducible repeat (fail)); refine blk_far ?_ NB214_218.1 _; (with_reducible repeat (fail)); exact BK214.1⟩, ⟨by (with_reducible repeat (fail)); refine blk_put (cs := #[.int .i64 a0_0, .int .i64 a0_1, u219002, .slice Ao10 t215.length co10]) ?_ 2 _ rfl; (with_reducible repeat (fail)); exact BK218.1⟩, ⟨by repeat (first | (with_reducible first | exact HB.1 | refine bS ?_ GE218.1) )⟩⟩
     ·rw [if_neg c18] at H
      exact absurd H (by simp)
    ·rw [if_neg c16] at H
     exact absurd H (by simp)
   ·rw [if_neg c15] at H
    have c15b0 : decide (x4_1 < (l0_2.length : Int)) = false := decide_eq_false c15
    clear c15
    simp only [Option.some.injEq, Prod.mk.injEq] at H
    obtain ⟨rfl, rfl, rfl, rfl⟩ := H
    have hnb27 := NB213_214.1
    have hnc27 := NB214_213.1
    have hnb28 := NB213_218.1
    have hnc28 := NB218_213.1
    have z_29_2 : wr.cell? ⟨gb213, 2, none⟩ = some (.slice A0_2 l0_2.length c0_2) := (kC BK213.1 2).trans rfl
    have hnb30 := NB218_214.1
    have hnc30 := NB214_218.1
    have z_31_0 : wr.cell? ⟨gb218, 0, none⟩ = some (.int .i64 a0_0) := (kC BK218.1 0).trans rfl
    have z_31_1 : wr.cell? ⟨gb218, 1, none⟩ = some (.int .i64 a0_1) := (kC BK218.1 1).trans rfl
    have z_31_2 : wr.cell? ⟨gb218, 2, none⟩ = some (u219002) := (kC BK218.1 2).trans rfl
    have z_31_3 : wr.cell? ⟨gb218, 3, none⟩ = some (.slice Ao10 t215.length co10) := (kC BK218.1 3).trans rfl
    have z_32_0 : wr.cell? ⟨gb214, 0, none⟩ = some (.int .i64 0) := (kC BK214.1 0).trans rfl
    have z_32_1 : wr.cell? ⟨gb214, 1, none⟩ = some (.int .i64 0) := (kC BK214.1 1).trans rfl
    have z_32_2 : wr.cell? ⟨gb214, 2, none⟩ = some (.slice none 0 0) := (kC BK214.1 2).trans rfl
    have z_32_3 : wr.cell? ⟨gb214, 3, none⟩ = some (.slice none 0 0) := (kC BK214.1 3).trans rfl
    have hfz32_0 := kF BK214.1 0
    have hfz32_1 := kF BK214.1 1
    have hfz32_2 := kF BK214.1 2
    have hfz32_3 := kF BK214.1 3
    obtain ⟨Ao33, co33, eo33⟩ := Kd.R_slice HO_219002.1
    subst eo33
    go_wp2
    refine bodyPost_ret (results_cell_row rfl _ _ gb214 32 #[.int .i64 a0_0, .int .i64 a0_1, .slice Ao33 x219002_1.length co33, .slice Ao10 t215.length co10] (0, 0) _ rfl (by (with_reducible repeat (fail)); refine blk_put (cs := #[.int .i64 a0_0, .int .i64 a0_1, .slice Ao33 x219002_1.length co33, .slice none 0 0]) ?_ 3 _ rfl; (with_reducible repeat (fail)); refine blk_put (cs := #[.int .i64 a0_0, .int .i64 a0_1, .slice none 0 0, .slice none 0 0]) ?_ 2 _ rfl; (with_reducible repeat (fail)); refine blk_put (cs := #[.int .i64 a0_0, .int .i64 0, .slice none 0 0, .slice none 0 0]) ?_ 1 _ rfl; (with_reducible repeat (fail)); refine blk_put (cs := #[.int .i64 0, .int .i64 0, .slice none 0 0, .slice none 0 0]) ?_ 0 _ rfl; (with_reducible repeat (fail)); exact BK214.1) Try.underlying32 rfl (by kernel_rfl)) rfl ?_
    exact ⟨_, _, by first | rfl , by (with_reducible repeat (fail)); exact Kd.R_mono (Kd.R_far (p := ⟨gb214, 3, none⟩) (Kd.R_far (p := ⟨gb214, 2, none⟩) (Kd.R_far (p := ⟨gb214, 1, none⟩) (Kd.R_far (p := ⟨gb214, 0, none⟩) (Kd.R_types HO_219002.1 BK214.1 (by decide)) (fun _ hk => hk.2) (.int .i64 a0_0)) (fun _ hk => hk.2) (.int .i64 a0_1)) (fun _ hk => hk.2) (.slice Ao33 x219002_1.length co33)) (fun _ hk => hk.2) (.slice Ao10 t215.length co10)) (fun _ hk => trivial), by (with_reducible repeat (fail)); exact Kd.R_mono (Kd.R_far (p := ⟨gb214, 3, none⟩) (Kd.R_far (p := ⟨gb214, 2, none⟩) (Kd.R_far (p := ⟨gb214, 1, none⟩) (Kd.R_far (p := ⟨gb214, 0, none⟩) (Kd.R_types HO_219003.1 BK214.1 (by decide)) (fun _ hk => hk.2) (.int .i64 a0_0)) (fun _ hk => hk.2) (.int .i64 a0_1)) (fun _ hk => hk.2) (.slice Ao33 x219002_1.length co33)) (fun _ hk => hk.2) (.slice Ao10 t215.length co10)) (fun _ hk => trivial), by repeat (first | (with_reducible first | exact HB.1 | refine bS ?_ GE214.1 ) )⟩
def glisterref04_In.f (a0 : Int) (a1 : Int) (a2 : Int) : Option (Bool) := if a0 ≥ a1 then (some (decide (a0 ≤ a2))) else (some false)
set_option maxHeartbeats 8000000 in
set_option maxRecDepth 100000 in
theorem glisterref04_In.calls (a0 : Int) (a1 : Int) (a2 : Int) (r : Bool) (w : World) (h : glisterref04_In.f a0 a1 a2 = some r) :
  Calls Try.prog 23 #[.int .i64 a0, .int .i64 a1, .int .i64 a2] w fun e w' => e = .returned (.bool r) ∧ Drawn0 w w' := by
 have H : (if a0 ≥ a1 then (some (decide (a0 ≤ a2))) else (some false)) = some r := h
 clear h
 by_cases c4 : a0 ≥ a1
 ·rw [if_pos c4] at H
  have c4b0 : decide (a1 ≤ a0) = true := decide_eq_true c4
  clear c4
  obtain rfl := Option.some.inj H
  go_enter Try.func23, Try.ntmps23
  go_wp2
  go_ret
  exact ⟨by first | rfl , by exact Drawn0.refl _ ⟩
 ·rw [if_neg c4] at H
  have c4b0 : decide (a1 ≤ a0) = false := decide_eq_false c4
  clear c4
  obtain rfl := Option.some.inj H
  go_enter Try.func23, Try.ntmps23
  go_wp2
  go_ret
  exact ⟨by first | rfl , by exact Drawn0.refl _ ⟩
def glisterref04_IsKey.f (a0_0 : Int) (a0_1 : Int) (l0_2 : List (S82)) (l0_3 : List Int) (a1_0 : Int) (a1_1 : Int) (a1_2 : Int) : Option (Bool) := (glisterref04_In.f a1_0 1 (wrap64 (a0_0 - 1))).bind fun t228 => (if t228 = true then ((glisterref04_In.f a1_1 0 (wrap64 (a0_0 - 1))).bind fun t229 => (if t229 = true then ((glisterref04_In.f a1_2 0 (wrap64 (a0_0 - 1))).bind fun t230 => (some t230)) else (some false))) else (some false))
set_option maxHeartbeats 8000000 in
set_option maxRecDepth 100000 in
theorem glisterref04_IsKey.calls (a0_0 : Int) (a0_1 : Int) (A0_2 : Option Addr) (c0_2 : Nat) (l0_2 : List (S82)) (A0_3 : Option Addr) (c0_3 : Nat) (l0_3 : List Int) (a1_0 : Int) (a1_1 : Int) (a1_2 : Int) (r : Bool) (w : World) (hr0_2 : Kd.C k82 w A0_2 l0_2.length l0_2) (hc0_2 : l0_2.length ≤ c0_2) (hr0_3 : Kd.C (Kd.int .i64) w A0_3 l0_3.length l0_3) (hc0_3 : l0_3.length ≤ c0_3) (h : glisterref04_IsKey.f a0_0 a0_1 l0_2 l0_3 a1_0 a1_1 a1_2 = some r) :
  Calls Try.prog 88 #[.agg #[.int .i64 a0_0, .int .i64 a0_1, .slice A0_2 l0_2.length c0_2, .slice A0_3 l0_3.length c0_3], .agg #[.int .i64 a1_0, .int .i64 a1_1, .int .i64 a1_2]] w fun e w' => e = .returned (.bool r) ∧ Below w.heap.size w w' := by
 have hu25 := Try.underlying25
 have hu82 := Try.underlying82
 have HR0_2 := Sd.mk hr0_2
 have HC0_2 := Sd.mk hc0_2
 clear hr0_2 hc0_2
 have HR0_3 := Sd.mk hr0_3
 have HC0_3 := Sd.mk hc0_3
 clear hr0_3 hc0_3
 have HB := Sd.mk (Below.refl w.heap.size w)
 have H : ((glisterref04_In.f a1_0 1 (wrap64 (a0_0 - 1))).bind fun t228 => (if t228 = true then ((glisterref04_In.f a1_1 0 (wrap64 (a0_0 - 1))).bind fun t229 => (if t229 = true then ((glisterref04_In.f a1_2 0 (wrap64 (a0_0 - 1))).bind fun t230 => (some t230)) else (some false))) else (some false))) = some r := h
 clear h
 obtain ⟨t228, A30, H⟩ := Option.bind_eq_some_iff.mp H
 have A3 := Sd.mk A30
 clear A30
 by_cases c4 : t228 = true
 ·subst c4
  rw [if_pos rfl] at H
  obtain ⟨t229, A50, H⟩ := Option.bind_eq_some_iff.mp H
  have A5 := Sd.mk A50
  clear A50
  by_cases c6 : t229 = true
  ·subst c6
   rw [if_pos rfl] at H
   obtain ⟨t230, A70, H⟩ := Option.bind_eq_some_iff.mp H
   have A7 := Sd.mk A70
   clear A70
   obtain rfl := Option.some.inj H
   go_enter Try.func88, Try.ntmps88
   go_wp2_with (first | ((with_reducible refine gD (N := 2) rfl ?_); refine xE ?hg (N := 2) ?hd (cs := #[.int .i64 a0_0, .int .i64 a0_1, .slice A0_2 l0_2.length c0_2, .slice A0_3 l0_3.length c0_3]) (t := 25) ?hr ?_; (case hd => rfl); (case hg => rfl); (case hr => first | (go_simp; done) ); intro gb226 hg w8 hbox hb; have BK226 := Sd.mk (hbox); have GW226 := Sd.mk ((by rw [hg]; exact (bZ (by repeat (first | (with_reducible first | exact HB.1 ) ))) : w.heap.size ≤ gb226)); have GE226 := Sd.mk ((by rw [hg]; exact (bZ (by repeat (first | (with_reducible first | exact HB.1 ) ))) : w.heap.size ≤ gb226)); replace HB := Sd.mk (bT (by repeat (first | (with_reducible first | exact HB.1 ) )) hb); clear hb hbox hg) | ((with_reducible refine gD (N := 3) rfl ?_); refine xE ?hg (N := 3) ?hd (cs := #[.int .i64 a1_0, .int .i64 a1_1, .int .i64 a1_2]) (t := 82) ?hr ?_; (case hd => rfl); (case hg => rfl); (case hr => first | (go_simp; done) ); intro gb227 hg w9 hbox hb; have BK227 := Sd.mk (hbox); have GW227 := Sd.mk ((by rw [hg]; exact (bZ (by repeat (first | (with_reducible first | exact HB.1 ) ))) : w.heap.size ≤ gb227)); have GE227 := Sd.mk ((by rw [hg]; exact (bZ (by repeat (first | (with_reducible first | exact HB.1 ) ))) : w.heap.size ≤ gb227)); replace HB := Sd.mk (bT (by repeat (first | (with_reducible first | exact HB.1 ) )) hb); have NB226_227 := Sd.mk ((by rw [hg]; exact Nat.ne_of_lt (blk_lt (g := gb226) (o := .cells #[.int .i64 a0_0, .int .i64 a0_1, .slice A0_2 l0_2.length c0_2, .slice A0_3 l0_3.length c0_3] 25 (0, 0)) (by (with_reducible repeat (fail)); exact BK226.1)) : gb226 ≠ gb227)); have NB227_226 := Sd.mk ((by rw [hg]; exact Nat.ne_of_gt (blk_lt (g := gb226) (o := .cells #[.int .i64 a0_0, .int .i64 a0_1, .slice A0_2 l0_2.length c0_2, .slice A0_3 l0_3.length c0_3] 25 (0, 0)) (by (with_reducible repeat (fail)); exact BK226.1)) : gb227 ≠ gb226)); replace BK226 := Sd.mk (kB (g := gb226) (o := .cells #[.int .i64 a0_0, .int .i64 a0_1, .slice A0_2 l0_2.length c0_2, .slice A0_3 l0_3.length c0_3] 25 (0, 0)) (by (with_reducible repeat (fail)); exact BK226.1) hb); clear hb hbox hg; have hnb10 := NB227_226.1; have hnc10 := NB226_227.1; have z_11_0 : w9.cell? ⟨gb227, 0, none⟩ = some (.int .i64 a1_0) := (kC BK227.1 0).trans rfl; have z_11_1 : w9.cell? ⟨gb227, 1, none⟩ = some (.int .i64 a1_1) := (kC BK227.1 1).trans rfl; have z_11_2 : w9.cell? ⟨gb227, 2, none⟩ = some (.int .i64 a1_2) := (kC BK227.1 2).trans rfl; have z_12_0 : w9.cell? ⟨gb226, 0, none⟩ = some (.int .i64 a0_0) := (kC BK226.1 0).trans rfl) | ((with_reducible refine gate_callee (f := 23) rfl ?_); refine goesL_ (some 10) rfl rfl Try.func23 (by kernel_rfl) rfl #[.int .i64 a1_0, .int .i64 1, .int .i64 (wrap64 (a0_0 - 1))] rfl (by (try simp only [List.map_toArray, List.map_cons, List.map_nil]); first | rfl ) ?_; (with_reducible refine (glisterref04_In.calls a1_0 1 (wrap64 (a0_0 - 1)) true _ A3.1).mono ?_); rintro e w' ⟨rfl, ⟨nd, rfl⟩⟩; refine ⟨_, rfl, ?_⟩) | (go_at_call 23; (with_reducible refine (glisterref04_In.calls a1_1 0 (wrap64 (a0_0 - 1)) true _ A5.1).mono ?_); rintro e w' ⟨rfl, ⟨nd, rfl⟩⟩) | (go_at_call 23; (with_reducible refine (glisterref04_In.calls a1_2 0 (wrap64 (a0_0 - 1)) t230 _ A7.1).mono ?_); rintro e w' ⟨rfl, ⟨nd, rfl⟩⟩))
   go_ret
   exact ⟨by first | rfl , by repeat (first | (with_reducible first | exact HB.1 | apply bN ) )⟩
  ·replace c6 := Bool.eq_false_iff.mpr c6
   subst c6
   rw [if_neg (show ¬ (false = true) by decide)] at H
   obtain rfl := Option.some.inj H
   go_enter Try.func88, Try.ntmps88
   go_wp2_with (first | ((with_reducible refine gD (N := 2) rfl ?_); refine xE ?hg (N := 2) ?hd (cs := #[.int .i64 a0_0, .int .i64 a0_1, .slice A0_2 l0_2.length c0_2, .slice A0_3 l0_3.length c0_3]) (t := 25) ?hr ?_; (case hd => rfl); (case hg => rfl); (case hr => first | (go_simp; done) ); intro gb226 hg w13 hbox hb; have BK226 := Sd.mk (hbox); have GW226 := Sd.mk ((by rw [hg]; exact (bZ (by repeat (first | (with_reducible first | exact HB.1 ) ))) : w.heap.size ≤ gb226)); have GE226 := Sd.mk ((by rw [hg]; exact (bZ (by repeat (first | (with_reducible first | exact HB.1 ) ))) : w.heap.size ≤ gb226)); replace HB := Sd.mk (bT (by repeat (first | (with_reducible first | exact HB.1 ) )) hb); clear hb hbox hg) | ((with_reducible refine gD (N := 3) rfl ?_); refine xE ?hg (N := 3) ?hd (cs := #[.int .i64 a1_0, .int .i64 a1_1, .int .i64 a1_2]) (t := 82) ?hr ?_; (case hd => rfl); (case hg => rfl); (case hr => first | (go_simp; done) ); intro gb227 hg w14 hbox hb; have BK227 := Sd.mk (hbox); have GW227 := Sd.mk ((by rw [hg]; exact (bZ (by repeat (first | (with_reducible first | exact HB.1 ) ))) : w.heap.size ≤ gb227)); have GE227 := Sd.mk ((by rw [hg]; exact (bZ (by repeat (first | (with_reducible first | exact HB.1 ) ))) : w.heap.size ≤ gb227)); replace HB := Sd.mk (bT (by repeat (first | (with_reducible first | exact HB.1 ) )) hb); have NB226_227 := Sd.mk ((by rw [hg]; exact Nat.ne_of_lt (blk_lt (g := gb226) (o := .cells #[.int .i64 a0_0, .int .i64 a0_1, .slice A0_2 l0_2.length c0_2, .slice A0_3 l0_3.length c0_3] 25 (0, 0)) (by (with_reducible repeat (fail)); exact BK226.1)) : gb226 ≠ gb227)); have NB227_226 := Sd.mk ((by rw [hg]; exact Nat.ne_of_gt (blk_lt (g := gb226) (o := .cells #[.int .i64 a0_0, .int .i64 a0_1, .slice A0_2 l0_2.length c0_2, .slice A0_3 l0_3.length c0_3] 25 (0, 0)) (by (with_reducible repeat (fail)); exact BK226.1)) : gb227 ≠ gb226)); replace BK226 := Sd.mk (kB (g := gb226) (o := .cells #[.int .i64 a0_0, .int .i64 a0_1, .slice A0_2 l0_2.length c0_2, .slice A0_3 l0_3.length c0_3] 25 (0, 0)) (by (with_reducible repeat (fail)); exact BK226.1) hb); clear hb hbox hg; have hnb15 := NB227_226.1; have hnc15 := NB226_227.1; have z_16_0 : w14.cell? ⟨gb227, 0, none⟩ = some (.int .i64 a1_0) := (kC BK227.1 0).trans rfl; have z_16_1 : w14.cell? ⟨gb227, 1, none⟩ = some (.int .i64 a1_1) := (kC BK227.1 1).trans rfl; have z_17_0 : w14.cell? ⟨gb226, 0, none⟩ = some (.int .i64 a0_0) := (kC BK226.1 0).trans rfl) | ((with_reducible refine gate_callee (f := 23) rfl ?_); refine goesL_ (some 10) rfl rfl Try.func23 (by kernel_rfl) rfl #[.int .i64 a1_0, .int .i64 1, .int .i64 (wrap64 (a0_0 - 1))] rfl (by (try simp only [List.map_toArray, List.map_cons, List.map_nil]); first | rfl ) ?_; (with_reducible refine (glisterref04_In.calls a1_0 1 (wrap64 (a0_0 - 1)) true _ A3.1).mono ?_); rintro e w' ⟨rfl, ⟨nd, rfl⟩⟩; refine ⟨_, rfl, ?_⟩) | (go_at_call 23; (with_reducible refine (glisterref04_In.calls a1_1 0 (wrap64 (a0_0 - 1)) false _ A5.1).mono ?_); rintro e w' ⟨rfl, ⟨nd, rfl⟩⟩))
   go_ret
   exact ⟨by first | rfl , by repeat (first | (with_reducible first | exact HB.1 | apply bN ) )⟩
 ·replace c4 := Bool.eq_false_iff.mpr c4
  subst c4
  rw [if_neg (show ¬ (false = true) by decide)] at H
  obtain rfl := Option.some.inj H
  go_enter Try.func88, Try.ntmps88
  go_wp2_with (first | ((with_reducible refine gD (N := 2) rfl ?_); refine xE ?hg (N := 2) ?hd (cs := #[.int .i64 a0_0, .int .i64 a0_1, .slice A0_2 l0_2.length c0_2, .slice A0_3 l0_3.length c0_3]) (t := 25) ?hr ?_; (case hd => rfl); (case hg => rfl); (case hr => first | (go_simp; done) ); intro gb226 hg w18 hbox hb; have BK226 := Sd.mk (hbox); have GW226 := Sd.mk ((by rw [hg]; exact (bZ (by repeat (first | (with_reducible first | exact HB.1 ) ))) : w.heap.size ≤ gb226)); have GE226 := Sd.mk ((by rw [hg]; exact (bZ (by repeat (first | (with_reducible first | exact HB.1 ) ))) : w.heap.size ≤ gb226)); replace HB := Sd.mk (bT (by repeat (first | (with_reducible first | exact HB.1 ) )) hb); clear hb hbox hg) | ((with_reducible refine gD (N := 3) rfl ?_); refine xE ?hg (N := 3) ?hd (cs := #[.int .i64 a1_0, .int .i64 a1_1, .int .i64 a1_2]) (t := 82) ?hr ?_; (case hd => rfl); (case hg => rfl); (case hr => first | (go_simp; done) ); intro gb227 hg w19 hbox hb; have BK227 := Sd.mk (hbox); have GW227 := Sd.mk ((by rw [hg]; exact (bZ (by repeat (first | (with_reducible first | exact HB.1 ) ))) : w.heap.size ≤ gb227)); have GE227 := Sd.mk ((by rw [hg]; exact (bZ (by repeat (first | (with_reducible first | exact HB.1 ) ))) : w.heap.size ≤ gb227)); replace HB := Sd.mk (bT (by repeat (first | (with_reducible first | exact HB.1 ) )) hb); have NB226_227 := Sd.mk ((by rw [hg]; exact Nat.ne_of_lt (blk_lt (g := gb226) (o := .cells #[.int .i64 a0_0, .int .i64 a0_1, .slice A0_2 l0_2.length c0_2, .slice A0_3 l0_3.length c0_3] 25 (0, 0)) (by (with_reducible repeat (fail)); exact BK226.1)) : gb226 ≠ gb227)); have NB227_226 := Sd.mk ((by rw [hg]; exact Nat.ne_of_gt (blk_lt (g := gb226) (o := .cells #[.int .i64 a0_0, .int .i64 a0_1, .slice A0_2 l0_2.length c0_2, .slice A0_3 l0_3.length c0_3] 25 (0, 0)) (by (with_reducible repeat (fail)); exact BK226.1)) : gb227 ≠ gb226)); replace BK226 := Sd.mk (kB (g := gb226) (o := .cells #[.int .i64 a0_0, .int .i64 a0_1, .slice A0_2 l0_2.length c0_2, .slice A0_3 l0_3.length c0_3] 25 (0, 0)) (by (with_reducible repeat (fail)); exact BK226.1) hb); clear hb hbox hg; have hnb20 := NB227_226.1; have hnc20 := NB226_227.1; have z_21_0 : w19.cell? ⟨gb227, 0, none⟩ = some (.int .i64 a1_0) := (kC BK227.1 0).trans rfl; have z_21_2 : w19.cell? ⟨gb227, 2, none⟩ = some (.int .i64 a1_2) := (kC BK227.1 2).trans rfl; have z_22_0 : w19.cell? ⟨gb226, 0, none⟩ = some (.int .i64 a0_0) := (kC BK226.1 0).trans rfl) | ((with_reducible refine gate_callee (f := 23) rfl ?_); refine goesL_ (some 10) rfl rfl Try.func23 (by kernel_rfl) rfl #[.int .i64 a1_0, .int .i64 1, .int .i64 (wrap64 (a0_0 - 1))] rfl (by (try simp only [List.map_toArray, List.map_cons, List.map_nil]); first | rfl ) ?_; (with_reducible refine (glisterref04_In.calls a1_0 1 (wrap64 (a0_0 - 1)) false _ A3.1).mono ?_); rintro e w' ⟨rfl, ⟨nd, rfl⟩⟩; refine ⟨_, rfl, ?_⟩))
  go_ret
  exact ⟨by first | rfl , by repeat (first | (with_reducible first | exact HB.1 | apply bN ) )⟩
end Go.Proofs.Ytnidgkmopocdkaa.P
