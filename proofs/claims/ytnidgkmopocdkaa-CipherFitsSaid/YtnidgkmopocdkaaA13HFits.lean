import Derived.Test.YtnidgkmopocdkaaA13HKeys
namespace Go.Proofs.Ytnidgkmopocdkaa.P
open Go.RowKit Go.Proofs.YtnidgkmopocdkaaW.PrintWords Go.Proofs.YtnidgkmopocdkaaW.PrintLast Go.Proofs.YtnidgkmopocdkaaW.PrintMore
set_option linter.unusedVariables false
set_option linter.unusedSimpArgs false
attribute [local go_sem] Oper.semAt_some
def KeysOut (bc cc gc : Array Value) (w : World) (e : Ending) (w' : World) : Prop := ∃ g1 g2 g3, e = .returned (.func (.func 96) #[] #[.pointer (some ⟨g1, 0, none⟩), .pointer (some ⟨g2, 0, none⟩), .pointer (some ⟨g3, 0, none⟩)]) ∧ w'.heap[g1]? = some (.cells bc 32 (0, 0)) ∧ w'.heap[g2]? = some (.cells cc 23 (0, 0)) ∧ w'.heap[g3]? = some (.cells gc 71 (0, 0)) ∧ w.heap.size ≤ g1 ∧ w.heap.size ≤ g2 ∧ w.heap.size ≤ g3 ∧ Below w.heap.size w w'
set_option maxHeartbeats 2000000 in
set_option maxRecDepth 100000 in
theorem keys_calls (a0_0 : Int) (a0_1 : Int) (A0_2 : Option Addr) (c0_2 : Nat) (l0_2 : List (S91)) (A0_3 : Option Addr) (c0_3 : Nat) (l0_3 : List Int) (A1 : Option Addr) (c1 : Nat) (l1 : List Int) (A2 : Option Addr) (c2 : Nat) (l2 : List (S88)) (w : World) :
  Calls Try.prog 79 #[.agg #[.int .i64 a0_0, .int .i64 a0_1, .slice A0_2 l0_2.length c0_2, .slice A0_3 l0_3.length c0_3], .slice A1 l1.length c1, .slice A2 l2.length c2] w (KeysOut #[.int .i64 a0_0, .int .i64 a0_1, .slice A0_2 l0_2.length c0_2, .slice A0_3 l0_3.length c0_3] #[.slice A1 l1.length c1] #[.slice A2 l2.length c2] w) := by
 have hu32 := Try.underlying32
 have HB := Sd.mk (Below.refl w.heap.size w)
 go_enter Try.func79, Try.ntmps79
 go_wp2_with (first | ((with_reducible refine gD (N := 3) rfl ?_); (try (refine gG (by rfl) ?_; dsimp only)); refine xE ?hg (N := 3) ?hd (cs := #[.int .i64 a0_0, .int .i64 a0_1, .slice A0_2 l0_2.length c0_2, .slice A0_3 l0_3.length c0_3]) (t := 32) ?hr ?_; (case hd => rfl); (case hg => rfl); (case hr => first | (go_simp; done) ); intro g1 hg w1 hbox hb; have BKg1 := Sd.mk hbox; have GEg1 := Sd.mk ((by rw [hg]; exact (bZ (by repeat (first | (with_reducible first | exact HB.1 ) )))) : w.heap.size ≤ g1); replace HB := Sd.mk (bT (by repeat (first | (with_reducible first | exact HB.1 ) )) hb); clear hb hbox hg) | ((with_reducible refine gD (N := 4) rfl ?_); (try (refine gG (by rfl) ?_; dsimp only)); refine xE ?hg (N := 4) ?hd (cs := #[.slice A1 l1.length c1]) (t := 23) ?hr ?_; (case hd => rfl); (case hg => rfl); (case hr => first | (go_simp; done) ); intro g2 hg w2 hbox hb; have n0_ := Sd.mk (bT (by repeat (first | (with_reducible first | exact HB.1 ) )) hb); have n1_ := Sd.mk hbox; have n2_ := Sd.mk ((by rw [hg]; exact (bZ (by repeat (first | (with_reducible first | exact HB.1 ) )))) : w.heap.size ≤ g2); have m0_ := Sd.mk (kB (by (with_reducible repeat (fail)); exact BKg1.1) hb); clear HB; have HB := n0_; have BKg2 := n1_; have GEg2 := n2_; clear n0_ n1_ n2_; clear BKg1; have BKg1 := m0_; clear m0_; clear hb hbox hg) | ((with_reducible refine gD (N := 5) rfl ?_); (try (refine gG (by rfl) ?_; dsimp only)); refine xE ?hg (N := 5) ?hd (cs := #[.slice A2 l2.length c2]) (t := 71) ?hr ?_; (case hd => rfl); (case hg => rfl); (case hr => first | (go_simp; done) ); intro g3 hg w3 hbox hb; have n0_ := Sd.mk (bT (by repeat (first | (with_reducible first | exact HB.1 ) )) hb); have n1_ := Sd.mk hbox; have n2_ := Sd.mk ((by rw [hg]; exact (bZ (by repeat (first | (with_reducible first | exact HB.1 ) )))) : w.heap.size ≤ g3); have m0_ := Sd.mk (kB (by (with_reducible repeat (fail)); exact BKg1.1) hb); have m1_ := Sd.mk (kB (by (with_reducible repeat (fail)); exact BKg2.1) hb); clear HB; have HB := n0_; have BKg3 := n1_; have GEg3 := n2_; clear n0_ n1_ n2_; clear BKg1; have BKg1 := m0_; clear m0_; clear BKg2; have BKg2 := m1_; clear m1_; clear hb hbox hg))
 go_ret
 exact ⟨g1, g2, g3, rfl, by (with_reducible repeat (fail)); exact BKg1.1, by (with_reducible repeat (fail)); exact BKg2.1, by (with_reducible repeat (fail)); exact BKg3.1, GEg1.1, GEg2.1, GEg3.1, by repeat (first | (with_reducible first | exact HB.1 ) )⟩
def fitsV (sz wd : Int) (keys : List S91) (days : List Int) (codes : List Int) (gs : List S88) : Int × Int :=
 if askedV sz wd keys days codes gs ≠ 0 then (0, askedV sz wd keys days codes gs) else if (keysL sz codes gs).length = 0 then (0, 11) else ((((keysL sz codes gs).length : Nat) : Int), 0)
def FitsPost (n : Nat) (w : World) (e : Ending) (w' : World) : Prop := e = .returned (.tuple #[.int .i64 (if n = 0 then 0 else (n : Int)), .int .i64 (if n = 0 then 11 else 0)]) ∧ Below w.heap.size w w'
def cipher_Fits.f (a0_0 : Int) (a0_1 : Int) (l0_2 : List (S91)) (l0_3 : List Int) (l1 : List Int) (l2 : List (S88)) : Option (Int × Int) := some (fitsV a0_0 a0_1 l0_2 l0_3 l1 l2)
theorem asked_ok {sz wd : Int} {keys : List S91} {days : List Int} {codes : List Int} {gs : List S88} (h : askedV sz wd keys days codes gs = 0) : checkB sz wd keys days = 0 ∧ codes.length ≤ 10 ∧ gs.length ≤ 6 ∧ codes.all (plainB sz) = true ∧ gs.all (fineB sz codes.length) = true := by
 unfold askedV at h
 split at h
 ·rename_i h1; exact absurd h h1
 rename_i h1
 split at h
 ·cases h
 split at h
 ·cases h
 split at h
 ·cases h
 rename_i h4
 split at h
 ·cases h
 rename_i h5
 exact ⟨Decidable.not_not.1 h1, by omega, by omega, by simpa using h4, by simpa using h5⟩
theorem check_size {sz wd : Int} {keys : List S91} {days : List Int} (h : checkB sz wd keys days = 0) : 13 ≤ sz ∧ sz ≤ 41 := by
 unfold checkB at h
 split at h
 ·cases h
 split at h
 ·cases h
 split at h
 ·cases h
 rename_i h3
 have := inB_iff.1 (eq_true_of_ne_false h3)
 omega
set_option maxHeartbeats 2000000 in
set_option maxRecDepth 100000 in
theorem fits_no (a0_0 : Int) (a0_1 : Int) (A0_2 : Option Addr) (c0_2 : Nat) (l0_2 : List (S91)) (A0_3 : Option Addr) (c0_3 : Nat) (l0_3 : List Int) (A1 : Option Addr) (c1 : Nat) (l1 : List Int) (A2 : Option Addr) (c2 : Nat) (l2 : List (S88)) (w : World) (hr0_2 : Kd.C k91 w A0_2 l0_2.length l0_2) (hc0_2 : l0_2.length ≤ c0_2) (hr0_3 : Kd.C (Kd.int .i64) w A0_3 l0_3.length l0_3) (hc0_3 : l0_3.length ≤ c0_3) (hr1 : Kd.C (Kd.int .i64) w A1 l1.length l1) (hc1 : l1.length ≤ c1) (hr2 : Kd.C k88 w A2 l2.length l2) (hc2 : l2.length ≤ c2) (h : ¬ askedV a0_0 a0_1 l0_2 l0_3 l1 l2 = 0) :
  Calls Try.prog 40 #[.agg #[.int .i64 a0_0, .int .i64 a0_1, .slice A0_2 l0_2.length c0_2, .slice A0_3 l0_3.length c0_3], .slice A1 l1.length c1, .slice A2 l2.length c2] w fun e w' => e = .returned (.tuple #[.int .i64 0, .int .i64 (askedV a0_0 a0_1 l0_2 l0_3 l1 l2)]) ∧ Below w.heap.size w w' := by
 have hu32 := Try.underlying32
 have HR0_2 := Sd.mk hr0_2
 have HC0_2 := Sd.mk hc0_2
 have HR0_3 := Sd.mk hr0_3
 have HC0_3 := Sd.mk hc0_3
 have HR1 := Sd.mk hr1
 have HC1 := Sd.mk hc1
 have HR2 := Sd.mk hr2
 have HC2 := Sd.mk hc2
 clear hr0_2 hc0_2 hr0_3 hc0_3 hr1 hc1 hr2 hc2
 have HB := Sd.mk (Below.refl w.heap.size w)
 have f1 : (askedV a0_0 a0_1 l0_2 l0_3 l1 l2 == 0) = false := beq_eq_false_iff_ne.2 h
 have f1b : (askedV a0_0 a0_1 l0_2 l0_3 l1 l2 != 0) = true := bne_iff_ne.2 h
 clear h
 go_enter Try.func40, Try.ntmps40
 go_wp2_with (first | ((with_reducible refine gD (N := 3) rfl ?_); (try (refine gG (by rfl) ?_; dsimp only)); refine xE ?hg (N := 3) ?hd (cs := #[.int .i64 a0_0, .int .i64 a0_1, .slice A0_2 l0_2.length c0_2, .slice A0_3 l0_3.length c0_3]) (t := 32) ?hr ?_; (case hd => rfl); (case hg => rfl); (case hr => first | (go_simp; done) ); intro gb hg w1 hbox hb; have BKgb := Sd.mk hbox; have GEgb := Sd.mk ((by rw [hg]; exact (bZ (by repeat (first | (with_reducible first | exact HB.1 ) )))) : w.heap.size ≤ gb); replace HB := Sd.mk (bT (by repeat (first | (with_reducible first | exact HB.1 ) )) hb); clear hb hbox hg; have z_w1gb_0 : w1.cell? ⟨gb, 0, none⟩ = some (.int .i64 a0_0) := (kC BKgb.1 0).trans rfl; have z_w1gb_1 : w1.cell? ⟨gb, 1, none⟩ = some (.int .i64 a0_1) := (kC BKgb.1 1).trans rfl; have z_w1gb_2 : w1.cell? ⟨gb, 2, none⟩ = some (.slice A0_2 l0_2.length c0_2) := (kC BKgb.1 2).trans rfl; have z_w1gb_3 : w1.cell? ⟨gb, 3, none⟩ = some (.slice A0_3 l0_3.length c0_3) := (kC BKgb.1 3).trans rfl) | (go_at_call 78; refine (cipher_Book_asked.calls a0_0 a0_1 _ _ l0_2 _ _ l0_3 _ _ l1 _ _ l2 _ _ (Kd.C_below HR0_2.1 (by repeat (first | (with_reducible first | exact HB.1 ) ))) HC0_2.1 (Kd.C_below HR0_3.1 (by repeat (first | (with_reducible first | exact HB.1 ) ))) HC0_3.1 (Kd.C_below HR1.1 (by repeat (first | (with_reducible first | exact HB.1 ) ))) HC1.1 (Kd.C_below HR2.1 (by repeat (first | (with_reducible first | exact HB.1 ) ))) HC2.1 rfl).mono ?_; rintro e w3 ⟨rfl, hb⟩; have n0_ := Sd.mk (bT (by repeat (first | (with_reducible first | exact HB.1 ) )) hb); have m0_ := Sd.mk (kB (by (with_reducible repeat (fail)); exact BKgb.1) hb); clear HB; have HB := n0_; clear n0_; clear BKgb; have BKgb := m0_; clear m0_; clear hb))
 exact bodyPost_ret (v := .tuple #[.int .i64 0, .int .i64 (askedV a0_0 a0_1 l0_2 l0_3 l1 l2)]) (by simp [results, Try.results40, go_sem]) rfl ⟨rfl, by repeat (first | (with_reducible first | exact HB.1 ) )⟩
set_option maxHeartbeats 4000000 in
set_option maxRecDepth 100000 in
theorem fits_yes (a0_0 : Int) (a0_1 : Int) (A0_2 : Option Addr) (c0_2 : Nat) (l0_2 : List (S91)) (A0_3 : Option Addr) (c0_3 : Nat) (l0_3 : List Int) (A1 : Option Addr) (c1 : Nat) (l1 : List Int) (A2 : Option Addr) (c2 : Nat) (l2 : List (S88)) (w : World) (hr0_2 : Kd.C k91 w A0_2 l0_2.length l0_2) (hc0_2 : l0_2.length ≤ c0_2) (hr0_3 : Kd.C (Kd.int .i64) w A0_3 l0_3.length l0_3) (hc0_3 : l0_3.length ≤ c0_3) (hr1 : Kd.C (Kd.int .i64) w A1 l1.length l1) (hc1 : l1.length ≤ c1) (hr2 : Kd.C k88 w A2 l2.length l2) (hc2 : l2.length ≤ c2) (h : askedV a0_0 a0_1 l0_2 l0_3 l1 l2 = 0) :
  Calls Try.prog 40 #[.agg #[.int .i64 a0_0, .int .i64 a0_1, .slice A0_2 l0_2.length c0_2, .slice A0_3 l0_3.length c0_3], .slice A1 l1.length c1, .slice A2 l2.length c2] w (FitsPost (keysL a0_0 l1 l2).length w) := by
 have hu32 := Try.underlying32
 have HR0_2 := Sd.mk hr0_2
 have HC0_2 := Sd.mk hc0_2
 have HR0_3 := Sd.mk hr0_3
 have HC0_3 := Sd.mk hc0_3
 have HR1 := Sd.mk hr1
 have HC1 := Sd.mk hc1
 have HR2 := Sd.mk hr2
 have HC2 := Sd.mk hc2
 clear hr0_2 hc0_2 hr0_3 hc0_3 hr1 hc1 hr2 hc2
 have HB := Sd.mk (Below.refl w.heap.size w)
 have f1 : (askedV a0_0 a0_1 l0_2 l0_3 l1 l2 == 0) = true := beq_iff_eq.2 h
 have f1b : (askedV a0_0 a0_1 l0_2 l0_3 l1 l2 != 0) = false := bne_eq_false_iff_eq.2 h
 have HOK := Sd.mk (asked_ok h)
 clear h
 have HSZ := Sd.mk (check_size HOK.1.1)
 refine (callsIn_wide (n := 9)).1 (callsIn_of_wp_marks Try.func40 rfl trivial ?_ rfl)
 simp only [Try.ntmps40, List.size_toArray, List.length_cons, List.length_nil, Nat.reduceAdd, Nat.reduceSub, Array.replicate_succ, Array.replicate_zero, List.push_toArray, List.append_toArray, List.nil_append, List.cons_append]
 refine wpIn_wide.2 ?_
 go_wp2_with (first | ((with_reducible refine gD (N := 3) rfl ?_); (try (refine gG (by rfl) ?_; dsimp only)); refine xE ?hg (N := 3) ?hd (cs := #[.int .i64 a0_0, .int .i64 a0_1, .slice A0_2 l0_2.length c0_2, .slice A0_3 l0_3.length c0_3]) (t := 32) ?hr ?_; (case hd => rfl); (case hg => rfl); (case hr => first | (go_simp; done) ); intro gb hg w1 hbox hb; have BKgb := Sd.mk hbox; have GEgb := Sd.mk ((by rw [hg]; exact (bZ (by repeat (first | (with_reducible first | exact HB.1 ) )))) : w.heap.size ≤ gb); replace HB := Sd.mk (bT (by repeat (first | (with_reducible first | exact HB.1 ) )) hb); clear hb hbox hg; have z_w1gb_0 : w1.cell? ⟨gb, 0, none⟩ = some (.int .i64 a0_0) := (kC BKgb.1 0).trans rfl; have z_w1gb_1 : w1.cell? ⟨gb, 1, none⟩ = some (.int .i64 a0_1) := (kC BKgb.1 1).trans rfl; have z_w1gb_2 : w1.cell? ⟨gb, 2, none⟩ = some (.slice A0_2 l0_2.length c0_2) := (kC BKgb.1 2).trans rfl; have z_w1gb_3 : w1.cell? ⟨gb, 3, none⟩ = some (.slice A0_3 l0_3.length c0_3) := (kC BKgb.1 3).trans rfl) | ((with_reducible refine gD (N := 9) rfl ?_); (try (refine gG (by rfl) ?_; dsimp only)); refine xE ?hg (N := 9) ?hd (cs := #[.int .i64 0]) (t := 3) ?hr ?_; (case hd => rfl); (case hg => rfl); (case hr => first | (go_simp; done) ); intro gm hg w4 hbox hb; have n0_ := Sd.mk (bT (by repeat (first | (with_reducible first | exact HB.1 ) )) hb); have n1_ := Sd.mk hbox; have n2_ := Sd.mk ((by rw [hg]; exact (bZ (by repeat (first | (with_reducible first | exact HB.1 ) )))) : w.heap.size ≤ gm); have m0_ := Sd.mk (kB (by (with_reducible repeat (fail)); exact BKgb.1) hb); clear HB; have HB := n0_; have BKgm := n1_; have GEgm := n2_; clear n0_ n1_ n2_; clear BKgb; have BKgb := m0_; clear m0_; clear hb hbox hg; have z_w4gm_0 : w4.cell? ⟨gm, 0, none⟩ = some (.int .i64 0) := (kC BKgm.1 0).trans rfl; have hfzw4gm_0 := kF BKgm.1 0) | ((with_reducible refine gate_store (t := 3) (p := 9) rfl ?_); refine store_event (t := 3) (p := 9) (v := ?vo) (w1 := (w4.setCell ⟨gm, 0, none⟩ (.int .i64 0))) ?hg ?ho ?hn ?hr ?_; (case ho => rfl); (case hg => rfl); (case hn => rfl); (case hr => first | (go_simp; done) ); intro w5 hw5; have m0_ : Sd (w5.heap[gb]? = some (.cells #[.int .i64 a0_0, .int .i64 a0_1, .slice A0_2 l0_2.length c0_2, .slice A0_3 l0_3.length c0_3] 32 (0, 0))) := ⟨by rw [hw5]; exact blk_far (p := ⟨gm, 0, none⟩) BKgb.1 (blk_ne BKgb.1 BKgm.1 (by decide)) _⟩; have m1_ : Sd (w5.heap[gm]? = some (.cells #[.int .i64 0] 3 (0, 0))) := ⟨by rw [hw5]; exact blk_put BKgm.1 0 _ rfl⟩; have m2_ : Sd (Below w.heap.size w w5) := ⟨by rw [hw5]; exact bS HB.1 GEgm.1⟩; clear hw5 BKgb BKgm HB; have BKgb := m0_; have BKgm := m1_; have HB := m2_; clear m0_ m1_ m2_; have hczsgb_0 : w5.cell? ⟨gb, 0, none⟩ = some (.int .i64 a0_0) := (kC BKgb.1 0).trans rfl; have hczsgb_1 : w5.cell? ⟨gb, 1, none⟩ = some (.int .i64 a0_1) := (kC BKgb.1 1).trans rfl; have hczsgb_2 : w5.cell? ⟨gb, 2, none⟩ = some (.slice A0_2 l0_2.length c0_2) := (kC BKgb.1 2).trans rfl; have hczsgb_3 : w5.cell? ⟨gb, 3, none⟩ = some (.slice A0_3 l0_3.length c0_3) := (kC BKgb.1 3).trans rfl; have hczsgm_0 : w5.cell? ⟨gm, 0, none⟩ = some (.int .i64 0) := (kC BKgm.1 0).trans rfl; have hfzsgm_0 := kF BKgm.1 0) | (go_at_call 78; refine (cipher_Book_asked.calls a0_0 a0_1 _ _ l0_2 _ _ l0_3 _ _ l1 _ _ l2 _ _ (Kd.C_below HR0_2.1 (by repeat (first | (with_reducible first | exact HB.1 ) ))) HC0_2.1 (Kd.C_below HR0_3.1 (by repeat (first | (with_reducible first | exact HB.1 ) ))) HC0_3.1 (Kd.C_below HR1.1 (by repeat (first | (with_reducible first | exact HB.1 ) ))) HC1.1 (Kd.C_below HR2.1 (by repeat (first | (with_reducible first | exact HB.1 ) ))) HC2.1 rfl).mono ?_; rintro e w3 ⟨rfl, hb⟩; have n0_ := Sd.mk (bT (by repeat (first | (with_reducible first | exact HB.1 ) )) hb); have m0_ := Sd.mk (kB (by (with_reducible repeat (fail)); exact BKgb.1) hb); clear HB; have HB := n0_; clear n0_; clear BKgb; have BKgb := m0_; clear m0_; clear hb) | (go_at_call 79; refine (keys_calls a0_0 a0_1 A0_2 c0_2 l0_2 A0_3 c0_3 l0_3 A1 c1 l1 A2 c2 l2 _).mono ?_; rintro e w6 ⟨g1, g2, g3, rfl, hk1, hk2, hk3, hk4, hk5, hk6, hb⟩; have BKg1 := Sd.mk hk1; have BKg2 := Sd.mk hk2; have BKg3 := Sd.mk hk3; have NM1 := Sd.mk (show g1 ≠ gm from fun h => by have := blk_lt BKgm.1; omega); have NM2 := Sd.mk (show g2 ≠ gm from fun h => by have := blk_lt BKgm.1; omega); have NM3 := Sd.mk (show g3 ≠ gm from fun h => by have := blk_lt BKgm.1; omega); clear hk1 hk2 hk3 hk4 hk5 hk6; have n0_ := Sd.mk (bT (by repeat (first | (with_reducible first | exact HB.1 ) )) hb); have m0_ := Sd.mk (kB (by (with_reducible repeat (fail)); exact BKgb.1) hb); have m1_ := Sd.mk (kB (by (with_reducible repeat (fail)); exact BKgm.1) hb); clear HB; have HB := n0_; clear n0_; clear BKgb; have BKgb := m0_; clear m0_; clear BKgm; have BKgm := m1_; clear m1_; clear hb; have z_w6gm_0 : w6.cell? ⟨gm, 0, none⟩ = some (.int .i64 0) := (kC BKgm.1 0).trans rfl; have hfzw6gm_0 := kF BKgm.1 0))
 refine wpIn_wide (n := 9).1 ?_
 refine wpIn_rangeFunc_ownF rfl (by decide) (gf := 96) (lb := #[.pointer (some ⟨g1, 0, none⟩), .pointer (some ⟨g2, 0, none⟩), .pointer (some ⟨g3, 0, none⟩)]) rfl trivial (enters_of Try.func96 (by kernel_rfl) rfl)
  (α := S91) (encs := fun x => #[encS91 x]) (Kp := KpB w.heap.size (fun k => k = gm)) (S := fun xs => xs = keysL a0_0 l1 l2) (Sp := fun _ => True) (N := 100000) (w0 := w6)
  (fun l J Jx W hW hJ hJx hY h0 => callsIn_wide.2 ((keys1_calls a0_0 a0_1 A0_2 c0_2 l0_2 A0_3 c0_3 l0_3 A1 c1 l1 A2 c2 l2 _ l g1 g2 g3 (fun k => k = gm) J Jx w W HR0_2.1 HC0_2.1 HR0_3.1 HC0_3.1 HR1.1 HC1.1 HR2.1 HC2.1 (by have := HSZ.1; omega) HSZ.1.2 (by have := HOK.1.2.1; omega) HOK.1.2.2.2.2 (bT HB.1 hW) (kB BKg1.1 hW) (kB BKg2.1 hW) (kB BKg3.1 hW) (fun k hk => by subst hk; exact ⟨Nat.lt_of_lt_of_le (blk_lt BKgm.1) hW.size, NM1.1.symm, NM2.1.symm, NM3.1.symm⟩) hJ (fun pre x W1 q1 q2 _ => hY pre x W1 q1 q2) h0)))
  KpB_t (KpB_b HB.1.size) (Below.refl _ _) (fun _ => rfl)
  (fun pre W => (W.cell? ⟨gm, 0, none⟩ = some (.int .i64 (pre.length : Int)) ∧ W.frozen? ⟨gm, 0, none⟩ = false) ∧ Below w.heap.size w W)
  (fun _ _ _ => False)
  (OwnFrom.and (Own.from (fun s A B row hs hg hr => ⟨cell_kept hs.1 hg hr, (frozen_kept hs.1 hg hr).trans hs.2⟩) _) (ownFrom_below (Nat.le_refl _) HB.1.size))
  (fun _ _ _ _ _ hs _ _ => hs)
  ⟨⟨(kC BKgm.1 0).trans rfl, kF BKgm.1 0⟩, HB.1⟩
  ?a1 ?assign ?body ?done ?stop
 case a1 => exact fun x => { tmps := #[.agg #[.int .i64 a0_0, .int .i64 a0_1, .slice A0_2 l0_2.length c0_2, .slice A0_3 l0_3.length c0_3], .slice A1 l1.length c1, .slice A2 l2.length c2, .pointer (some ⟨gb, 0, none⟩), undef, undef, .int .i64 0, .int .i64 0, .int .i64 (askedV a0_0 a0_1 l0_2 l0_3 l1 l2), .pointer (some ⟨gm, 0, none⟩), .agg #[.int .i64 a0_0, .int .i64 a0_1, .slice A0_2 l0_2.length c0_2, .slice A0_3 l0_3.length c0_3], .slice A1 l1.length c1, .slice A2 l2.length c2, .int .i64 (askedV a0_0 a0_1 l0_2 l0_3 l1 l2), .int .i64 (askedV a0_0 a0_1 l0_2 l0_3 l1 l2), .bool false, undef, .agg #[.int .i64 a0_0, .int .i64 a0_1, .slice A0_2 l0_2.length c0_2, .slice A0_3 l0_3.length c0_3], .slice A1 l1.length c1, .slice A2 l2.length c2, .func (.func 96) #[] #[.pointer (some ⟨g1, 0, none⟩), .pointer (some ⟨g2, 0, none⟩), .pointer (some ⟨g3, 0, none⟩)], .agg #[.int .i64 x.f0, .int .i64 x.f1, .int .i64 x.f2], undef, undef, undef, undef, undef], defers := [] }
 case assign =>
  intro l x W K hK
  refine wpIn_skip ?_
  simpa [Exit.then, encS91] using hK
 case body =>
  rintro l pre x W ⟨⟨hc, hf⟩, hB⟩ hlt
  gi_wp2
  refine ⟨KeepsOthers.setCell _ _ _, ⟨(Below.refl w.heap.size W).setCell (p := ⟨gm, 0, none⟩) GEgm.1 _, fun k cs t hk hcs => (Below.heap_setCell W ⟨gm, 0, none⟩ _ k hk).trans hcs⟩, ⟨?_, by rw [World.frozen?_setCell]; exact hf⟩, hB.setCell (p := ⟨gm, 0, none⟩) GEgm.1 _⟩
  rw [List.length_append]
  exact World.cell?_setCell_same' _ _ _ (by rw [hc]; rfl)
 case done =>
  rintro D ys W hD rfl ⟨⟨hc, hf⟩, hB⟩ hK
  obtain ⟨q, hq⟩ : ∃ q, q = (keysL a0_0 l1 l2).length := ⟨_, rfl⟩
  rw [← hq] at hc
  have HQ := Sd.mk hq
  clear hq
  gi_wp2
  by_cases hz : q = 0
  ·subst hz
   go_wp2
   refine ⟨by simp, .inl ⟨_, _, rfl, run_takeDeferred hK, ?_⟩⟩
   exact ⟨.tuple #[.int .i64 0, .int .i64 11], by simp [results, Try.results40, go_sem], by rw [← HQ.1]; rfl, hB.trans (belowK_b (w := w) (Nat.le_refl _) W D _ _ (Nat.le_trans HB.1.size hD) hK rfl rfl)⟩
  ·have fz : ((q : Int) == 0) = false := beq_eq_false_iff_ne.2 (by omega)
   have HZ := Sd.mk hz
   clear hz
   go_wp2
   refine ⟨by simp, .inl ⟨_, _, rfl, run_takeDeferred hK, ?_⟩⟩
   exact ⟨.tuple #[.int .i64 (q : Int), .int .i64 0], by simp [results, Try.results40, go_sem], by rw [← HQ.1, if_neg HZ.1, if_neg HZ.1], hB.trans (belowK_b (w := w) (Nat.le_refl _) W D _ _ (Nat.le_trans HB.1.size hD) hK rfl rfl)⟩
 case stop =>
  rintro D c pre W _ _ h _
  exact h.elim
theorem cipher_Fits.calls (a0_0 : Int) (a0_1 : Int) (A0_2 : Option Addr) (c0_2 : Nat) (l0_2 : List (S91)) (A0_3 : Option Addr) (c0_3 : Nat) (l0_3 : List Int) (A1 : Option Addr) (c1 : Nat) (l1 : List Int) (A2 : Option Addr) (c2 : Nat) (l2 : List (S88)) (r1 : Int) (r2 : Int) (w : World) (hr0_2 : Kd.C k91 w A0_2 l0_2.length l0_2) (hc0_2 : l0_2.length ≤ c0_2) (hr0_3 : Kd.C (Kd.int .i64) w A0_3 l0_3.length l0_3) (hc0_3 : l0_3.length ≤ c0_3) (hr1 : Kd.C (Kd.int .i64) w A1 l1.length l1) (hc1 : l1.length ≤ c1) (hr2 : Kd.C k88 w A2 l2.length l2) (hc2 : l2.length ≤ c2) (h : cipher_Fits.f a0_0 a0_1 l0_2 l0_3 l1 l2 = some (r1, r2)) :
  Calls Try.prog 40 #[.agg #[.int .i64 a0_0, .int .i64 a0_1, .slice A0_2 l0_2.length c0_2, .slice A0_3 l0_3.length c0_3], .slice A1 l1.length c1, .slice A2 l2.length c2] w fun e w' => e = .returned (.tuple #[.int .i64 r1, .int .i64 r2]) ∧ Below w.heap.size w w' := by
 have hr := Option.some.inj h
 clear h
 rw [show r1 = (r1, r2).1 from rfl, show r2 = (r1, r2).2 from rfl, ← hr]
 clear hr
 unfold fitsV
 by_cases h : askedV a0_0 a0_1 l0_2 l0_3 l1 l2 = 0
 ·rw [if_neg (fun h2 => h2 h)]
  have := fits_yes a0_0 a0_1 A0_2 c0_2 l0_2 A0_3 c0_3 l0_3 A1 c1 l1 A2 c2 l2 w hr0_2 hc0_2 hr0_3 hc0_3 hr1 hc1 hr2 hc2 h
  unfold FitsPost at this
  split <;> rename_i hz <;> simpa [hz] using this
 ·rw [if_pos h]
  exact fits_no a0_0 a0_1 A0_2 c0_2 l0_2 A0_3 c0_3 l0_3 A1 c1 l1 A2 c2 l2 w hr0_2 hc0_2 hr0_3 hc0_3 hr1 hc1 hr2 hc2 h
end Go.Proofs.Ytnidgkmopocdkaa.P
