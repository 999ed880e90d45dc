import Derived.Test.YtnidgkmopocdkaaA9HPlan
namespace Go.Proofs.Ytnidgkmopocdkaa.P
open Go.RowKit Go.Proofs.YtnidgkmopocdkaaW.PrintWords Go.Proofs.YtnidgkmopocdkaaW.PrintLast Go.Proofs.YtnidgkmopocdkaaW.PrintMore
set_option linter.unusedVariables false
set_option linter.unusedSimpArgs false
def provL (lost : List S110) (most : Int) : Sp → List Int → Int → Bool
 | _, [], c => decide (0 ≤ c)
 | s, k :: l, c => if mayB lost most s k = true then provL lost most (s.next k) l (c - chgV s k) else false
def provV (sz wd : Int) (keys : List S91) (days : List Int) (lost : List S110) (most : Int) (l : List Int) (c : Int) : Bool :=
 if lossesV sz wd keys days lost ≠ 0 then false else if inB most 0 8 = false then false else if l.length ≠ days.length then false else if l.all (ownB keys.length) = false then false else if c < 0 then false else provL lost most sp0 l c
def cipher_ProvePlan.f (a0_0 : Int) (a0_1 : Int) (l0_2 : List (S91)) (l0_3 : List Int) (l1 : List (S110)) (a2 : Int) (l3 : List Int) (a4 : Int) : Option (Bool) := if 2000000 < a4 then none else some (provV a0_0 a0_1 l0_2 l0_3 l1 a2 l3 a4)
set_option maxHeartbeats 4000000 in
set_option maxRecDepth 100000 in
theorem prove_0 (a0_0 : Int) (a0_1 : Int) (A0_2 : Option Addr) (c0_2 : Nat) (l0_2 : List (S91)) (A0_3 : Option Addr) (c0_3 : Nat) (l0_3 : List Int) (A1 : Option Addr) (c1 : Nat) (l1 : List (S110)) (a2 : Int) (A3 : Option Addr) (c3 : Nat) (l3 : List Int) (a4 : Int) (w : World) (hr0_2 : Kd.C k91 w A0_2 l0_2.length l0_2) (hc0_2 : l0_2.length ≤ c0_2) (hr0_3 : Kd.C (Kd.int .i64) w A0_3 l0_3.length l0_3) (hc0_3 : l0_3.length ≤ c0_3) (hr1 : Kd.C k110 w A1 l1.length l1) (hc1 : l1.length ≤ c1) (hr3 : Kd.C (Kd.int .i64) w A3 l3.length l3) (hc3 : l3.length ≤ c3) (hlo : ¬ lossesV a0_0 a0_1 l0_2 l0_3 l1 = 0) :
  Calls Try.prog 38 #[.agg #[.int .i64 a0_0, .int .i64 a0_1, .slice A0_2 l0_2.length c0_2, .slice A0_3 l0_3.length c0_3], .slice A1 l1.length c1, .int .i64 a2, .slice A3 l3.length c3, .int .i64 a4] w fun e w' => e = .returned (.bool false) ∧ Below w.heap.size w w' := by
 have hu32 := Try.underlying32
 have hu116 := Try.underlying116
 have hu121 := Try.underlying121
 have HR0_2 := Sd.mk hr0_2
 have HC0_2 := Sd.mk hc0_2
 have HR0_3 := Sd.mk hr0_3
 have HC0_3 := Sd.mk hc0_3
 have HR1 := Sd.mk hr1
 have HC1 := Sd.mk hc1
 have HR3 := Sd.mk hr3
 clear hr0_2 hc0_2 hr0_3 hc0_3 hr1 hc1 hr3 hc3
 have HB := Sd.mk (Below.refl w.heap.size w)
 have fl1 : (lossesV a0_0 a0_1 l0_2 l0_3 l1 == 0) = false := beq_eq_false_iff_ne.2 hlo
 have fl2 : (lossesV a0_0 a0_1 l0_2 l0_3 l1 != 0) = true := bne_iff_ne.2 hlo
 clear hlo
 go_enter Try.func38, Try.ntmps38
 go_wp2_with (first | ((with_reducible refine gD (N := 5) rfl ?_); (try (refine gG (by rfl) ?_; dsimp only)); refine xE ?hg (N := 5) ?hd (cs := #[.int .i64 a0_0, .int .i64 a0_1, .slice A0_2 l0_2.length c0_2, .slice A0_3 l0_3.length c0_3]) (t := 32) ?hr ?_; (case hd => rfl); (case hg => rfl); (case hr => first | (go_simp; done) ); intro gb hg w1 hbox hb; have BKgb := Sd.mk hbox; have GEgb := Sd.mk ((by rw [hg]; exact (bZ (by repeat (first | (with_reducible first | exact HB.1 ) )))) : w.heap.size ≤ gb); replace HB := Sd.mk (bT (by repeat (first | (with_reducible first | exact HB.1 ) )) hb); clear hb hbox hg; have z_w1gb_0 : w1.cell? ⟨gb, 0, none⟩ = some (.int .i64 a0_0) := (kC BKgb.1 0).trans rfl; have z_w1gb_1 : w1.cell? ⟨gb, 1, none⟩ = some (.int .i64 a0_1) := (kC BKgb.1 1).trans rfl; have z_w1gb_2 : w1.cell? ⟨gb, 2, none⟩ = some (.slice A0_2 l0_2.length c0_2) := (kC BKgb.1 2).trans rfl; have z_w1gb_3 : w1.cell? ⟨gb, 3, none⟩ = some (.slice A0_3 l0_3.length c0_3) := (kC BKgb.1 3).trans rfl) | (go_at_call 71; (with_reducible refine (cipher_Book_losses.calls a0_0 a0_1 _ _ l0_2 _ _ l0_3 _ _ l1 _ _ (Kd.C_below HR0_2.1 (by repeat (first | (with_reducible first | exact HB.1 ) ))) HC0_2.1 (Kd.C_below HR0_3.1 (by repeat (first | (with_reducible first | exact HB.1 ) ))) HC0_3.1 (Kd.C_below HR1.1 (by repeat (first | (with_reducible first | exact HB.1 ) ))) HC1.1 (losses_f _ _ _ _ _)).mono ?_); rintro e w3 ⟨rfl, hb⟩; have n0_ := Sd.mk (bT (by repeat (first | (with_reducible first | exact HB.1 ) )) hb); have m0_ := Sd.mk (kB (by (with_reducible repeat (fail)); exact BKgb.1) hb); clear HB; have HB := n0_; clear n0_; clear BKgb; have BKgb := m0_; clear m0_; clear hb; have z_w3gb_3 : w3.cell? ⟨gb, 3, none⟩ = some (.slice A0_3 l0_3.length c0_3) := (kC BKgb.1 3).trans rfl) )
 go_ret
 exact ⟨rfl, by repeat (first | (with_reducible first | exact HB.1 ) )⟩
set_option maxHeartbeats 4000000 in
set_option maxRecDepth 100000 in
theorem prove_1 (a0_0 : Int) (a0_1 : Int) (A0_2 : Option Addr) (c0_2 : Nat) (l0_2 : List (S91)) (A0_3 : Option Addr) (c0_3 : Nat) (l0_3 : List Int) (A1 : Option Addr) (c1 : Nat) (l1 : List (S110)) (a2 : Int) (A3 : Option Addr) (c3 : Nat) (l3 : List Int) (a4 : Int) (w : World) (hr0_2 : Kd.C k91 w A0_2 l0_2.length l0_2) (hc0_2 : l0_2.length ≤ c0_2) (hr0_3 : Kd.C (Kd.int .i64) w A0_3 l0_3.length l0_3) (hc0_3 : l0_3.length ≤ c0_3) (hr1 : Kd.C k110 w A1 l1.length l1) (hc1 : l1.length ≤ c1) (hr3 : Kd.C (Kd.int .i64) w A3 l3.length l3) (hc3 : l3.length ≤ c3) (hlo : lossesV a0_0 a0_1 l0_2 l0_3 l1 = 0) (hmo : inB a2 0 8 = false) :
  Calls Try.prog 38 #[.agg #[.int .i64 a0_0, .int .i64 a0_1, .slice A0_2 l0_2.length c0_2, .slice A0_3 l0_3.length c0_3], .slice A1 l1.length c1, .int .i64 a2, .slice A3 l3.length c3, .int .i64 a4] w fun e w' => e = .returned (.bool false) ∧ Below w.heap.size w w' := by
 have hu32 := Try.underlying32
 have hu116 := Try.underlying116
 have hu121 := Try.underlying121
 have HR0_2 := Sd.mk hr0_2
 have HC0_2 := Sd.mk hc0_2
 have HR0_3 := Sd.mk hr0_3
 have HC0_3 := Sd.mk hc0_3
 have HR1 := Sd.mk hr1
 have HC1 := Sd.mk hc1
 have HR3 := Sd.mk hr3
 clear hr0_2 hc0_2 hr0_3 hc0_3 hr1 hc1 hr3 hc3
 have HB := Sd.mk (Below.refl w.heap.size w)
 have HK := Sd.mk (losses_small hlo).1
 have HD := Sd.mk (losses_small hlo).2.1
 have HL := Sd.mk (losses_small hlo).2.2
 have fl1 : (lossesV a0_0 a0_1 l0_2 l0_3 l1 == 0) = true := beq_iff_eq.2 hlo
 have fl2 : (lossesV a0_0 a0_1 l0_2 l0_3 l1 != 0) = false := bne_eq_false_iff_eq.2 hlo
 clear hlo
 go_enter Try.func38, Try.ntmps38
 go_wp2_with (first | ((with_reducible refine gD (N := 5) rfl ?_); (try (refine gG (by rfl) ?_; dsimp only)); refine xE ?hg (N := 5) ?hd (cs := #[.int .i64 a0_0, .int .i64 a0_1, .slice A0_2 l0_2.length c0_2, .slice A0_3 l0_3.length c0_3]) (t := 32) ?hr ?_; (case hd => rfl); (case hg => rfl); (case hr => first | (go_simp; done) ); intro gb hg w1 hbox hb; have BKgb := Sd.mk hbox; have GEgb := Sd.mk ((by rw [hg]; exact (bZ (by repeat (first | (with_reducible first | exact HB.1 ) )))) : w.heap.size ≤ gb); replace HB := Sd.mk (bT (by repeat (first | (with_reducible first | exact HB.1 ) )) hb); clear hb hbox hg; have z_w1gb_0 : w1.cell? ⟨gb, 0, none⟩ = some (.int .i64 a0_0) := (kC BKgb.1 0).trans rfl; have z_w1gb_1 : w1.cell? ⟨gb, 1, none⟩ = some (.int .i64 a0_1) := (kC BKgb.1 1).trans rfl; have z_w1gb_2 : w1.cell? ⟨gb, 2, none⟩ = some (.slice A0_2 l0_2.length c0_2) := (kC BKgb.1 2).trans rfl; have z_w1gb_3 : w1.cell? ⟨gb, 3, none⟩ = some (.slice A0_3 l0_3.length c0_3) := (kC BKgb.1 3).trans rfl) | (go_at_call 71; (with_reducible refine (cipher_Book_losses.calls a0_0 a0_1 _ _ l0_2 _ _ l0_3 _ _ l1 _ _ (Kd.C_below HR0_2.1 (by repeat (first | (with_reducible first | exact HB.1 ) ))) HC0_2.1 (Kd.C_below HR0_3.1 (by repeat (first | (with_reducible first | exact HB.1 ) ))) HC0_3.1 (Kd.C_below HR1.1 (by repeat (first | (with_reducible first | exact HB.1 ) ))) HC1.1 (losses_f _ _ _ _ _)).mono ?_); rintro e w3 ⟨rfl, hb⟩; have n0_ := Sd.mk (bT (by repeat (first | (with_reducible first | exact HB.1 ) )) hb); have m0_ := Sd.mk (kB (by (with_reducible repeat (fail)); exact BKgb.1) hb); clear HB; have HB := n0_; clear n0_; clear BKgb; have BKgb := m0_; clear m0_; clear hb; have z_w3gb_3 : w3.cell? ⟨gb, 3, none⟩ = some (.slice A0_3 l0_3.length c0_3) := (kC BKgb.1 3).trans rfl) | (go_at_call 51; (with_reducible refine (cipher_within.calls _ _ _ _ _ (within_f _ _ _)).mono ?_); rintro e w' ⟨rfl, ⟨nd, rfl⟩⟩))
 go_ret
 exact ⟨rfl, by repeat (first | (with_reducible first | exact HB.1 | apply bN ) )⟩
set_option maxHeartbeats 4000000 in
set_option maxRecDepth 100000 in
theorem prove_2 (a0_0 : Int) (a0_1 : Int) (A0_2 : Option Addr) (c0_2 : Nat) (l0_2 : List (S91)) (A0_3 : Option Addr) (c0_3 : Nat) (l0_3 : List Int) (A1 : Option Addr) (c1 : Nat) (l1 : List (S110)) (a2 : Int) (A3 : Option Addr) (c3 : Nat) (l3 : List Int) (a4 : Int) (w : World) (hr0_2 : Kd.C k91 w A0_2 l0_2.length l0_2) (hc0_2 : l0_2.length ≤ c0_2) (hr0_3 : Kd.C (Kd.int .i64) w A0_3 l0_3.length l0_3) (hc0_3 : l0_3.length ≤ c0_3) (hr1 : Kd.C k110 w A1 l1.length l1) (hc1 : l1.length ≤ c1) (hr3 : Kd.C (Kd.int .i64) w A3 l3.length l3) (hc3 : l3.length ≤ c3) (hlo : lossesV a0_0 a0_1 l0_2 l0_3 l1 = 0) (hmo : inB a2 0 8 = true) (hle : ¬ l3.length = l0_3.length) :
  Calls Try.prog 38 #[.agg #[.int .i64 a0_0, .int .i64 a0_1, .slice A0_2 l0_2.length c0_2, .slice A0_3 l0_3.length c0_3], .slice A1 l1.length c1, .int .i64 a2, .slice A3 l3.length c3, .int .i64 a4] w fun e w' => e = .returned (.bool false) ∧ Below w.heap.size w w' := by
 have hu32 := Try.underlying32
 have hu116 := Try.underlying116
 have hu121 := Try.underlying121
 have HR0_2 := Sd.mk hr0_2
 have HC0_2 := Sd.mk hc0_2
 have HR0_3 := Sd.mk hr0_3
 have HC0_3 := Sd.mk hc0_3
 have HR1 := Sd.mk hr1
 have HC1 := Sd.mk hc1
 have HR3 := Sd.mk hr3
 clear hr0_2 hc0_2 hr0_3 hc0_3 hr1 hc1 hr3 hc3
 have HB := Sd.mk (Below.refl w.heap.size w)
 have HK := Sd.mk (losses_small hlo).1
 have HD := Sd.mk (losses_small hlo).2.1
 have HL := Sd.mk (losses_small hlo).2.2
 have fl1 : (lossesV a0_0 a0_1 l0_2 l0_3 l1 == 0) = true := beq_iff_eq.2 hlo
 have fl2 : (lossesV a0_0 a0_1 l0_2 l0_3 l1 != 0) = false := bne_eq_false_iff_eq.2 hlo
 have fe1 : ((l3.length : Int) == (l0_3.length : Int)) = false := beq_eq_false_iff_ne.2 (by omega)
 have fe2 : ((l3.length : Int) != (l0_3.length : Int)) = true := bne_iff_ne.2 (by omega)
 have fe3 : (l3.length == l0_3.length) = false := beq_eq_false_iff_ne.2 (by omega)
 have fe4 : (l3.length != l0_3.length) = true := bne_iff_ne.2 (by omega)
 clear hlo
 clear hle
 go_enter Try.func38, Try.ntmps38
 go_wp2_with (first | ((with_reducible refine gD (N := 5) rfl ?_); (try (refine gG (by rfl) ?_; dsimp only)); refine xE ?hg (N := 5) ?hd (cs := #[.int .i64 a0_0, .int .i64 a0_1, .slice A0_2 l0_2.length c0_2, .slice A0_3 l0_3.length c0_3]) (t := 32) ?hr ?_; (case hd => rfl); (case hg => rfl); (case hr => first | (go_simp; done) ); intro gb hg w1 hbox hb; have BKgb := Sd.mk hbox; have GEgb := Sd.mk ((by rw [hg]; exact (bZ (by repeat (first | (with_reducible first | exact HB.1 ) )))) : w.heap.size ≤ gb); replace HB := Sd.mk (bT (by repeat (first | (with_reducible first | exact HB.1 ) )) hb); clear hb hbox hg; have z_w1gb_0 : w1.cell? ⟨gb, 0, none⟩ = some (.int .i64 a0_0) := (kC BKgb.1 0).trans rfl; have z_w1gb_1 : w1.cell? ⟨gb, 1, none⟩ = some (.int .i64 a0_1) := (kC BKgb.1 1).trans rfl; have z_w1gb_2 : w1.cell? ⟨gb, 2, none⟩ = some (.slice A0_2 l0_2.length c0_2) := (kC BKgb.1 2).trans rfl; have z_w1gb_3 : w1.cell? ⟨gb, 3, none⟩ = some (.slice A0_3 l0_3.length c0_3) := (kC BKgb.1 3).trans rfl) | (go_at_call 71; (with_reducible refine (cipher_Book_losses.calls a0_0 a0_1 _ _ l0_2 _ _ l0_3 _ _ l1 _ _ (Kd.C_below HR0_2.1 (by repeat (first | (with_reducible first | exact HB.1 ) ))) HC0_2.1 (Kd.C_below HR0_3.1 (by repeat (first | (with_reducible first | exact HB.1 ) ))) HC0_3.1 (Kd.C_below HR1.1 (by repeat (first | (with_reducible first | exact HB.1 ) ))) HC1.1 (losses_f _ _ _ _ _)).mono ?_); rintro e w3 ⟨rfl, hb⟩; have n0_ := Sd.mk (bT (by repeat (first | (with_reducible first | exact HB.1 ) )) hb); have m0_ := Sd.mk (kB (by (with_reducible repeat (fail)); exact BKgb.1) hb); clear HB; have HB := n0_; clear n0_; clear BKgb; have BKgb := m0_; clear m0_; clear hb; have z_w3gb_3 : w3.cell? ⟨gb, 3, none⟩ = some (.slice A0_3 l0_3.length c0_3) := (kC BKgb.1 3).trans rfl) | (go_at_call 51; (with_reducible refine (cipher_within.calls _ _ _ _ _ (within_f _ _ _)).mono ?_); rintro e w' ⟨rfl, ⟨nd, rfl⟩⟩))
 go_ret
 exact ⟨rfl, by repeat (first | (with_reducible first | exact HB.1 | apply bN ) )⟩
set_option maxHeartbeats 4000000 in
set_option maxRecDepth 100000 in
theorem prove_3 (a0_0 : Int) (a0_1 : Int) (A0_2 : Option Addr) (c0_2 : Nat) (l0_2 : List (S91)) (A0_3 : Option Addr) (c0_3 : Nat) (l0_3 : List Int) (A1 : Option Addr) (c1 : Nat) (l1 : List (S110)) (a2 : Int) (A3 : Option Addr) (c3 : Nat) (l3 : List Int) (a4 : Int) (w : World) (hr0_2 : Kd.C k91 w A0_2 l0_2.length l0_2) (hc0_2 : l0_2.length ≤ c0_2) (hr0_3 : Kd.C (Kd.int .i64) w A0_3 l0_3.length l0_3) (hc0_3 : l0_3.length ≤ c0_3) (hr1 : Kd.C k110 w A1 l1.length l1) (hc1 : l1.length ≤ c1) (hr3 : Kd.C (Kd.int .i64) w A3 l3.length l3) (hc3 : l3.length ≤ c3) (hlo : lossesV a0_0 a0_1 l0_2 l0_3 l1 = 0) (hmo : inB a2 0 8 = true) (hle : l3.length = l0_3.length) (hal : l3.all (ownB l0_2.length) = false) :
  Calls Try.prog 38 #[.agg #[.int .i64 a0_0, .int .i64 a0_1, .slice A0_2 l0_2.length c0_2, .slice A0_3 l0_3.length c0_3], .slice A1 l1.length c1, .int .i64 a2, .slice A3 l3.length c3, .int .i64 a4] w fun e w' => e = .returned (.bool false) ∧ Below w.heap.size w w' := by
 have hu32 := Try.underlying32
 have hu116 := Try.underlying116
 have hu121 := Try.underlying121
 have HR0_2 := Sd.mk hr0_2
 have HC0_2 := Sd.mk hc0_2
 have HR0_3 := Sd.mk hr0_3
 have HC0_3 := Sd.mk hc0_3
 have HR1 := Sd.mk hr1
 have HC1 := Sd.mk hc1
 have HR3 := Sd.mk hr3
 clear hr0_2 hc0_2 hr0_3 hc0_3 hr1 hc1 hr3 hc3
 have HB := Sd.mk (Below.refl w.heap.size w)
 have HK := Sd.mk (losses_small hlo).1
 have HD := Sd.mk (losses_small hlo).2.1
 have HL := Sd.mk (losses_small hlo).2.2
 have fl1 : (lossesV a0_0 a0_1 l0_2 l0_3 l1 == 0) = true := beq_iff_eq.2 hlo
 have fl2 : (lossesV a0_0 a0_1 l0_2 l0_3 l1 != 0) = false := bne_eq_false_iff_eq.2 hlo
 have fe1 : ((l3.length : Int) == (l0_3.length : Int)) = true := beq_iff_eq.2 (by omega)
 have fe2 : ((l3.length : Int) != (l0_3.length : Int)) = false := bne_eq_false_iff_eq.2 (by omega)
 have fe3 : (l3.length == l0_3.length) = true := beq_iff_eq.2 (by omega)
 have fe4 : (l3.length != l0_3.length) = false := bne_eq_false_iff_eq.2 (by omega)
 clear hlo
 clear hle
 go_enter Try.func38, Try.ntmps38
 go_wp2_with (first | ((with_reducible refine gD (N := 5) rfl ?_); (try (refine gG (by rfl) ?_; dsimp only)); refine xE ?hg (N := 5) ?hd (cs := #[.int .i64 a0_0, .int .i64 a0_1, .slice A0_2 l0_2.length c0_2, .slice A0_3 l0_3.length c0_3]) (t := 32) ?hr ?_; (case hd => rfl); (case hg => rfl); (case hr => first | (go_simp; done) ); intro gb hg w1 hbox hb; have BKgb := Sd.mk hbox; have GEgb := Sd.mk ((by rw [hg]; exact (bZ (by repeat (first | (with_reducible first | exact HB.1 ) )))) : w.heap.size ≤ gb); replace HB := Sd.mk (bT (by repeat (first | (with_reducible first | exact HB.1 ) )) hb); clear hb hbox hg; have z_w1gb_0 : w1.cell? ⟨gb, 0, none⟩ = some (.int .i64 a0_0) := (kC BKgb.1 0).trans rfl; have z_w1gb_1 : w1.cell? ⟨gb, 1, none⟩ = some (.int .i64 a0_1) := (kC BKgb.1 1).trans rfl; have z_w1gb_2 : w1.cell? ⟨gb, 2, none⟩ = some (.slice A0_2 l0_2.length c0_2) := (kC BKgb.1 2).trans rfl; have z_w1gb_3 : w1.cell? ⟨gb, 3, none⟩ = some (.slice A0_3 l0_3.length c0_3) := (kC BKgb.1 3).trans rfl) | (go_at_call 71; (with_reducible refine (cipher_Book_losses.calls a0_0 a0_1 _ _ l0_2 _ _ l0_3 _ _ l1 _ _ (Kd.C_below HR0_2.1 (by repeat (first | (with_reducible first | exact HB.1 ) ))) HC0_2.1 (Kd.C_below HR0_3.1 (by repeat (first | (with_reducible first | exact HB.1 ) ))) HC0_3.1 (Kd.C_below HR1.1 (by repeat (first | (with_reducible first | exact HB.1 ) ))) HC1.1 (losses_f _ _ _ _ _)).mono ?_); rintro e w3 ⟨rfl, hb⟩; have n0_ := Sd.mk (bT (by repeat (first | (with_reducible first | exact HB.1 ) )) hb); have m0_ := Sd.mk (kB (by (with_reducible repeat (fail)); exact BKgb.1) hb); clear HB; have HB := n0_; clear n0_; clear BKgb; have BKgb := m0_; clear m0_; clear hb; have z_w3gb_3 : w3.cell? ⟨gb, 3, none⟩ = some (.slice A0_3 l0_3.length c0_3) := (kC BKgb.1 3).trans rfl) | (go_at_call 51; (with_reducible refine (cipher_within.calls _ _ _ _ _ (within_f _ _ _)).mono ?_); rintro e w' ⟨rfl, ⟨nd, rfl⟩⟩) | (go_at_call 54; refine (allInt 50 #[.agg #[.int .i64 a0_0, .int .i64 a0_1, .slice A0_2 l0_2.length c0_2, .slice A0_3 l0_3.length c0_3]] #[] A3 c3 l3 (ownB l0_2.length) _ (Kd.C_below HR3.1 (by repeat (first | (with_reducible first | exact HB.1 | apply bN ) ))) ⟨fun args w => by go_simp, fun x hx W hW => ?ft⟩).mono ?_; (case ft => have hb2 := below_grow (by repeat (first | (with_reducible first | exact HB.1 | apply bN ) )) hW; have h2 := cipher_Book_own.calls a0_0 a0_1 A0_2 c0_2 l0_2 A0_3 c0_3 l0_3 x (ownB l0_2.length x) W (Kd.C_below HR0_2.1 hb2) HC0_2.1 (Kd.C_below HR0_3.1 hb2) HC0_3.1 (own_f _ _ _ _ _ HK.1); exact h2); rintro e w4 ⟨rfl, hb⟩; have n0_ := Sd.mk (bT (by repeat (first | (with_reducible first | exact HB.1 | apply bN ) )) hb); have m0_ := Sd.mk (kB (by (with_reducible repeat (fail)); exact BKgb.1) hb); clear HB; have HB := n0_; clear n0_; clear BKgb; have BKgb := m0_; clear m0_; clear hb; have z_w4gb_0 : w4.cell? ⟨gb, 0, none⟩ = some (.int .i64 a0_0) := (kC BKgb.1 0).trans rfl; have z_w4gb_1 : w4.cell? ⟨gb, 1, none⟩ = some (.int .i64 a0_1) := (kC BKgb.1 1).trans rfl; have z_w4gb_2 : w4.cell? ⟨gb, 2, none⟩ = some (.slice A0_2 l0_2.length c0_2) := (kC BKgb.1 2).trans rfl; have z_w4gb_3 : w4.cell? ⟨gb, 3, none⟩ = some (.slice A0_3 l0_3.length c0_3) := (kC BKgb.1 3).trans rfl))
 go_ret
 exact ⟨rfl, by repeat (first | (with_reducible first | exact HB.1 ) )⟩
set_option maxHeartbeats 4000000 in
set_option maxRecDepth 100000 in
theorem prove_4 (a0_0 : Int) (a0_1 : Int) (A0_2 : Option Addr) (c0_2 : Nat) (l0_2 : List (S91)) (A0_3 : Option Addr) (c0_3 : Nat) (l0_3 : List Int) (A1 : Option Addr) (c1 : Nat) (l1 : List (S110)) (a2 : Int) (A3 : Option Addr) (c3 : Nat) (l3 : List Int) (a4 : Int) (w : World) (hr0_2 : Kd.C k91 w A0_2 l0_2.length l0_2) (hc0_2 : l0_2.length ≤ c0_2) (hr0_3 : Kd.C (Kd.int .i64) w A0_3 l0_3.length l0_3) (hc0_3 : l0_3.length ≤ c0_3) (hr1 : Kd.C k110 w A1 l1.length l1) (hc1 : l1.length ≤ c1) (hr3 : Kd.C (Kd.int .i64) w A3 l3.length l3) (hc3 : l3.length ≤ c3) (hlo : lossesV a0_0 a0_1 l0_2 l0_3 l1 = 0) (hmo : inB a2 0 8 = true) (hle : l3.length = l0_3.length) (hal : l3.all (ownB l0_2.length) = true) (hne : a4 < 0) :
  Calls Try.prog 38 #[.agg #[.int .i64 a0_0, .int .i64 a0_1, .slice A0_2 l0_2.length c0_2, .slice A0_3 l0_3.length c0_3], .slice A1 l1.length c1, .int .i64 a2, .slice A3 l3.length c3, .int .i64 a4] w fun e w' => e = .returned (.bool false) ∧ Below w.heap.size w w' := by
 have hu32 := Try.underlying32
 have hu116 := Try.underlying116
 have hu121 := Try.underlying121
 have HR0_2 := Sd.mk hr0_2
 have HC0_2 := Sd.mk hc0_2
 have HR0_3 := Sd.mk hr0_3
 have HC0_3 := Sd.mk hc0_3
 have HR1 := Sd.mk hr1
 have HC1 := Sd.mk hc1
 have HR3 := Sd.mk hr3
 clear hr0_2 hc0_2 hr0_3 hc0_3 hr1 hc1 hr3 hc3
 have HB := Sd.mk (Below.refl w.heap.size w)
 have HK := Sd.mk (losses_small hlo).1
 have HD := Sd.mk (losses_small hlo).2.1
 have HL := Sd.mk (losses_small hlo).2.2
 have fl1 : (lossesV a0_0 a0_1 l0_2 l0_3 l1 == 0) = true := beq_iff_eq.2 hlo
 have fl2 : (lossesV a0_0 a0_1 l0_2 l0_3 l1 != 0) = false := bne_eq_false_iff_eq.2 hlo
 have fe1 : ((l3.length : Int) == (l0_3.length : Int)) = true := beq_iff_eq.2 (by omega)
 have fe2 : ((l3.length : Int) != (l0_3.length : Int)) = false := bne_eq_false_iff_eq.2 (by omega)
 have fe3 : (l3.length == l0_3.length) = true := beq_iff_eq.2 (by omega)
 have fe4 : (l3.length != l0_3.length) = false := bne_eq_false_iff_eq.2 (by omega)
 have fn1 : decide (a4 < 0) = true := decide_eq_true hne
 clear hlo
 clear hle
 clear hne
 go_enter Try.func38, Try.ntmps38
 go_wp2_with (first | ((with_reducible refine gD (N := 5) rfl ?_); (try (refine gG (by rfl) ?_; dsimp only)); refine xE ?hg (N := 5) ?hd (cs := #[.int .i64 a0_0, .int .i64 a0_1, .slice A0_2 l0_2.length c0_2, .slice A0_3 l0_3.length c0_3]) (t := 32) ?hr ?_; (case hd => rfl); (case hg => rfl); (case hr => first | (go_simp; done) ); intro gb hg w1 hbox hb; have BKgb := Sd.mk hbox; have GEgb := Sd.mk ((by rw [hg]; exact (bZ (by repeat (first | (with_reducible first | exact HB.1 ) )))) : w.heap.size ≤ gb); replace HB := Sd.mk (bT (by repeat (first | (with_reducible first | exact HB.1 ) )) hb); clear hb hbox hg; have z_w1gb_0 : w1.cell? ⟨gb, 0, none⟩ = some (.int .i64 a0_0) := (kC BKgb.1 0).trans rfl; have z_w1gb_1 : w1.cell? ⟨gb, 1, none⟩ = some (.int .i64 a0_1) := (kC BKgb.1 1).trans rfl; have z_w1gb_2 : w1.cell? ⟨gb, 2, none⟩ = some (.slice A0_2 l0_2.length c0_2) := (kC BKgb.1 2).trans rfl; have z_w1gb_3 : w1.cell? ⟨gb, 3, none⟩ = some (.slice A0_3 l0_3.length c0_3) := (kC BKgb.1 3).trans rfl) | (go_at_call 71; (with_reducible refine (cipher_Book_losses.calls a0_0 a0_1 _ _ l0_2 _ _ l0_3 _ _ l1 _ _ (Kd.C_below HR0_2.1 (by repeat (first | (with_reducible first | exact HB.1 ) ))) HC0_2.1 (Kd.C_below HR0_3.1 (by repeat (first | (with_reducible first | exact HB.1 ) ))) HC0_3.1 (Kd.C_below HR1.1 (by repeat (first | (with_reducible first | exact HB.1 ) ))) HC1.1 (losses_f _ _ _ _ _)).mono ?_); rintro e w3 ⟨rfl, hb⟩; have n0_ := Sd.mk (bT (by repeat (first | (with_reducible first | exact HB.1 ) )) hb); have m0_ := Sd.mk (kB (by (with_reducible repeat (fail)); exact BKgb.1) hb); clear HB; have HB := n0_; clear n0_; clear BKgb; have BKgb := m0_; clear m0_; clear hb; have z_w3gb_3 : w3.cell? ⟨gb, 3, none⟩ = some (.slice A0_3 l0_3.length c0_3) := (kC BKgb.1 3).trans rfl) | (go_at_call 51; (with_reducible refine (cipher_within.calls _ _ _ _ _ (within_f _ _ _)).mono ?_); rintro e w' ⟨rfl, ⟨nd, rfl⟩⟩) | (go_at_call 54; refine (allInt 50 #[.agg #[.int .i64 a0_0, .int .i64 a0_1, .slice A0_2 l0_2.length c0_2, .slice A0_3 l0_3.length c0_3]] #[] A3 c3 l3 (ownB l0_2.length) _ (Kd.C_below HR3.1 (by repeat (first | (with_reducible first | exact HB.1 | apply bN ) ))) ⟨fun args w => by go_simp, fun x hx W hW => ?ft⟩).mono ?_; (case ft => have hb2 := below_grow (by repeat (first | (with_reducible first | exact HB.1 | apply bN ) )) hW; have h2 := cipher_Book_own.calls a0_0 a0_1 A0_2 c0_2 l0_2 A0_3 c0_3 l0_3 x (ownB l0_2.length x) W (Kd.C_below HR0_2.1 hb2) HC0_2.1 (Kd.C_below HR0_3.1 hb2) HC0_3.1 (own_f _ _ _ _ _ HK.1); exact h2); rintro e w4 ⟨rfl, hb⟩; have n0_ := Sd.mk (bT (by repeat (first | (with_reducible first | exact HB.1 | apply bN ) )) hb); have m0_ := Sd.mk (kB (by (with_reducible repeat (fail)); exact BKgb.1) hb); clear HB; have HB := n0_; clear n0_; clear BKgb; have BKgb := m0_; clear m0_; clear hb; have z_w4gb_0 : w4.cell? ⟨gb, 0, none⟩ = some (.int .i64 a0_0) := (kC BKgb.1 0).trans rfl; have z_w4gb_1 : w4.cell? ⟨gb, 1, none⟩ = some (.int .i64 a0_1) := (kC BKgb.1 1).trans rfl; have z_w4gb_2 : w4.cell? ⟨gb, 2, none⟩ = some (.slice A0_2 l0_2.length c0_2) := (kC BKgb.1 2).trans rfl; have z_w4gb_3 : w4.cell? ⟨gb, 3, none⟩ = some (.slice A0_3 l0_3.length c0_3) := (kC BKgb.1 3).trans rfl))
 go_ret
 exact ⟨rfl, by repeat (first | (with_reducible first | exact HB.1 ) )⟩
set_option maxHeartbeats 4000000 in
set_option maxRecDepth 100000 in
theorem prove_5 (a0_0 : Int) (a0_1 : Int) (A0_2 : Option Addr) (c0_2 : Nat) (l0_2 : List (S91)) (A0_3 : Option Addr) (c0_3 : Nat) (l0_3 : List Int) (A1 : Option Addr) (c1 : Nat) (l1 : List (S110)) (a2 : Int) (A3 : Option Addr) (c3 : Nat) (l3 : List Int) (a4 : Int) (w : World) (hr0_2 : Kd.C k91 w A0_2 l0_2.length l0_2) (hc0_2 : l0_2.length ≤ c0_2) (hr0_3 : Kd.C (Kd.int .i64) w A0_3 l0_3.length l0_3) (hc0_3 : l0_3.length ≤ c0_3) (hr1 : Kd.C k110 w A1 l1.length l1) (hc1 : l1.length ≤ c1) (hr3 : Kd.C (Kd.int .i64) w A3 l3.length l3) (hc3 : l3.length ≤ c3) (hlo : lossesV a0_0 a0_1 l0_2 l0_3 l1 = 0) (hmo : inB a2 0 8 = true) (hle : l3.length = l0_3.length) (hal : l3.all (ownB l0_2.length) = true) (hne : ¬ a4 < 0) (hbig : a4 ≤ 2000000) :
  Calls Try.prog 38 #[.agg #[.int .i64 a0_0, .int .i64 a0_1, .slice A0_2 l0_2.length c0_2, .slice A0_3 l0_3.length c0_3], .slice A1 l1.length c1, .int .i64 a2, .slice A3 l3.length c3, .int .i64 a4] w fun e w' => e = .returned (.bool (provL l1 a2 sp0 l3 a4)) ∧ Below w.heap.size w w' := by
 have hu32 := Try.underlying32
 have hu116 := Try.underlying116
 have hu121 := Try.underlying121
 have HR0_2 := Sd.mk hr0_2
 have HC0_2 := Sd.mk hc0_2
 have HR0_3 := Sd.mk hr0_3
 have HC0_3 := Sd.mk hc0_3
 have HR1 := Sd.mk hr1
 have HC1 := Sd.mk hc1
 have HR3 := Sd.mk hr3
 clear hr0_2 hc0_2 hr0_3 hc0_3 hr1 hc1 hr3 hc3
 have HB := Sd.mk (Below.refl w.heap.size w)
 have HK := Sd.mk (losses_small hlo).1
 have HD := Sd.mk (losses_small hlo).2.1
 have HL := Sd.mk (losses_small hlo).2.2
 have HLE := Sd.mk hle
 have HAL := Sd.mk hal
 have HNE := Sd.mk hne
 have HBIG := Sd.mk hbig
 clear hbig
 have fl1 : (lossesV a0_0 a0_1 l0_2 l0_3 l1 == 0) = true := beq_iff_eq.2 hlo
 have fl2 : (lossesV a0_0 a0_1 l0_2 l0_3 l1 != 0) = false := bne_eq_false_iff_eq.2 hlo
 have fe1 : ((l3.length : Int) == (l0_3.length : Int)) = true := beq_iff_eq.2 (by omega)
 have fe2 : ((l3.length : Int) != (l0_3.length : Int)) = false := bne_eq_false_iff_eq.2 (by omega)
 have fe3 : (l3.length == l0_3.length) = true := beq_iff_eq.2 (by omega)
 have fe4 : (l3.length != l0_3.length) = false := bne_eq_false_iff_eq.2 (by omega)
 have fn1 : decide (a4 < 0) = false := decide_eq_false hne
 clear hlo
 clear hle
 clear hne
 go_enter Try.func38, Try.ntmps38
 go_wp2_with (first | ((with_reducible refine gD (N := 5) rfl ?_); (try (refine gG (by rfl) ?_; dsimp only)); refine xE ?hg (N := 5) ?hd (cs := #[.int .i64 a0_0, .int .i64 a0_1, .slice A0_2 l0_2.length c0_2, .slice A0_3 l0_3.length c0_3]) (t := 32) ?hr ?_; (case hd => rfl); (case hg => rfl); (case hr => first | (go_simp; done) ); intro gb hg w1 hbox hb; have BKgb := Sd.mk hbox; have GEgb := Sd.mk ((by rw [hg]; exact (bZ (by repeat (first | (with_reducible first | exact HB.1 ) )))) : w.heap.size ≤ gb); replace HB := Sd.mk (bT (by repeat (first | (with_reducible first | exact HB.1 ) )) hb); clear hb hbox hg; have z_w1gb_0 : w1.cell? ⟨gb, 0, none⟩ = some (.int .i64 a0_0) := (kC BKgb.1 0).trans rfl; have z_w1gb_1 : w1.cell? ⟨gb, 1, none⟩ = some (.int .i64 a0_1) := (kC BKgb.1 1).trans rfl; have z_w1gb_2 : w1.cell? ⟨gb, 2, none⟩ = some (.slice A0_2 l0_2.length c0_2) := (kC BKgb.1 2).trans rfl; have z_w1gb_3 : w1.cell? ⟨gb, 3, none⟩ = some (.slice A0_3 l0_3.length c0_3) := (kC BKgb.1 3).trans rfl) | (go_at_call 71; (with_reducible refine (cipher_Book_losses.calls a0_0 a0_1 _ _ l0_2 _ _ l0_3 _ _ l1 _ _ (Kd.C_below HR0_2.1 (by repeat (first | (with_reducible first | exact HB.1 ) ))) HC0_2.1 (Kd.C_below HR0_3.1 (by repeat (first | (with_reducible first | exact HB.1 ) ))) HC0_3.1 (Kd.C_below HR1.1 (by repeat (first | (with_reducible first | exact HB.1 ) ))) HC1.1 (losses_f _ _ _ _ _)).mono ?_); rintro e w3 ⟨rfl, hb⟩; have n0_ := Sd.mk (bT (by repeat (first | (with_reducible first | exact HB.1 ) )) hb); have m0_ := Sd.mk (kB (by (with_reducible repeat (fail)); exact BKgb.1) hb); clear HB; have HB := n0_; clear n0_; clear BKgb; have BKgb := m0_; clear m0_; clear hb; have z_w3gb_3 : w3.cell? ⟨gb, 3, none⟩ = some (.slice A0_3 l0_3.length c0_3) := (kC BKgb.1 3).trans rfl) | (go_at_call 51; (with_reducible refine (cipher_within.calls _ _ _ _ _ (within_f _ _ _)).mono ?_); rintro e w' ⟨rfl, ⟨nd, rfl⟩⟩) | (go_at_call 54; refine (allInt 50 #[.agg #[.int .i64 a0_0, .int .i64 a0_1, .slice A0_2 l0_2.length c0_2, .slice A0_3 l0_3.length c0_3]] #[] A3 c3 l3 (ownB l0_2.length) _ (Kd.C_below HR3.1 (by repeat (first | (with_reducible first | exact HB.1 | apply bN ) ))) ⟨fun args w => by go_simp, fun x hx W hW => ?ft⟩).mono ?_; (case ft => have hb2 := below_grow (by repeat (first | (with_reducible first | exact HB.1 | apply bN ) )) hW; have h2 := cipher_Book_own.calls a0_0 a0_1 A0_2 c0_2 l0_2 A0_3 c0_3 l0_3 x (ownB l0_2.length x) W (Kd.C_below HR0_2.1 hb2) HC0_2.1 (Kd.C_below HR0_3.1 hb2) HC0_3.1 (own_f _ _ _ _ _ HK.1); exact h2); rintro e w4 ⟨rfl, hb⟩; have n0_ := Sd.mk (bT (by repeat (first | (with_reducible first | exact HB.1 | apply bN ) )) hb); have m0_ := Sd.mk (kB (by (with_reducible repeat (fail)); exact BKgb.1) hb); clear HB; have HB := n0_; clear n0_; clear BKgb; have BKgb := m0_; clear m0_; clear hb; have z_w4gb_0 : w4.cell? ⟨gb, 0, none⟩ = some (.int .i64 a0_0) := (kC BKgb.1 0).trans rfl; have z_w4gb_1 : w4.cell? ⟨gb, 1, none⟩ = some (.int .i64 a0_1) := (kC BKgb.1 1).trans rfl; have z_w4gb_2 : w4.cell? ⟨gb, 2, none⟩ = some (.slice A0_2 l0_2.length c0_2) := (kC BKgb.1 2).trans rfl; have z_w4gb_3 : w4.cell? ⟨gb, 3, none⟩ = some (.slice A0_3 l0_3.length c0_3) := (kC BKgb.1 3).trans rfl) | ((with_reducible refine gD (N := 52) rfl ?_); (try (refine gG (by rfl) ?_; dsimp only)); refine xE ?hg (N := 52) ?hd (cs := #[.int .i64 a0_0, .int .i64 a0_1, .slice A0_2 l0_2.length c0_2, .slice A0_3 l0_3.length c0_3, .slice A1 l1.length c1, .int .i64 a2, .map none]) (t := 116) ?hr ?_; (case hd => rfl); (case hg => rfl); (case hr => first | (go_simp; done) ); intro gw hg w5 hbox hb; have BKgw := Sd.mk hbox; have GEgw := Sd.mk ((by rw [hg]; exact (bZ (by repeat (first | (with_reducible first | exact HB.1 ) )))) : w.heap.size ≤ gw); replace HB := Sd.mk (bT (by repeat (first | (with_reducible first | exact HB.1 ) )) hb); clear hb hbox hg) | ((with_reducible refine gD (N := 13) rfl ?_); (try (refine gG (by rfl) ?_; dsimp only)); refine xE ?hg (N := 13) ?hd (cs := #[.int .i64 0, .int .i64 0, .int .i64 0, .int .i64 0, .int .i64 0, .int .i64 0, .int .i64 0]) (t := 121) ?hr ?_; (case hd => rfl); (case hg => rfl); (case hr => first | (go_simp; done) ); intro g13 hg w6 hbox hb; have n0_ := Sd.mk (bT (by repeat (first | (with_reducible first | exact HB.1 ) )) hb); have n1_ := Sd.mk hbox; have n2_ := Sd.mk ((by rw [hg]; exact (bZ (by repeat (first | (with_reducible first | exact HB.1 ) )))) : w.heap.size ≤ g13); have m0_ := Sd.mk (kB (by (with_reducible repeat (fail)); exact BKgw.1) hb); have NEgwg13 := Sd.mk (by rw [hg]; exact Nat.ne_of_lt (blk_lt (by (with_reducible repeat (fail)); exact BKgw.1)) : gw ≠ g13); clear HB; have HB := n0_; have BKg13 := n1_; have GEg13 := n2_; clear n0_ n1_ n2_; clear BKgw; have BKgw := m0_; clear m0_; clear hb hbox hg))
 go_loopw [4, 55] (fun v4 v55 W => ∃ (i : Nat) (s : Sp) (c : Int), v55 = .int .i64 (i : Int) ∧ i ≤ l3.length ∧ v4 = .int .i64 c ∧ c ≤ 2000000 ∧ -(i : Int) ≤ c ∧ Sd (s.ok ∧ s.d = (i : Int) ∧ provL l1 a2 s (l3.drop i) c = provL l1 a2 sp0 l3 a4) ∧ Sd (W.heap[g13]? = some (.cells #[.int .i64 s.d, .int .i64 s.la, .int .i64 s.u0, .int .i64 s.u1, .int .i64 s.u2, .int .i64 s.u3, .int .i64 s.u4] 121 (0, 0))) ∧ Sd (W.heap[gw]? = some (.cells #[.int .i64 a0_0, .int .i64 a0_1, .slice A0_2 l0_2.length c0_2, .slice A0_3 l0_3.length c0_3, .slice A1 l1.length c1, .int .i64 a2, .map none] 116 (0, 0))) ∧ Sd (Below w.heap.size w W)) (fun v4 v55 W => l3.length - (intOf v55).toNat)
 case atStart => exact ⟨0, sp0, a4, rfl, Nat.zero_le _, rfl, HBIG.1, by have := HNE.1; omega, ⟨sp0_ok, rfl, rfl⟩, BKg13, BKgw, HB⟩
 case round =>
  clear BKg13 BKgw HB
  obtain ⟨i, s, c, rfl, hle, rfl, hc1, hc0, HP, BKg, BKgw, HB⟩ := hrel
  have hd8 := HD.1
  have hl38 : l3.length ≤ 8 := by have := HLE.1; omega
  by_cases c4 : i < l3.length
  ·obtain ⟨ad, e, hx0⟩ := Kd.at_int HR3.1 (i : Int) (by omega) (by omega)
   cases e
   replace hx0 := (HB.1.cell (World.block_lt_of_cell? w _ hx0)).trans hx0
   rw [Int.toNat_natCast] at hx0
   have hgi : rd l3 (i : Int) = l3[i] := getD_at l3 _ i c4
   obtain ⟨k, hk, hk5⟩ : ∃ k : Nat, rd l3 (i : Int) = (k : Int) ∧ k < 5 := by
    have h1 := (List.all_eq_true.1 HAL.1) l3[i] (List.getElem_mem c4)
    unfold ownB at h1
    rw [inB_iff] at h1
    have h2 := HK.1
    exact ⟨l3[i].toNat, by rw [hgi]; omega, by omega⟩
   have HK5 := Sd.mk hk5
   rw [hk] at hx0 hgi
   have HDR := Sd.mk (show provL l1 a2 s (l3.drop i) c = if mayB l1 a2 s (k : Int) = true then provL l1 a2 (s.next k) (l3.drop (i + 1)) (c - chgV s k) else false from by rw [List.drop_eq_getElem_cons c4, ← hgi, provL])
   clear hgi hk hk5
   have hczrs_0 : wr.cell? ⟨g13, 0, none⟩ = some (.int .i64 s.d) := (kC BKg.1 0).trans rfl
   have hczrs_1 : wr.cell? ⟨g13, 1, none⟩ = some (.int .i64 s.la) := (kC BKg.1 1).trans rfl
   have hczrs_2 : wr.cell? ⟨g13, 2, none⟩ = some (.int .i64 s.u0) := (kC BKg.1 2).trans rfl
   have hczrs_3 : wr.cell? ⟨g13, 3, none⟩ = some (.int .i64 s.u1) := (kC BKg.1 3).trans rfl
   have hczrs_4 : wr.cell? ⟨g13, 4, none⟩ = some (.int .i64 s.u2) := (kC BKg.1 4).trans rfl
   have hczrs_5 : wr.cell? ⟨g13, 5, none⟩ = some (.int .i64 s.u3) := (kC BKg.1 5).trans rfl
   have hczrs_6 : wr.cell? ⟨g13, 6, none⟩ = some (.int .i64 s.u4) := (kC BKg.1 6).trans rfl
   go_wp2_with fail
   refine (may_any a0_0 a0_1 _ _ _ A1 c1 l1 a2 gw s k _ HK5.1 (Kd.C_below HR1.1 HB.1) HC1.1 (by have := HL.1; omega) BKgw.1 HP.1.1.fit).mono ?_
   rintro e w8 ⟨rfl, hb⟩
   have n0_ := Sd.mk (bT HB.1 hb)
   have n1_ := Sd.mk (kB BKg.1 hb)
   have n2_ := Sd.mk (kB BKgw.1 hb)
   clear HB BKg BKgw hb
   have HB := n0_
   have BKg := n1_
   have BKgw := n2_
   clear n0_ n1_ n2_
   cases hm : mayB l1 a2 s (k : Int) with
   | false =>
    have hv : mayV l1 a2 s k = .tuple #[.agg #[.int .i64 s.d, .int .i64 s.la, .int .i64 s.u0, .int .i64 s.u1, .int .i64 s.u2, .int .i64 s.u3, .int .i64 s.u4], .int .i64 0, .bool false] := by unfold mayV; rw [if_neg (by rw [hm]; decide)]; rfl
    rw [hv]
    have HRES := Sd.mk (show provL l1 a2 sp0 l3 a4 = false from by rw [← HP.1.2.2, HDR.1, hm]; rfl)
    clear hv hm
    go_wp2
    go_ret
    exact ⟨ret_bool_eq HRES.1.symm, by repeat (first | exact HB.1 | apply bA)⟩
   | true =>
    have hv : mayV l1 a2 s k = .tuple #[.agg #[.int .i64 (s.next k).d, .int .i64 (s.next k).la, .int .i64 (s.next k).u0, .int .i64 (s.next k).u1, .int .i64 (s.next k).u2, .int .i64 (s.next k).u3, .int .i64 (s.next k).u4], .int .i64 (chgV s k), .bool true] := by unfold mayV; rw [if_pos hm]; rfl
    rw [hv]
    have HRES := Sd.mk (show provL l1 a2 (s.next k) (l3.drop (i + 1)) (c - chgV s k) = provL l1 a2 sp0 l3 a4 from by rw [← HP.1.2.2, HDR.1, if_pos hm])
    have hch : 0 ≤ chgV s (k : Int) ∧ chgV s (k : Int) ≤ 1 := by unfold chgV; split <;> omega
    have hch0 := hch.1
    have hch1 := hch.2
    clear hv hm hch
    have hl13 : g13 < w8.heap.size := blk_lt BKg.1
    have hczr8_0 : w8.cell? ⟨g13, 0, none⟩ = some (.int .i64 s.d) := (kC BKg.1 0).trans rfl
    have hfzr8_0 := kF BKg.1 0
    have hczr8_1 : w8.cell? ⟨g13, 1, none⟩ = some (.int .i64 s.la) := (kC BKg.1 1).trans rfl
    have hfzr8_1 := kF BKg.1 1
    have hczr8_2 : w8.cell? ⟨g13, 2, none⟩ = some (.int .i64 s.u0) := (kC BKg.1 2).trans rfl
    have hfzr8_2 := kF BKg.1 2
    have hczr8_3 : w8.cell? ⟨g13, 3, none⟩ = some (.int .i64 s.u1) := (kC BKg.1 3).trans rfl
    have hfzr8_3 := kF BKg.1 3
    have hczr8_4 : w8.cell? ⟨g13, 4, none⟩ = some (.int .i64 s.u2) := (kC BKg.1 4).trans rfl
    have hfzr8_4 := kF BKg.1 4
    have hczr8_5 : w8.cell? ⟨g13, 5, none⟩ = some (.int .i64 s.u3) := (kC BKg.1 5).trans rfl
    have hfzr8_5 := kF BKg.1 5
    have hczr8_6 : w8.cell? ⟨g13, 6, none⟩ = some (.int .i64 s.u4) := (kC BKg.1 6).trans rfl
    have hfzr8_6 := kF BKg.1 6
    go_wp2
    go_roundw
    case rel => exact ⟨i + 1, s.next k, c - chgV s k, by go_num, by omega, rfl, by omega, by omega, ⟨HP.1.1.next k HK5.1 (by have := HP.1.2.1; have := HLE.1; omega), by rw [next_d, HP.1.2.1]; omega, HRES.1⟩, ⟨kA (blk_set (blk_set (blk_set (blk_set (blk_set (blk_set (blk_set (BKg.1) 0 (.int .i64 (s.next k).d)) 1 (.int .i64 (s.next k).la)) 2 (.int .i64 (s.next k).u0)) 3 (.int .i64 (s.next k).u1)) 4 (.int .i64 (s.next k).u2)) 5 (.int .i64 (s.next k).u3)) 6 (.int .i64 (s.next k).u4)) (.cells #[.int .i64 (s.next k).d, .int .i64 (s.next k).la, .int .i64 (s.next k).u0, .int .i64 (s.next k).u1, .int .i64 (s.next k).u2, .int .i64 (s.next k).u3, .int .i64 (s.next k).u4] 121 (0, 0))⟩, ⟨kA (blk_far (blk_far (blk_far (blk_far (blk_far (blk_far (blk_far (BKgw.1) (p := ⟨g13, 0, none⟩) NEgwg13.1 (.int .i64 (s.next k).d)) (p := ⟨g13, 1, none⟩) NEgwg13.1 (.int .i64 (s.next k).la)) (p := ⟨g13, 2, none⟩) NEgwg13.1 (.int .i64 (s.next k).u0)) (p := ⟨g13, 3, none⟩) NEgwg13.1 (.int .i64 (s.next k).u1)) (p := ⟨g13, 4, none⟩) NEgwg13.1 (.int .i64 (s.next k).u2)) (p := ⟨g13, 5, none⟩) NEgwg13.1 (.int .i64 (s.next k).u3)) (p := ⟨g13, 6, none⟩) NEgwg13.1 (.int .i64 (s.next k).u4)) (.cells #[.int .i64 (s.next k).d, .int .i64 (s.next k).la, .int .i64 (s.next k).u0, .int .i64 (s.next k).u1, .int .i64 (s.next k).u2, .int .i64 (s.next k).u3, .int .i64 (s.next k).u4] 121 (0, 0))⟩, ⟨bA (bS (bS (bS (bS (bS (bS (bS (HB.1) GEg13.1) GEg13.1) GEg13.1) GEg13.1) GEg13.1) GEg13.1) GEg13.1) (.cells #[.int .i64 (s.next k).d, .int .i64 (s.next k).la, .int .i64 (s.next k).u0, .int .i64 (s.next k).u1, .int .i64 (s.next k).u2, .int .i64 (s.next k).u3, .int .i64 (s.next k).u4] 121 (0, 0))⟩⟩
    case measure => simp [intOf]; omega
  ·have HRES := Sd.mk (show provL l1 a2 sp0 l3 a4 = decide (0 ≤ c) from by rw [← HP.1.2.2, List.drop_of_length_le (by omega), provL])
   go_wp2
   go_ret
   exact ⟨ret_bool_eq HRES.1.symm, HB.1⟩
theorem cipher_ProvePlan.calls (a0_0 : Int) (a0_1 : Int) (A0_2 : Option Addr) (c0_2 : Nat) (l0_2 : List (S91)) (A0_3 : Option Addr) (c0_3 : Nat) (l0_3 : List Int) (A1 : Option Addr) (c1 : Nat) (l1 : List (S110)) (a2 : Int) (A3 : Option Addr) (c3 : Nat) (l3 : List Int) (a4 : Int) (r : Bool) (w : World) (hr0_2 : Kd.C k91 w A0_2 l0_2.length l0_2) (hc0_2 : l0_2.length ≤ c0_2) (hr0_3 : Kd.C (Kd.int .i64) w A0_3 l0_3.length l0_3) (hc0_3 : l0_3.length ≤ c0_3) (hr1 : Kd.C k110 w A1 l1.length l1) (hc1 : l1.length ≤ c1) (hr3 : Kd.C (Kd.int .i64) w A3 l3.length l3) (hc3 : l3.length ≤ c3) (h : cipher_ProvePlan.f a0_0 a0_1 l0_2 l0_3 l1 a2 l3 a4 = some r) :
  Calls Try.prog 38 #[.agg #[.int .i64 a0_0, .int .i64 a0_1, .slice A0_2 l0_2.length c0_2, .slice A0_3 l0_3.length c0_3], .slice A1 l1.length c1, .int .i64 a2, .slice A3 l3.length c3, .int .i64 a4] w fun e w' => e = .returned (.bool r) ∧ Below w.heap.size w w' := by
 unfold cipher_ProvePlan.f at h
 by_cases hbig : 2000000 < a4
 ·rw [if_pos hbig] at h; cases h
 rw [if_neg hbig] at h
 replace hbig : a4 ≤ 2000000 := by omega
 obtain rfl := Option.some.inj h
 clear h
 unfold provV
 by_cases hlo : lossesV a0_0 a0_1 l0_2 l0_3 l1 = 0
 rotate_left
 ·rw [if_pos hlo]; exact prove_0 a0_0 a0_1 A0_2 c0_2 l0_2 A0_3 c0_3 l0_3 A1 c1 l1 a2 A3 c3 l3 a4 w hr0_2 hc0_2 hr0_3 hc0_3 hr1 hc1 hr3 hc3  hlo
 rw [if_neg (fun h2 => h2 hlo)]
 by_cases hmo : inB a2 0 8 = false
 ·rw [if_pos hmo]; exact prove_1 a0_0 a0_1 A0_2 c0_2 l0_2 A0_3 c0_3 l0_3 A1 c1 l1 a2 A3 c3 l3 a4 w hr0_2 hc0_2 hr0_3 hc0_3 hr1 hc1 hr3 hc3 hlo hmo
 rw [if_neg hmo]
 replace hmo := eq_true_of_ne_false hmo
 by_cases hle : l3.length = l0_3.length
 rotate_left
 ·rw [if_pos hle]; exact prove_2 a0_0 a0_1 A0_2 c0_2 l0_2 A0_3 c0_3 l0_3 A1 c1 l1 a2 A3 c3 l3 a4 w hr0_2 hc0_2 hr0_3 hc0_3 hr1 hc1 hr3 hc3 hlo hmo hle
 rw [if_neg (fun h2 => h2 hle)]
 by_cases hal : l3.all (ownB l0_2.length) = false
 ·rw [if_pos hal]; exact prove_3 a0_0 a0_1 A0_2 c0_2 l0_2 A0_3 c0_3 l0_3 A1 c1 l1 a2 A3 c3 l3 a4 w hr0_2 hc0_2 hr0_3 hc0_3 hr1 hc1 hr3 hc3 hlo hmo hle hal
 rw [if_neg hal]
 replace hal := eq_true_of_ne_false hal
 by_cases hne : a4 < 0
 ·rw [if_pos hne]; exact prove_4 a0_0 a0_1 A0_2 c0_2 l0_2 A0_3 c0_3 l0_3 A1 c1 l1 a2 A3 c3 l3 a4 w hr0_2 hc0_2 hr0_3 hc0_3 hr1 hc1 hr3 hc3 hlo hmo hle hal hne
 rw [if_neg hne]
 exact prove_5 a0_0 a0_1 A0_2 c0_2 l0_2 A0_3 c0_3 l0_3 A1 c1 l1 a2 A3 c3 l3 a4 w hr0_2 hc0_2 hr0_3 hc0_3 hr1 hc1 hr3 hc3 hlo hmo hle hal hne hbig
end Go.Proofs.Ytnidgkmopocdkaa.P
