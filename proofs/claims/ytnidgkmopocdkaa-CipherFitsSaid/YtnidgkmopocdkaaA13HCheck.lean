import Derived.Test.YtnidgkmopocdkaaA13HPrimeC
import Derived.Test.YtnidgkmopocdkaaA13P1
import Derived.RegionTactic
namespace Go.Proofs.Ytnidgkmopocdkaa.P
open Go.RowKit Go.Proofs.YtnidgkmopocdkaaW.PrintWords Go.Proofs.YtnidgkmopocdkaaW.PrintLast Go.Proofs.YtnidgkmopocdkaaW.PrintMore
set_option linter.unusedVariables false
set_option linter.unusedSimpArgs false
def inB (n lo hi : Int) : Bool := decide (lo ≤ n) && decide (n ≤ hi)
def keyB (sz : Int) (k : S91) : Bool := inB k.f0 1 (sz - 1) && (inB k.f1 0 (sz - 1) && inB k.f2 0 (sz - 1))
def ownB (nk : Nat) (n : Int) : Bool := inB n 0 ((nk : Int) - 1)
def checkB (sz wd : Int) (keys : List S91) (days : List Int) : Int :=
 if 5 < keys.length then 3 else if 8 < days.length then 3
 else if inB sz 13 41 = false then 1 else if primeB sz = false then 1 else if inB wd 1 sz = false then 1
 else if keys.length = 0 then 1 else if days.length = 0 then 1
 else if keys.all (keyB sz) = false then 1 else if days.all (ownB keys.length) = false then 1 else 0
theorem inB_iff {n lo hi : Int} : inB n lo hi = true ↔ lo ≤ n ∧ n ≤ hi := by simp [inB]
theorem within_f (n lo hi : Int) : cipher_within.f n lo hi = some (inB n lo hi) := by
 unfold cipher_within.f inB
 by_cases h : lo ≤ n
 ·rw [if_pos h]; simp [h]
 ·rw [if_neg h]; simp [h]
theorem wrap_of {a : Int} (h0 : -9223372036854775808 ≤ a) (h1 : a ≤ 9223372036854775807) : wrap64 a = a := by
 unfold wrap64
 omega
theorem plain_f (sz wd : Int) (keys : List S91) (days : List Int) (n : Int) (h0 : 0 ≤ sz) (h1 : sz ≤ 41) : cipher_Book_plain.f sz wd keys days n = some (inB n 0 (sz - 1)) := by
 unfold cipher_Book_plain.f
 rw [wrap_of (by omega) (by omega), within_f]; rfl
theorem key_f (sz wd : Int) (keys : List S91) (days : List Int) (k : S91) (h0 : 0 ≤ sz) (h1 : sz ≤ 41) : cipher_Book_key.f sz wd keys days k.f0 k.f1 k.f2 = some (keyB sz k) := by
 unfold cipher_Book_key.f keyB
 rw [wrap_of (by omega) (by omega), within_f, plain_f _ _ _ _ _ h0 h1, plain_f _ _ _ _ _ h0 h1]
 simp only [Option.bind_some]
 cases inB k.f0 1 (sz - 1) <;> cases inB k.f1 0 (sz - 1) <;> simp
theorem own_f (sz wd : Int) (keys : List S91) (days : List Int) (n : Int) (h : keys.length ≤ 5) : cipher_Book_own.f sz wd keys days n = some (ownB keys.length n) := by
 unfold cipher_Book_own.f ownB
 rw [wrap_of (by omega) (by omega), within_f]; rfl
def cipher_CheckBook.f (a0_0 : Int) (a0_1 : Int) (l0_2 : List (S91)) (l0_3 : List Int) : Option (Int) := some (checkB a0_0 a0_1 l0_2 l0_3)
set_option maxHeartbeats 2000000 in
set_option maxRecDepth 100000 in
theorem check_0 (a0_0 : Int) (a0_1 : Int) (A0_2 : Option Addr) (c0_2 : Nat) (l0_2 : List (S91)) (A0_3 : Option Addr) (c0_3 : Nat) (l0_3 : List Int) (w : World) (hr0_2 : Kd.C k91 w A0_2 l0_2.length l0_2) (hc0_2 : l0_2.length ≤ c0_2) (hr0_3 : Kd.C (Kd.int .i64) w A0_3 l0_3.length l0_3) (hc0_3 : l0_3.length ≤ c0_3) (hk5 : 5 < l0_2.length) :
  Calls Try.prog 18 #[.agg #[.int .i64 a0_0, .int .i64 a0_1, .slice A0_2 l0_2.length c0_2, .slice A0_3 l0_3.length c0_3]] w fun e w' => e = .returned (.int .i64 3) ∧ Below w.heap.size w w' := by
 have hu32 := Try.underlying32
 have HR0_2 := Sd.mk hr0_2
 have HC0_2 := Sd.mk hc0_2
 have HR0_3 := Sd.mk hr0_3
 have HC0_3 := Sd.mk hc0_3
 clear hr0_2 hc0_2 hr0_3 hc0_3
 have HB := Sd.mk (Below.refl w.heap.size w)
 have fk5 : decide ((5 : Int) < (l0_2.length : Int)) = true := decide_eq_true (by omega)
 clear hk5
 go_enter Try.func18, Try.ntmps18
 go_wp2_with (first | ((with_reducible refine gD (N := 1) rfl ?_); (try (refine gG (by rfl) ?_; dsimp only)); refine xE ?hg (N := 1) ?hd (cs := #[.int .i64 a0_0, .int .i64 a0_1, .slice A0_2 l0_2.length c0_2, .slice A0_3 l0_3.length c0_3]) (t := 32) ?hr ?_; (case hd => rfl); (case hg => rfl); (case hr => first | (go_simp; done) ); intro gb hg w1 hbox hb; have BKgb := Sd.mk hbox; have GEgb := Sd.mk ((by rw [hg]; exact (bZ (by repeat (first | (with_reducible first | exact HB.1 ) )))) : w.heap.size ≤ gb); replace HB := Sd.mk (bT (by repeat (first | (with_reducible first | exact HB.1 ) )) hb); clear hb hbox hg; have z_w1gb_0 : w1.cell? ⟨gb, 0, none⟩ = some (.int .i64 a0_0) := (kC BKgb.1 0).trans rfl; have z_w1gb_1 : w1.cell? ⟨gb, 1, none⟩ = some (.int .i64 a0_1) := (kC BKgb.1 1).trans rfl; have z_w1gb_2 : w1.cell? ⟨gb, 2, none⟩ = some (.slice A0_2 l0_2.length c0_2) := (kC BKgb.1 2).trans rfl; have z_w1gb_3 : w1.cell? ⟨gb, 3, none⟩ = some (.slice A0_3 l0_3.length c0_3) := (kC BKgb.1 3).trans rfl))
 go_region
 go_wp2_with (fail)
 go_ret
 exact ⟨rfl, by repeat (first | (with_reducible first | exact HB.1 | apply bD) )⟩
set_option maxHeartbeats 2000000 in
set_option maxRecDepth 100000 in
theorem check_1 (a0_0 : Int) (a0_1 : Int) (A0_2 : Option Addr) (c0_2 : Nat) (l0_2 : List (S91)) (A0_3 : Option Addr) (c0_3 : Nat) (l0_3 : List Int) (w : World) (hr0_2 : Kd.C k91 w A0_2 l0_2.length l0_2) (hc0_2 : l0_2.length ≤ c0_2) (hr0_3 : Kd.C (Kd.int .i64) w A0_3 l0_3.length l0_3) (hc0_3 : l0_3.length ≤ c0_3) (hk5 : ¬ 5 < l0_2.length) (hd8 : 8 < l0_3.length) :
  Calls Try.prog 18 #[.agg #[.int .i64 a0_0, .int .i64 a0_1, .slice A0_2 l0_2.length c0_2, .slice A0_3 l0_3.length c0_3]] w fun e w' => e = .returned (.int .i64 3) ∧ Below w.heap.size w w' := by
 have hu32 := Try.underlying32
 have HR0_2 := Sd.mk hr0_2
 have HC0_2 := Sd.mk hc0_2
 have HR0_3 := Sd.mk hr0_3
 have HC0_3 := Sd.mk hc0_3
 clear hr0_2 hc0_2 hr0_3 hc0_3
 have HB := Sd.mk (Below.refl w.heap.size w)
 have HL := Sd.mk (show l0_2.length ≤ 5 by omega)
 have fk5 : decide ((5 : Int) < (l0_2.length : Int)) = false := decide_eq_false (by omega)
 have fd8 : decide ((8 : Int) < (l0_3.length : Int)) = true := decide_eq_true (by omega)
 clear hk5
 clear hd8
 go_enter Try.func18, Try.ntmps18
 go_wp2_with (first | ((with_reducible refine gD (N := 1) rfl ?_); (try (refine gG (by rfl) ?_; dsimp only)); refine xE ?hg (N := 1) ?hd (cs := #[.int .i64 a0_0, .int .i64 a0_1, .slice A0_2 l0_2.length c0_2, .slice A0_3 l0_3.length c0_3]) (t := 32) ?hr ?_; (case hd => rfl); (case hg => rfl); (case hr => first | (go_simp; done) ); intro gb hg w1 hbox hb; have BKgb := Sd.mk hbox; have GEgb := Sd.mk ((by rw [hg]; exact (bZ (by repeat (first | (with_reducible first | exact HB.1 ) )))) : w.heap.size ≤ gb); replace HB := Sd.mk (bT (by repeat (first | (with_reducible first | exact HB.1 ) )) hb); clear hb hbox hg; have z_w1gb_0 : w1.cell? ⟨gb, 0, none⟩ = some (.int .i64 a0_0) := (kC BKgb.1 0).trans rfl; have z_w1gb_1 : w1.cell? ⟨gb, 1, none⟩ = some (.int .i64 a0_1) := (kC BKgb.1 1).trans rfl; have z_w1gb_2 : w1.cell? ⟨gb, 2, none⟩ = some (.slice A0_2 l0_2.length c0_2) := (kC BKgb.1 2).trans rfl; have z_w1gb_3 : w1.cell? ⟨gb, 3, none⟩ = some (.slice A0_3 l0_3.length c0_3) := (kC BKgb.1 3).trans rfl))
 go_region
 go_wp2_with (fail)
 go_ret
 exact ⟨rfl, by repeat (first | (with_reducible first | exact HB.1 | apply bD) )⟩
set_option maxHeartbeats 2000000 in
set_option maxRecDepth 100000 in
theorem check_2 (a0_0 : Int) (a0_1 : Int) (A0_2 : Option Addr) (c0_2 : Nat) (l0_2 : List (S91)) (A0_3 : Option Addr) (c0_3 : Nat) (l0_3 : List Int) (w : World) (hr0_2 : Kd.C k91 w A0_2 l0_2.length l0_2) (hc0_2 : l0_2.length ≤ c0_2) (hr0_3 : Kd.C (Kd.int .i64) w A0_3 l0_3.length l0_3) (hc0_3 : l0_3.length ≤ c0_3) (hk5 : ¬ 5 < l0_2.length) (hd8 : ¬ 8 < l0_3.length) (hsz : inB a0_0 13 41 = false) :
  Calls Try.prog 18 #[.agg #[.int .i64 a0_0, .int .i64 a0_1, .slice A0_2 l0_2.length c0_2, .slice A0_3 l0_3.length c0_3]] w fun e w' => e = .returned (.int .i64 1) ∧ Below w.heap.size w w' := by
 have hu32 := Try.underlying32
 have HR0_2 := Sd.mk hr0_2
 have HC0_2 := Sd.mk hc0_2
 have HR0_3 := Sd.mk hr0_3
 have HC0_3 := Sd.mk hc0_3
 clear hr0_2 hc0_2 hr0_3 hc0_3
 have HB := Sd.mk (Below.refl w.heap.size w)
 have HL := Sd.mk (show l0_2.length ≤ 5 by omega)
 have fk5 : decide ((5 : Int) < (l0_2.length : Int)) = false := decide_eq_false (by omega)
 have fd8 : decide ((8 : Int) < (l0_3.length : Int)) = false := decide_eq_false (by omega)
 clear hk5
 clear hd8
 go_enter Try.func18, Try.ntmps18
 go_wp2_with (first | ((with_reducible refine gD (N := 1) rfl ?_); (try (refine gG (by rfl) ?_; dsimp only)); refine xE ?hg (N := 1) ?hd (cs := #[.int .i64 a0_0, .int .i64 a0_1, .slice A0_2 l0_2.length c0_2, .slice A0_3 l0_3.length c0_3]) (t := 32) ?hr ?_; (case hd => rfl); (case hg => rfl); (case hr => first | (go_simp; done) ); intro gb hg w1 hbox hb; have BKgb := Sd.mk hbox; have GEgb := Sd.mk ((by rw [hg]; exact (bZ (by repeat (first | (with_reducible first | exact HB.1 ) )))) : w.heap.size ≤ gb); replace HB := Sd.mk (bT (by repeat (first | (with_reducible first | exact HB.1 ) )) hb); clear hb hbox hg; have z_w1gb_0 : w1.cell? ⟨gb, 0, none⟩ = some (.int .i64 a0_0) := (kC BKgb.1 0).trans rfl; have z_w1gb_1 : w1.cell? ⟨gb, 1, none⟩ = some (.int .i64 a0_1) := (kC BKgb.1 1).trans rfl; have z_w1gb_2 : w1.cell? ⟨gb, 2, none⟩ = some (.slice A0_2 l0_2.length c0_2) := (kC BKgb.1 2).trans rfl; have z_w1gb_3 : w1.cell? ⟨gb, 3, none⟩ = some (.slice A0_3 l0_3.length c0_3) := (kC BKgb.1 3).trans rfl))
 go_region
 go_wp2_with (first | (go_at_call 51; (with_reducible refine (cipher_within.calls _ _ _ _ _ (within_f _ _ _)).mono ?_); rintro e w' ⟨rfl, ⟨nd, rfl⟩⟩))
 go_ret
 exact ⟨rfl, by repeat (first | (with_reducible first | exact HB.1 | apply bN ) )⟩
set_option maxHeartbeats 2000000 in
set_option maxRecDepth 100000 in
theorem check_3 (a0_0 : Int) (a0_1 : Int) (A0_2 : Option Addr) (c0_2 : Nat) (l0_2 : List (S91)) (A0_3 : Option Addr) (c0_3 : Nat) (l0_3 : List Int) (w : World) (hr0_2 : Kd.C k91 w A0_2 l0_2.length l0_2) (hc0_2 : l0_2.length ≤ c0_2) (hr0_3 : Kd.C (Kd.int .i64) w A0_3 l0_3.length l0_3) (hc0_3 : l0_3.length ≤ c0_3) (hk5 : ¬ 5 < l0_2.length) (hd8 : ¬ 8 < l0_3.length) (hsz : inB a0_0 13 41 = true) (hpr : primeB a0_0 = false) :
  Calls Try.prog 18 #[.agg #[.int .i64 a0_0, .int .i64 a0_1, .slice A0_2 l0_2.length c0_2, .slice A0_3 l0_3.length c0_3]] w fun e w' => e = .returned (.int .i64 1) ∧ Below w.heap.size w w' := by
 have hu32 := Try.underlying32
 have HR0_2 := Sd.mk hr0_2
 have HC0_2 := Sd.mk hc0_2
 have HR0_3 := Sd.mk hr0_3
 have HC0_3 := Sd.mk hc0_3
 clear hr0_2 hc0_2 hr0_3 hc0_3
 have HB := Sd.mk (Below.refl w.heap.size w)
 have HS := Sd.mk (inB_iff.1 hsz)
 have HL := Sd.mk (show l0_2.length ≤ 5 by omega)
 have fk5 : decide ((5 : Int) < (l0_2.length : Int)) = false := decide_eq_false (by omega)
 have fd8 : decide ((8 : Int) < (l0_3.length : Int)) = false := decide_eq_false (by omega)
 clear hk5
 clear hd8
 go_enter Try.func18, Try.ntmps18
 go_wp2_with (first | ((with_reducible refine gD (N := 1) rfl ?_); (try (refine gG (by rfl) ?_; dsimp only)); refine xE ?hg (N := 1) ?hd (cs := #[.int .i64 a0_0, .int .i64 a0_1, .slice A0_2 l0_2.length c0_2, .slice A0_3 l0_3.length c0_3]) (t := 32) ?hr ?_; (case hd => rfl); (case hg => rfl); (case hr => first | (go_simp; done) ); intro gb hg w1 hbox hb; have BKgb := Sd.mk hbox; have GEgb := Sd.mk ((by rw [hg]; exact (bZ (by repeat (first | (with_reducible first | exact HB.1 ) )))) : w.heap.size ≤ gb); replace HB := Sd.mk (bT (by repeat (first | (with_reducible first | exact HB.1 ) )) hb); clear hb hbox hg; have z_w1gb_0 : w1.cell? ⟨gb, 0, none⟩ = some (.int .i64 a0_0) := (kC BKgb.1 0).trans rfl; have z_w1gb_1 : w1.cell? ⟨gb, 1, none⟩ = some (.int .i64 a0_1) := (kC BKgb.1 1).trans rfl; have z_w1gb_2 : w1.cell? ⟨gb, 2, none⟩ = some (.slice A0_2 l0_2.length c0_2) := (kC BKgb.1 2).trans rfl; have z_w1gb_3 : w1.cell? ⟨gb, 3, none⟩ = some (.slice A0_3 l0_3.length c0_3) := (kC BKgb.1 3).trans rfl))
 go_region
 go_wp2_with (first | (go_at_call 51; (with_reducible refine (cipher_within.calls _ _ _ _ _ (within_f _ _ _)).mono ?_); rintro e w' ⟨rfl, ⟨nd, rfl⟩⟩) | (go_at_call 52; (with_reducible refine (prime_is _ _ HS.1.1 HS.1.2).mono ?_); rintro e w2 ⟨rfl, hb⟩; have n0_ := Sd.mk (bT (by repeat (first | (with_reducible first | exact HB.1 | apply bN ) )) hb); have m0_ := Sd.mk (kB (by (with_reducible repeat (fail)); exact BKgb.1) hb); clear HB; have HB := n0_; clear n0_; clear BKgb; have BKgb := m0_; clear m0_; clear hb; have z_w2gb_0 : w2.cell? ⟨gb, 0, none⟩ = some (.int .i64 a0_0) := (kC BKgb.1 0).trans rfl; have z_w2gb_1 : w2.cell? ⟨gb, 1, none⟩ = some (.int .i64 a0_1) := (kC BKgb.1 1).trans rfl; have z_w2gb_2 : w2.cell? ⟨gb, 2, none⟩ = some (.slice A0_2 l0_2.length c0_2) := (kC BKgb.1 2).trans rfl; have z_w2gb_3 : w2.cell? ⟨gb, 3, none⟩ = some (.slice A0_3 l0_3.length c0_3) := (kC BKgb.1 3).trans rfl))
 go_ret
 exact ⟨rfl, by repeat (first | (with_reducible first | exact HB.1 ) )⟩
set_option maxHeartbeats 2000000 in
set_option maxRecDepth 100000 in
theorem check_4 (a0_0 : Int) (a0_1 : Int) (A0_2 : Option Addr) (c0_2 : Nat) (l0_2 : List (S91)) (A0_3 : Option Addr) (c0_3 : Nat) (l0_3 : List Int) (w : World) (hr0_2 : Kd.C k91 w A0_2 l0_2.length l0_2) (hc0_2 : l0_2.length ≤ c0_2) (hr0_3 : Kd.C (Kd.int .i64) w A0_3 l0_3.length l0_3) (hc0_3 : l0_3.length ≤ c0_3) (hk5 : ¬ 5 < l0_2.length) (hd8 : ¬ 8 < l0_3.length) (hsz : inB a0_0 13 41 = true) (hpr : primeB a0_0 = true) (hwd : inB a0_1 1 a0_0 = false) :
  Calls Try.prog 18 #[.agg #[.int .i64 a0_0, .int .i64 a0_1, .slice A0_2 l0_2.length c0_2, .slice A0_3 l0_3.length c0_3]] w fun e w' => e = .returned (.int .i64 1) ∧ Below w.heap.size w w' := by
 have hu32 := Try.underlying32
 have HR0_2 := Sd.mk hr0_2
 have HC0_2 := Sd.mk hc0_2
 have HR0_3 := Sd.mk hr0_3
 have HC0_3 := Sd.mk hc0_3
 clear hr0_2 hc0_2 hr0_3 hc0_3
 have HB := Sd.mk (Below.refl w.heap.size w)
 have HS := Sd.mk (inB_iff.1 hsz)
 have HL := Sd.mk (show l0_2.length ≤ 5 by omega)
 have fk5 : decide ((5 : Int) < (l0_2.length : Int)) = false := decide_eq_false (by omega)
 have fd8 : decide ((8 : Int) < (l0_3.length : Int)) = false := decide_eq_false (by omega)
 clear hk5
 clear hd8
 go_enter Try.func18, Try.ntmps18
 go_wp2_with (first | ((with_reducible refine gD (N := 1) rfl ?_); (try (refine gG (by rfl) ?_; dsimp only)); refine xE ?hg (N := 1) ?hd (cs := #[.int .i64 a0_0, .int .i64 a0_1, .slice A0_2 l0_2.length c0_2, .slice A0_3 l0_3.length c0_3]) (t := 32) ?hr ?_; (case hd => rfl); (case hg => rfl); (case hr => first | (go_simp; done) ); intro gb hg w1 hbox hb; have BKgb := Sd.mk hbox; have GEgb := Sd.mk ((by rw [hg]; exact (bZ (by repeat (first | (with_reducible first | exact HB.1 ) )))) : w.heap.size ≤ gb); replace HB := Sd.mk (bT (by repeat (first | (with_reducible first | exact HB.1 ) )) hb); clear hb hbox hg; have z_w1gb_0 : w1.cell? ⟨gb, 0, none⟩ = some (.int .i64 a0_0) := (kC BKgb.1 0).trans rfl; have z_w1gb_1 : w1.cell? ⟨gb, 1, none⟩ = some (.int .i64 a0_1) := (kC BKgb.1 1).trans rfl; have z_w1gb_2 : w1.cell? ⟨gb, 2, none⟩ = some (.slice A0_2 l0_2.length c0_2) := (kC BKgb.1 2).trans rfl; have z_w1gb_3 : w1.cell? ⟨gb, 3, none⟩ = some (.slice A0_3 l0_3.length c0_3) := (kC BKgb.1 3).trans rfl))
 go_region
 go_wp2_with (first | (go_at_call 51; (with_reducible refine (cipher_within.calls _ _ _ _ _ (within_f _ _ _)).mono ?_); rintro e w' ⟨rfl, ⟨nd, rfl⟩⟩) | (go_at_call 52; (with_reducible refine (prime_is _ _ HS.1.1 HS.1.2).mono ?_); rintro e w2 ⟨rfl, hb⟩; have n0_ := Sd.mk (bT (by repeat (first | (with_reducible first | exact HB.1 | apply bN ) )) hb); have m0_ := Sd.mk (kB (by (with_reducible repeat (fail)); exact BKgb.1) hb); clear HB; have HB := n0_; clear n0_; clear BKgb; have BKgb := m0_; clear m0_; clear hb; have z_w2gb_0 : w2.cell? ⟨gb, 0, none⟩ = some (.int .i64 a0_0) := (kC BKgb.1 0).trans rfl; have z_w2gb_1 : w2.cell? ⟨gb, 1, none⟩ = some (.int .i64 a0_1) := (kC BKgb.1 1).trans rfl; have z_w2gb_2 : w2.cell? ⟨gb, 2, none⟩ = some (.slice A0_2 l0_2.length c0_2) := (kC BKgb.1 2).trans rfl; have z_w2gb_3 : w2.cell? ⟨gb, 3, none⟩ = some (.slice A0_3 l0_3.length c0_3) := (kC BKgb.1 3).trans rfl))
 go_ret
 exact ⟨rfl, by repeat (first | (with_reducible first | exact HB.1 | apply bN ) )⟩
set_option maxHeartbeats 2000000 in
set_option maxRecDepth 100000 in
theorem check_5 (a0_0 : Int) (a0_1 : Int) (A0_2 : Option Addr) (c0_2 : Nat) (l0_2 : List (S91)) (A0_3 : Option Addr) (c0_3 : Nat) (l0_3 : List Int) (w : World) (hr0_2 : Kd.C k91 w A0_2 l0_2.length l0_2) (hc0_2 : l0_2.length ≤ c0_2) (hr0_3 : Kd.C (Kd.int .i64) w A0_3 l0_3.length l0_3) (hc0_3 : l0_3.length ≤ c0_3) (hk5 : ¬ 5 < l0_2.length) (hd8 : ¬ 8 < l0_3.length) (hsz : inB a0_0 13 41 = true) (hpr : primeB a0_0 = true) (hwd : inB a0_1 1 a0_0 = true) (hk0 : l0_2.length = 0) :
  Calls Try.prog 18 #[.agg #[.int .i64 a0_0, .int .i64 a0_1, .slice A0_2 l0_2.length c0_2, .slice A0_3 l0_3.length c0_3]] w fun e w' => e = .returned (.int .i64 1) ∧ Below w.heap.size w w' := by
 have hu32 := Try.underlying32
 have HR0_2 := Sd.mk hr0_2
 have HC0_2 := Sd.mk hc0_2
 have HR0_3 := Sd.mk hr0_3
 have HC0_3 := Sd.mk hc0_3
 clear hr0_2 hc0_2 hr0_3 hc0_3
 have HB := Sd.mk (Below.refl w.heap.size w)
 have HS := Sd.mk (inB_iff.1 hsz)
 have HL := Sd.mk (show l0_2.length ≤ 5 by omega)
 have fk5 : decide ((5 : Int) < (l0_2.length : Int)) = false := decide_eq_false (by omega)
 have fd8 : decide ((8 : Int) < (l0_3.length : Int)) = false := decide_eq_false (by omega)
 have fk0 : ((l0_2.length : Int) == 0) = true := by simp; exact List.eq_nil_of_length_eq_zero hk0
 clear hk5
 clear hd8
 clear hk0
 go_enter Try.func18, Try.ntmps18
 go_wp2_with (first | ((with_reducible refine gD (N := 1) rfl ?_); (try (refine gG (by rfl) ?_; dsimp only)); refine xE ?hg (N := 1) ?hd (cs := #[.int .i64 a0_0, .int .i64 a0_1, .slice A0_2 l0_2.length c0_2, .slice A0_3 l0_3.length c0_3]) (t := 32) ?hr ?_; (case hd => rfl); (case hg => rfl); (case hr => first | (go_simp; done) ); intro gb hg w1 hbox hb; have BKgb := Sd.mk hbox; have GEgb := Sd.mk ((by rw [hg]; exact (bZ (by repeat (first | (with_reducible first | exact HB.1 ) )))) : w.heap.size ≤ gb); replace HB := Sd.mk (bT (by repeat (first | (with_reducible first | exact HB.1 ) )) hb); clear hb hbox hg; have z_w1gb_0 : w1.cell? ⟨gb, 0, none⟩ = some (.int .i64 a0_0) := (kC BKgb.1 0).trans rfl; have z_w1gb_1 : w1.cell? ⟨gb, 1, none⟩ = some (.int .i64 a0_1) := (kC BKgb.1 1).trans rfl; have z_w1gb_2 : w1.cell? ⟨gb, 2, none⟩ = some (.slice A0_2 l0_2.length c0_2) := (kC BKgb.1 2).trans rfl; have z_w1gb_3 : w1.cell? ⟨gb, 3, none⟩ = some (.slice A0_3 l0_3.length c0_3) := (kC BKgb.1 3).trans rfl))
 go_region
 go_wp2_with (first | (go_at_call 51; (with_reducible refine (cipher_within.calls _ _ _ _ _ (within_f _ _ _)).mono ?_); rintro e w' ⟨rfl, ⟨nd, rfl⟩⟩) | (go_at_call 52; (with_reducible refine (prime_is _ _ HS.1.1 HS.1.2).mono ?_); rintro e w2 ⟨rfl, hb⟩; have n0_ := Sd.mk (bT (by repeat (first | (with_reducible first | exact HB.1 | apply bN ) )) hb); have m0_ := Sd.mk (kB (by (with_reducible repeat (fail)); exact BKgb.1) hb); clear HB; have HB := n0_; clear n0_; clear BKgb; have BKgb := m0_; clear m0_; clear hb; have z_w2gb_0 : w2.cell? ⟨gb, 0, none⟩ = some (.int .i64 a0_0) := (kC BKgb.1 0).trans rfl; have z_w2gb_1 : w2.cell? ⟨gb, 1, none⟩ = some (.int .i64 a0_1) := (kC BKgb.1 1).trans rfl; have z_w2gb_2 : w2.cell? ⟨gb, 2, none⟩ = some (.slice A0_2 l0_2.length c0_2) := (kC BKgb.1 2).trans rfl; have z_w2gb_3 : w2.cell? ⟨gb, 3, none⟩ = some (.slice A0_3 l0_3.length c0_3) := (kC BKgb.1 3).trans rfl))
 go_ret
 exact ⟨rfl, by repeat (first | (with_reducible first | exact HB.1 | apply bN ) )⟩
set_option maxHeartbeats 2000000 in
set_option maxRecDepth 100000 in
theorem check_6 (a0_0 : Int) (a0_1 : Int) (A0_2 : Option Addr) (c0_2 : Nat) (l0_2 : List (S91)) (A0_3 : Option Addr) (c0_3 : Nat) (l0_3 : List Int) (w : World) (hr0_2 : Kd.C k91 w A0_2 l0_2.length l0_2) (hc0_2 : l0_2.length ≤ c0_2) (hr0_3 : Kd.C (Kd.int .i64) w A0_3 l0_3.length l0_3) (hc0_3 : l0_3.length ≤ c0_3) (hk5 : ¬ 5 < l0_2.length) (hd8 : ¬ 8 < l0_3.length) (hsz : inB a0_0 13 41 = true) (hpr : primeB a0_0 = true) (hwd : inB a0_1 1 a0_0 = true) (hk0 : ¬ l0_2.length = 0) (hd0 : l0_3.length = 0) :
  Calls Try.prog 18 #[.agg #[.int .i64 a0_0, .int .i64 a0_1, .slice A0_2 l0_2.length c0_2, .slice A0_3 l0_3.length c0_3]] w fun e w' => e = .returned (.int .i64 1) ∧ Below w.heap.size w w' := by
 have hu32 := Try.underlying32
 have HR0_2 := Sd.mk hr0_2
 have HC0_2 := Sd.mk hc0_2
 have HR0_3 := Sd.mk hr0_3
 have HC0_3 := Sd.mk hc0_3
 clear hr0_2 hc0_2 hr0_3 hc0_3
 have HB := Sd.mk (Below.refl w.heap.size w)
 have HS := Sd.mk (inB_iff.1 hsz)
 have HL := Sd.mk (show l0_2.length ≤ 5 by omega)
 have fk5 : decide ((5 : Int) < (l0_2.length : Int)) = false := decide_eq_false (by omega)
 have fd8 : decide ((8 : Int) < (l0_3.length : Int)) = false := decide_eq_false (by omega)
 have fk0 : ((l0_2.length : Int) == 0) = false := by simp; intro h_; simp [h_] at hk0
 have fd0 : ((l0_3.length : Int) == 0) = true := by simp; exact List.eq_nil_of_length_eq_zero hd0
 clear hk5
 clear hd8
 clear hk0
 clear hd0
 go_enter Try.func18, Try.ntmps18
 go_wp2_with (first | ((with_reducible refine gD (N := 1) rfl ?_); (try (refine gG (by rfl) ?_; dsimp only)); refine xE ?hg (N := 1) ?hd (cs := #[.int .i64 a0_0, .int .i64 a0_1, .slice A0_2 l0_2.length c0_2, .slice A0_3 l0_3.length c0_3]) (t := 32) ?hr ?_; (case hd => rfl); (case hg => rfl); (case hr => first | (go_simp; done) ); intro gb hg w1 hbox hb; have BKgb := Sd.mk hbox; have GEgb := Sd.mk ((by rw [hg]; exact (bZ (by repeat (first | (with_reducible first | exact HB.1 ) )))) : w.heap.size ≤ gb); replace HB := Sd.mk (bT (by repeat (first | (with_reducible first | exact HB.1 ) )) hb); clear hb hbox hg; have z_w1gb_0 : w1.cell? ⟨gb, 0, none⟩ = some (.int .i64 a0_0) := (kC BKgb.1 0).trans rfl; have z_w1gb_1 : w1.cell? ⟨gb, 1, none⟩ = some (.int .i64 a0_1) := (kC BKgb.1 1).trans rfl; have z_w1gb_2 : w1.cell? ⟨gb, 2, none⟩ = some (.slice A0_2 l0_2.length c0_2) := (kC BKgb.1 2).trans rfl; have z_w1gb_3 : w1.cell? ⟨gb, 3, none⟩ = some (.slice A0_3 l0_3.length c0_3) := (kC BKgb.1 3).trans rfl))
 go_region
 go_wp2_with (first | (go_at_call 51; (with_reducible refine (cipher_within.calls _ _ _ _ _ (within_f _ _ _)).mono ?_); rintro e w' ⟨rfl, ⟨nd, rfl⟩⟩) | (go_at_call 52; (with_reducible refine (prime_is _ _ HS.1.1 HS.1.2).mono ?_); rintro e w2 ⟨rfl, hb⟩; have n0_ := Sd.mk (bT (by repeat (first | (with_reducible first | exact HB.1 | apply bN ) )) hb); have m0_ := Sd.mk (kB (by (with_reducible repeat (fail)); exact BKgb.1) hb); clear HB; have HB := n0_; clear n0_; clear BKgb; have BKgb := m0_; clear m0_; clear hb; have z_w2gb_0 : w2.cell? ⟨gb, 0, none⟩ = some (.int .i64 a0_0) := (kC BKgb.1 0).trans rfl; have z_w2gb_1 : w2.cell? ⟨gb, 1, none⟩ = some (.int .i64 a0_1) := (kC BKgb.1 1).trans rfl; have z_w2gb_2 : w2.cell? ⟨gb, 2, none⟩ = some (.slice A0_2 l0_2.length c0_2) := (kC BKgb.1 2).trans rfl; have z_w2gb_3 : w2.cell? ⟨gb, 3, none⟩ = some (.slice A0_3 l0_3.length c0_3) := (kC BKgb.1 3).trans rfl))
 go_ret
 exact ⟨rfl, by repeat (first | (with_reducible first | exact HB.1 | apply bN ) )⟩
set_option maxHeartbeats 2000000 in
set_option maxRecDepth 100000 in
theorem check_7 (a0_0 : Int) (a0_1 : Int) (A0_2 : Option Addr) (c0_2 : Nat) (l0_2 : List (S91)) (A0_3 : Option Addr) (c0_3 : Nat) (l0_3 : List Int) (w : World) (hr0_2 : Kd.C k91 w A0_2 l0_2.length l0_2) (hc0_2 : l0_2.length ≤ c0_2) (hr0_3 : Kd.C (Kd.int .i64) w A0_3 l0_3.length l0_3) (hc0_3 : l0_3.length ≤ c0_3) (hk5 : ¬ 5 < l0_2.length) (hd8 : ¬ 8 < l0_3.length) (hsz : inB a0_0 13 41 = true) (hpr : primeB a0_0 = true) (hwd : inB a0_1 1 a0_0 = true) (hk0 : ¬ l0_2.length = 0) (hd0 : ¬ l0_3.length = 0) (hka : l0_2.all (keyB a0_0) = false) :
  Calls Try.prog 18 #[.agg #[.int .i64 a0_0, .int .i64 a0_1, .slice A0_2 l0_2.length c0_2, .slice A0_3 l0_3.length c0_3]] w fun e w' => e = .returned (.int .i64 1) ∧ Below w.heap.size w w' := by
 have hu32 := Try.underlying32
 have HR0_2 := Sd.mk hr0_2
 have HC0_2 := Sd.mk hc0_2
 have HR0_3 := Sd.mk hr0_3
 have HC0_3 := Sd.mk hc0_3
 clear hr0_2 hc0_2 hr0_3 hc0_3
 have HB := Sd.mk (Below.refl w.heap.size w)
 have HS := Sd.mk (inB_iff.1 hsz)
 have HL := Sd.mk (show l0_2.length ≤ 5 by omega)
 have fk5 : decide ((5 : Int) < (l0_2.length : Int)) = false := decide_eq_false (by omega)
 have fd8 : decide ((8 : Int) < (l0_3.length : Int)) = false := decide_eq_false (by omega)
 have fk0 : ((l0_2.length : Int) == 0) = false := by simp; intro h_; simp [h_] at hk0
 have fd0 : ((l0_3.length : Int) == 0) = false := by simp; intro h_; simp [h_] at hd0
 clear hk5
 clear hd8
 clear hk0
 clear hd0
 go_enter Try.func18, Try.ntmps18
 go_wp2_with (first | ((with_reducible refine gD (N := 1) rfl ?_); (try (refine gG (by rfl) ?_; dsimp only)); refine xE ?hg (N := 1) ?hd (cs := #[.int .i64 a0_0, .int .i64 a0_1, .slice A0_2 l0_2.length c0_2, .slice A0_3 l0_3.length c0_3]) (t := 32) ?hr ?_; (case hd => rfl); (case hg => rfl); (case hr => first | (go_simp; done) ); intro gb hg w1 hbox hb; have BKgb := Sd.mk hbox; have GEgb := Sd.mk ((by rw [hg]; exact (bZ (by repeat (first | (with_reducible first | exact HB.1 ) )))) : w.heap.size ≤ gb); replace HB := Sd.mk (bT (by repeat (first | (with_reducible first | exact HB.1 ) )) hb); clear hb hbox hg; have z_w1gb_0 : w1.cell? ⟨gb, 0, none⟩ = some (.int .i64 a0_0) := (kC BKgb.1 0).trans rfl; have z_w1gb_1 : w1.cell? ⟨gb, 1, none⟩ = some (.int .i64 a0_1) := (kC BKgb.1 1).trans rfl; have z_w1gb_2 : w1.cell? ⟨gb, 2, none⟩ = some (.slice A0_2 l0_2.length c0_2) := (kC BKgb.1 2).trans rfl; have z_w1gb_3 : w1.cell? ⟨gb, 3, none⟩ = some (.slice A0_3 l0_3.length c0_3) := (kC BKgb.1 3).trans rfl))
 go_region
 go_wp2_with (first | (go_at_call 51; (with_reducible refine (cipher_within.calls _ _ _ _ _ (within_f _ _ _)).mono ?_); rintro e w' ⟨rfl, ⟨nd, rfl⟩⟩) | (go_at_call 52; (with_reducible refine (prime_is _ _ HS.1.1 HS.1.2).mono ?_); rintro e w2 ⟨rfl, hb⟩; have n0_ := Sd.mk (bT (by repeat (first | (with_reducible first | exact HB.1 | apply bN ) )) hb); have m0_ := Sd.mk (kB (by (with_reducible repeat (fail)); exact BKgb.1) hb); clear HB; have HB := n0_; clear n0_; clear BKgb; have BKgb := m0_; clear m0_; clear hb; have z_w2gb_0 : w2.cell? ⟨gb, 0, none⟩ = some (.int .i64 a0_0) := (kC BKgb.1 0).trans rfl; have z_w2gb_1 : w2.cell? ⟨gb, 1, none⟩ = some (.int .i64 a0_1) := (kC BKgb.1 1).trans rfl; have z_w2gb_2 : w2.cell? ⟨gb, 2, none⟩ = some (.slice A0_2 l0_2.length c0_2) := (kC BKgb.1 2).trans rfl; have z_w2gb_3 : w2.cell? ⟨gb, 3, none⟩ = some (.slice A0_3 l0_3.length c0_3) := (kC BKgb.1 3).trans rfl) | (go_at_call 53; refine (allKey 49 #[.agg #[.int .i64 a0_0, .int .i64 a0_1, .slice A0_2 l0_2.length c0_2, .slice A0_3 l0_3.length c0_3]] #[] A0_2 c0_2 l0_2 (keyB a0_0) _ (Kd.C_below HR0_2.1 (by repeat (first | (with_reducible first | exact HB.1 | apply bN ) ))) ⟨fun args w => by go_simp, fun x hx W hW => ?ft⟩).mono ?_; (case ft => have hb2 := below_grow (by repeat (first | (with_reducible first | exact HB.1 | apply bN ) )) hW; have h2 := cipher_Book_key.calls a0_0 a0_1 A0_2 c0_2 l0_2 A0_3 c0_3 l0_3 x.f0 x.f1 x.f2 (keyB a0_0 x) W (Kd.C_below HR0_2.1 hb2) HC0_2.1 (Kd.C_below HR0_3.1 hb2) HC0_3.1 (key_f _ _ _ _ _ (by have := HS.1; omega) (by have := HS.1; omega)); exact h2); rintro e w3 ⟨rfl, hb⟩; have n0_ := Sd.mk (bT (by repeat (first | (with_reducible first | exact HB.1 | apply bN ) )) hb); have m0_ := Sd.mk (kB (by (with_reducible repeat (fail)); exact BKgb.1) hb); clear HB; have HB := n0_; clear n0_; clear BKgb; have BKgb := m0_; clear m0_; clear hb; have z_w3gb_3 : w3.cell? ⟨gb, 3, none⟩ = some (.slice A0_3 l0_3.length c0_3) := (kC BKgb.1 3).trans rfl))
 go_ret
 exact ⟨rfl, by repeat (first | (with_reducible first | exact HB.1 ) )⟩
set_option maxHeartbeats 2000000 in
set_option maxRecDepth 100000 in
theorem check_8 (a0_0 : Int) (a0_1 : Int) (A0_2 : Option Addr) (c0_2 : Nat) (l0_2 : List (S91)) (A0_3 : Option Addr) (c0_3 : Nat) (l0_3 : List Int) (w : World) (hr0_2 : Kd.C k91 w A0_2 l0_2.length l0_2) (hc0_2 : l0_2.length ≤ c0_2) (hr0_3 : Kd.C (Kd.int .i64) w A0_3 l0_3.length l0_3) (hc0_3 : l0_3.length ≤ c0_3) (hk5 : ¬ 5 < l0_2.length) (hd8 : ¬ 8 < l0_3.length) (hsz : inB a0_0 13 41 = true) (hpr : primeB a0_0 = true) (hwd : inB a0_1 1 a0_0 = true) (hk0 : ¬ l0_2.length = 0) (hd0 : ¬ l0_3.length = 0) (hka : l0_2.all (keyB a0_0) = true) (hda : l0_3.all (ownB l0_2.length) = false) :
  Calls Try.prog 18 #[.agg #[.int .i64 a0_0, .int .i64 a0_1, .slice A0_2 l0_2.length c0_2, .slice A0_3 l0_3.length c0_3]] w fun e w' => e = .returned (.int .i64 1) ∧ Below w.heap.size w w' := by
 have hu32 := Try.underlying32
 have HR0_2 := Sd.mk hr0_2
 have HC0_2 := Sd.mk hc0_2
 have HR0_3 := Sd.mk hr0_3
 have HC0_3 := Sd.mk hc0_3
 clear hr0_2 hc0_2 hr0_3 hc0_3
 have HB := Sd.mk (Below.refl w.heap.size w)
 have HS := Sd.mk (inB_iff.1 hsz)
 have HL := Sd.mk (show l0_2.length ≤ 5 by omega)
 have fk5 : decide ((5 : Int) < (l0_2.length : Int)) = false := decide_eq_false (by omega)
 have fd8 : decide ((8 : Int) < (l0_3.length : Int)) = false := decide_eq_false (by omega)
 have fk0 : ((l0_2.length : Int) == 0) = false := by simp; intro h_; simp [h_] at hk0
 have fd0 : ((l0_3.length : Int) == 0) = false := by simp; intro h_; simp [h_] at hd0
 clear hk5
 clear hd8
 clear hk0
 clear hd0
 go_enter Try.func18, Try.ntmps18
 go_wp2_with (first | ((with_reducible refine gD (N := 1) rfl ?_); (try (refine gG (by rfl) ?_; dsimp only)); refine xE ?hg (N := 1) ?hd (cs := #[.int .i64 a0_0, .int .i64 a0_1, .slice A0_2 l0_2.length c0_2, .slice A0_3 l0_3.length c0_3]) (t := 32) ?hr ?_; (case hd => rfl); (case hg => rfl); (case hr => first | (go_simp; done) ); intro gb hg w1 hbox hb; have BKgb := Sd.mk hbox; have GEgb := Sd.mk ((by rw [hg]; exact (bZ (by repeat (first | (with_reducible first | exact HB.1 ) )))) : w.heap.size ≤ gb); replace HB := Sd.mk (bT (by repeat (first | (with_reducible first | exact HB.1 ) )) hb); clear hb hbox hg; have z_w1gb_0 : w1.cell? ⟨gb, 0, none⟩ = some (.int .i64 a0_0) := (kC BKgb.1 0).trans rfl; have z_w1gb_1 : w1.cell? ⟨gb, 1, none⟩ = some (.int .i64 a0_1) := (kC BKgb.1 1).trans rfl; have z_w1gb_2 : w1.cell? ⟨gb, 2, none⟩ = some (.slice A0_2 l0_2.length c0_2) := (kC BKgb.1 2).trans rfl; have z_w1gb_3 : w1.cell? ⟨gb, 3, none⟩ = some (.slice A0_3 l0_3.length c0_3) := (kC BKgb.1 3).trans rfl))
 go_region
 go_wp2_with (first | (go_at_call 51; (with_reducible refine (cipher_within.calls _ _ _ _ _ (within_f _ _ _)).mono ?_); rintro e w' ⟨rfl, ⟨nd, rfl⟩⟩) | (go_at_call 52; (with_reducible refine (prime_is _ _ HS.1.1 HS.1.2).mono ?_); rintro e w2 ⟨rfl, hb⟩; have n0_ := Sd.mk (bT (by repeat (first | (with_reducible first | exact HB.1 | apply bN ) )) hb); have m0_ := Sd.mk (kB (by (with_reducible repeat (fail)); exact BKgb.1) hb); clear HB; have HB := n0_; clear n0_; clear BKgb; have BKgb := m0_; clear m0_; clear hb; have z_w2gb_0 : w2.cell? ⟨gb, 0, none⟩ = some (.int .i64 a0_0) := (kC BKgb.1 0).trans rfl; have z_w2gb_1 : w2.cell? ⟨gb, 1, none⟩ = some (.int .i64 a0_1) := (kC BKgb.1 1).trans rfl; have z_w2gb_2 : w2.cell? ⟨gb, 2, none⟩ = some (.slice A0_2 l0_2.length c0_2) := (kC BKgb.1 2).trans rfl; have z_w2gb_3 : w2.cell? ⟨gb, 3, none⟩ = some (.slice A0_3 l0_3.length c0_3) := (kC BKgb.1 3).trans rfl) | (go_at_call 53; refine (allKey 49 #[.agg #[.int .i64 a0_0, .int .i64 a0_1, .slice A0_2 l0_2.length c0_2, .slice A0_3 l0_3.length c0_3]] #[] A0_2 c0_2 l0_2 (keyB a0_0) _ (Kd.C_below HR0_2.1 (by repeat (first | (with_reducible first | exact HB.1 | apply bN ) ))) ⟨fun args w => by go_simp, fun x hx W hW => ?ft⟩).mono ?_; (case ft => have hb2 := below_grow (by repeat (first | (with_reducible first | exact HB.1 | apply bN ) )) hW; have h2 := cipher_Book_key.calls a0_0 a0_1 A0_2 c0_2 l0_2 A0_3 c0_3 l0_3 x.f0 x.f1 x.f2 (keyB a0_0 x) W (Kd.C_below HR0_2.1 hb2) HC0_2.1 (Kd.C_below HR0_3.1 hb2) HC0_3.1 (key_f _ _ _ _ _ (by have := HS.1; omega) (by have := HS.1; omega)); exact h2); rintro e w3 ⟨rfl, hb⟩; have n0_ := Sd.mk (bT (by repeat (first | (with_reducible first | exact HB.1 | apply bN ) )) hb); have m0_ := Sd.mk (kB (by (with_reducible repeat (fail)); exact BKgb.1) hb); clear HB; have HB := n0_; clear n0_; clear BKgb; have BKgb := m0_; clear m0_; clear hb; have z_w3gb_3 : w3.cell? ⟨gb, 3, none⟩ = some (.slice A0_3 l0_3.length c0_3) := (kC BKgb.1 3).trans rfl) | (go_at_call 54; refine (allInt 50 #[.agg #[.int .i64 a0_0, .int .i64 a0_1, .slice A0_2 l0_2.length c0_2, .slice A0_3 l0_3.length c0_3]] #[] A0_3 c0_3 l0_3 (ownB l0_2.length) _ (Kd.C_below HR0_3.1 (by repeat (first | (with_reducible first | exact HB.1 ) ))) ⟨fun args w => by go_simp, fun x hx W hW => ?ft⟩).mono ?_; (case ft => have hb2 := below_grow (by repeat (first | (with_reducible first | exact HB.1 ) )) hW; have h2 := cipher_Book_own.calls a0_0 a0_1 A0_2 c0_2 l0_2 A0_3 c0_3 l0_3 x (ownB l0_2.length x) W (Kd.C_below HR0_2.1 hb2) HC0_2.1 (Kd.C_below HR0_3.1 hb2) HC0_3.1 (own_f _ _ _ _ _ HL.1); exact h2); rintro e w4 ⟨rfl, hb⟩; have n0_ := Sd.mk (bT (by repeat (first | (with_reducible first | exact HB.1 ) )) hb); have m0_ := Sd.mk (kB (by (with_reducible repeat (fail)); exact BKgb.1) hb); clear HB; have HB := n0_; clear n0_; clear BKgb; have BKgb := m0_; clear m0_; clear hb))
 go_ret
 exact ⟨rfl, by repeat (first | (with_reducible first | exact HB.1 ) )⟩
set_option maxHeartbeats 2000000 in
set_option maxRecDepth 100000 in
theorem check_9 (a0_0 : Int) (a0_1 : Int) (A0_2 : Option Addr) (c0_2 : Nat) (l0_2 : List (S91)) (A0_3 : Option Addr) (c0_3 : Nat) (l0_3 : List Int) (w : World) (hr0_2 : Kd.C k91 w A0_2 l0_2.length l0_2) (hc0_2 : l0_2.length ≤ c0_2) (hr0_3 : Kd.C (Kd.int .i64) w A0_3 l0_3.length l0_3) (hc0_3 : l0_3.length ≤ c0_3) (hk5 : ¬ 5 < l0_2.length) (hd8 : ¬ 8 < l0_3.length) (hsz : inB a0_0 13 41 = true) (hpr : primeB a0_0 = true) (hwd : inB a0_1 1 a0_0 = true) (hk0 : ¬ l0_2.length = 0) (hd0 : ¬ l0_3.length = 0) (hka : l0_2.all (keyB a0_0) = true) (hda : l0_3.all (ownB l0_2.length) = true) :
  Calls Try.prog 18 #[.agg #[.int .i64 a0_0, .int .i64 a0_1, .slice A0_2 l0_2.length c0_2, .slice A0_3 l0_3.length c0_3]] w fun e w' => e = .returned (.int .i64 0) ∧ Below w.heap.size w w' := by
 have hu32 := Try.underlying32
 have HR0_2 := Sd.mk hr0_2
 have HC0_2 := Sd.mk hc0_2
 have HR0_3 := Sd.mk hr0_3
 have HC0_3 := Sd.mk hc0_3
 clear hr0_2 hc0_2 hr0_3 hc0_3
 have HB := Sd.mk (Below.refl w.heap.size w)
 have HS := Sd.mk (inB_iff.1 hsz)
 have HL := Sd.mk (show l0_2.length ≤ 5 by omega)
 have fk5 : decide ((5 : Int) < (l0_2.length : Int)) = false := decide_eq_false (by omega)
 have fd8 : decide ((8 : Int) < (l0_3.length : Int)) = false := decide_eq_false (by omega)
 have fk0 : ((l0_2.length : Int) == 0) = false := by simp; intro h_; simp [h_] at hk0
 have fd0 : ((l0_3.length : Int) == 0) = false := by simp; intro h_; simp [h_] at hd0
 clear hk5
 clear hd8
 clear hk0
 clear hd0
 go_enter Try.func18, Try.ntmps18
 go_wp2_with (first | ((with_reducible refine gD (N := 1) rfl ?_); (try (refine gG (by rfl) ?_; dsimp only)); refine xE ?hg (N := 1) ?hd (cs := #[.int .i64 a0_0, .int .i64 a0_1, .slice A0_2 l0_2.length c0_2, .slice A0_3 l0_3.length c0_3]) (t := 32) ?hr ?_; (case hd => rfl); (case hg => rfl); (case hr => first | (go_simp; done) ); intro gb hg w1 hbox hb; have BKgb := Sd.mk hbox; have GEgb := Sd.mk ((by rw [hg]; exact (bZ (by repeat (first | (with_reducible first | exact HB.1 ) )))) : w.heap.size ≤ gb); replace HB := Sd.mk (bT (by repeat (first | (with_reducible first | exact HB.1 ) )) hb); clear hb hbox hg; have z_w1gb_0 : w1.cell? ⟨gb, 0, none⟩ = some (.int .i64 a0_0) := (kC BKgb.1 0).trans rfl; have z_w1gb_1 : w1.cell? ⟨gb, 1, none⟩ = some (.int .i64 a0_1) := (kC BKgb.1 1).trans rfl; have z_w1gb_2 : w1.cell? ⟨gb, 2, none⟩ = some (.slice A0_2 l0_2.length c0_2) := (kC BKgb.1 2).trans rfl; have z_w1gb_3 : w1.cell? ⟨gb, 3, none⟩ = some (.slice A0_3 l0_3.length c0_3) := (kC BKgb.1 3).trans rfl))
 go_region
 go_wp2_with (first | (go_at_call 51; (with_reducible refine (cipher_within.calls _ _ _ _ _ (within_f _ _ _)).mono ?_); rintro e w' ⟨rfl, ⟨nd, rfl⟩⟩) | (go_at_call 52; (with_reducible refine (prime_is _ _ HS.1.1 HS.1.2).mono ?_); rintro e w2 ⟨rfl, hb⟩; have n0_ := Sd.mk (bT (by repeat (first | (with_reducible first | exact HB.1 | apply bN ) )) hb); have m0_ := Sd.mk (kB (by (with_reducible repeat (fail)); exact BKgb.1) hb); clear HB; have HB := n0_; clear n0_; clear BKgb; have BKgb := m0_; clear m0_; clear hb; have z_w2gb_0 : w2.cell? ⟨gb, 0, none⟩ = some (.int .i64 a0_0) := (kC BKgb.1 0).trans rfl; have z_w2gb_1 : w2.cell? ⟨gb, 1, none⟩ = some (.int .i64 a0_1) := (kC BKgb.1 1).trans rfl; have z_w2gb_2 : w2.cell? ⟨gb, 2, none⟩ = some (.slice A0_2 l0_2.length c0_2) := (kC BKgb.1 2).trans rfl; have z_w2gb_3 : w2.cell? ⟨gb, 3, none⟩ = some (.slice A0_3 l0_3.length c0_3) := (kC BKgb.1 3).trans rfl) | (go_at_call 53; refine (allKey 49 #[.agg #[.int .i64 a0_0, .int .i64 a0_1, .slice A0_2 l0_2.length c0_2, .slice A0_3 l0_3.length c0_3]] #[] A0_2 c0_2 l0_2 (keyB a0_0) _ (Kd.C_below HR0_2.1 (by repeat (first | (with_reducible first | exact HB.1 | apply bN ) ))) ⟨fun args w => by go_simp, fun x hx W hW => ?ft⟩).mono ?_; (case ft => have hb2 := below_grow (by repeat (first | (with_reducible first | exact HB.1 | apply bN ) )) hW; have h2 := cipher_Book_key.calls a0_0 a0_1 A0_2 c0_2 l0_2 A0_3 c0_3 l0_3 x.f0 x.f1 x.f2 (keyB a0_0 x) W (Kd.C_below HR0_2.1 hb2) HC0_2.1 (Kd.C_below HR0_3.1 hb2) HC0_3.1 (key_f _ _ _ _ _ (by have := HS.1; omega) (by have := HS.1; omega)); exact h2); rintro e w3 ⟨rfl, hb⟩; have n0_ := Sd.mk (bT (by repeat (first | (with_reducible first | exact HB.1 | apply bN ) )) hb); have m0_ := Sd.mk (kB (by (with_reducible repeat (fail)); exact BKgb.1) hb); clear HB; have HB := n0_; clear n0_; clear BKgb; have BKgb := m0_; clear m0_; clear hb; have z_w3gb_3 : w3.cell? ⟨gb, 3, none⟩ = some (.slice A0_3 l0_3.length c0_3) := (kC BKgb.1 3).trans rfl) | (go_at_call 54; refine (allInt 50 #[.agg #[.int .i64 a0_0, .int .i64 a0_1, .slice A0_2 l0_2.length c0_2, .slice A0_3 l0_3.length c0_3]] #[] A0_3 c0_3 l0_3 (ownB l0_2.length) _ (Kd.C_below HR0_3.1 (by repeat (first | (with_reducible first | exact HB.1 ) ))) ⟨fun args w => by go_simp, fun x hx W hW => ?ft⟩).mono ?_; (case ft => have hb2 := below_grow (by repeat (first | (with_reducible first | exact HB.1 ) )) hW; have h2 := cipher_Book_own.calls a0_0 a0_1 A0_2 c0_2 l0_2 A0_3 c0_3 l0_3 x (ownB l0_2.length x) W (Kd.C_below HR0_2.1 hb2) HC0_2.1 (Kd.C_below HR0_3.1 hb2) HC0_3.1 (own_f _ _ _ _ _ HL.1); exact h2); rintro e w4 ⟨rfl, hb⟩; have n0_ := Sd.mk (bT (by repeat (first | (with_reducible first | exact HB.1 ) )) hb); have m0_ := Sd.mk (kB (by (with_reducible repeat (fail)); exact BKgb.1) hb); clear HB; have HB := n0_; clear n0_; clear BKgb; have BKgb := m0_; clear m0_; clear hb))
 go_ret
 exact ⟨rfl, by repeat (first | (with_reducible first | exact HB.1 ) )⟩
theorem cipher_CheckBook.calls (a0_0 : Int) (a0_1 : Int) (A0_2 : Option Addr) (c0_2 : Nat) (l0_2 : List (S91)) (A0_3 : Option Addr) (c0_3 : Nat) (l0_3 : List Int) (r : Int) (w : World) (hr0_2 : Kd.C k91 w A0_2 l0_2.length l0_2) (hc0_2 : l0_2.length ≤ c0_2) (hr0_3 : Kd.C (Kd.int .i64) w A0_3 l0_3.length l0_3) (hc0_3 : l0_3.length ≤ c0_3) (h : cipher_CheckBook.f a0_0 a0_1 l0_2 l0_3 = some r) :
  Calls Try.prog 18 #[.agg #[.int .i64 a0_0, .int .i64 a0_1, .slice A0_2 l0_2.length c0_2, .slice A0_3 l0_3.length c0_3]] w fun e w' => e = .returned (.int .i64 r) ∧ Below w.heap.size w w' := by
 obtain rfl := Option.some.inj h
 clear h
 unfold checkB
 by_cases hk5 : 5 < l0_2.length
 ·rw [if_pos hk5]; exact check_0 a0_0 a0_1 A0_2 c0_2 l0_2 A0_3 c0_3 l0_3 w hr0_2 hc0_2 hr0_3 hc0_3  hk5
 rw [if_neg hk5]
 by_cases hd8 : 8 < l0_3.length
 ·rw [if_pos hd8]; exact check_1 a0_0 a0_1 A0_2 c0_2 l0_2 A0_3 c0_3 l0_3 w hr0_2 hc0_2 hr0_3 hc0_3 hk5 hd8
 rw [if_neg hd8]
 by_cases hsz : inB a0_0 13 41 = false
 ·rw [if_pos hsz]; exact check_2 a0_0 a0_1 A0_2 c0_2 l0_2 A0_3 c0_3 l0_3 w hr0_2 hc0_2 hr0_3 hc0_3 hk5 hd8 hsz
 rw [if_neg hsz]
 replace hsz := eq_true_of_ne_false hsz
 by_cases hpr : primeB a0_0 = false
 ·rw [if_pos hpr]; exact check_3 a0_0 a0_1 A0_2 c0_2 l0_2 A0_3 c0_3 l0_3 w hr0_2 hc0_2 hr0_3 hc0_3 hk5 hd8 hsz hpr
 rw [if_neg hpr]
 replace hpr := eq_true_of_ne_false hpr
 by_cases hwd : inB a0_1 1 a0_0 = false
 ·rw [if_pos hwd]; exact check_4 a0_0 a0_1 A0_2 c0_2 l0_2 A0_3 c0_3 l0_3 w hr0_2 hc0_2 hr0_3 hc0_3 hk5 hd8 hsz hpr hwd
 rw [if_neg hwd]
 replace hwd := eq_true_of_ne_false hwd
 by_cases hk0 : l0_2.length = 0
 ·rw [if_pos hk0]; exact check_5 a0_0 a0_1 A0_2 c0_2 l0_2 A0_3 c0_3 l0_3 w hr0_2 hc0_2 hr0_3 hc0_3 hk5 hd8 hsz hpr hwd hk0
 rw [if_neg hk0]
 by_cases hd0 : l0_3.length = 0
 ·rw [if_pos hd0]; exact check_6 a0_0 a0_1 A0_2 c0_2 l0_2 A0_3 c0_3 l0_3 w hr0_2 hc0_2 hr0_3 hc0_3 hk5 hd8 hsz hpr hwd hk0 hd0
 rw [if_neg hd0]
 by_cases hka : l0_2.all (keyB a0_0) = false
 ·rw [if_pos hka]; exact check_7 a0_0 a0_1 A0_2 c0_2 l0_2 A0_3 c0_3 l0_3 w hr0_2 hc0_2 hr0_3 hc0_3 hk5 hd8 hsz hpr hwd hk0 hd0 hka
 rw [if_neg hka]
 replace hka := eq_true_of_ne_false hka
 by_cases hda : l0_3.all (ownB l0_2.length) = false
 ·rw [if_pos hda]; exact check_8 a0_0 a0_1 A0_2 c0_2 l0_2 A0_3 c0_3 l0_3 w hr0_2 hc0_2 hr0_3 hc0_3 hk5 hd8 hsz hpr hwd hk0 hd0 hka hda
 rw [if_neg hda]
 replace hda := eq_true_of_ne_false hda
 exact check_9 a0_0 a0_1 A0_2 c0_2 l0_2 A0_3 c0_3 l0_3 w hr0_2 hc0_2 hr0_3 hc0_3 hk5 hd8 hsz hpr hwd hk0 hd0 hka hda
end Go.Proofs.Ytnidgkmopocdkaa.P
