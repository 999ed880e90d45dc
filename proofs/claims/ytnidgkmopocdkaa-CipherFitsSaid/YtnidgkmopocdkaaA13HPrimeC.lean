import Derived.Test.YtnidgkmopocdkaaA13HAll
import Derived.WalkMore
namespace Go.Proofs.Ytnidgkmopocdkaa.P
open Go.RowKit Go.Proofs.YtnidgkmopocdkaaW.PrintWords Go.Proofs.YtnidgkmopocdkaaW.PrintLast Go.Proofs.YtnidgkmopocdkaaW.PrintMore
set_option linter.unusedVariables false
set_option linter.unusedSimpArgs false
def noDiv (n : Int) (d : Nat) : Prop := ∀ e : Nat, 1 < e → e < d → n % (e : Int) ≠ 0
set_option maxHeartbeats 400000 in
set_option maxRecDepth 100000 in
theorem prime_any (n : Int) (b : Bool) (w : World) (h0 : 13 ≤ n) (h1 : n ≤ 41) (hb : b = true ↔ noDiv n n.toNat) :
  Calls Try.prog 52 #[.int .i64 n] w fun e w' => e = .returned (.bool b) ∧ Below w.heap.size w w' := by
 have HB := Sd.mk (Below.refl w.heap.size w)
 have HH := Sd.mk hb
 clear hb
 go_enter Try.func52, Try.ntmps52
 go_wp2
 go_step3
 go_wp2
 go_step3
 go_wp2
 go_loopw [2, 3, 5] (fun v2 v3 v5 w' => v2 = .bool true ∧ ∃ (x5 : Nat), v5 = .int .i64 x5 ∧ (x5 : Int) ≤ n ∧ Sd (noDiv n x5) ∧ Sd (Below w.heap.size w w')) (fun v2 v3 v5 w' => n.toNat - (intOf v5).toNat)
 case atStart => exact ⟨rfl, 0, rfl, by omega, ⟨fun e he1 he2 => by omega⟩, HB⟩
 case round =>
  obtain ⟨rfl, x5, rfl, hle, HN, HB⟩ := hrel
  by_cases c1 : (x5 : Int) < n
  ·by_cases c2 : (1 : Int) < x5
   ·by_cases c3 : n % (x5 : Int) = 0
    ·have hne : ¬ ((x5 : Int) = 0) := by omega
     have hne2 : ((x5 : Int) == 0) = false := by simp; omega
     have hq : (n % (x5 : Int) == 0) = true := by simp [c3]
     have C3 := Sd.mk c3
     clear c3
     go_wp2
     try rw [Exit.noGoto_ret]
     go_ret
     refine ⟨ret_bool_eq ?_, HB.1⟩
     have h := HH.1
     cases b with
     | false => rfl
     | true => exact absurd C3.1 ((h.1 rfl) x5 (by omega) (by omega))
    ·have hne : ¬ ((x5 : Int) = 0) := by omega
     have hne2 : ((x5 : Int) == 0) = false := by simp; omega
     have hq : (n % (x5 : Int) == 0) = false := by simp [c3]
     have C3 := Sd.mk c3
     clear c3
     go_wp2
     go_roundw
     case rel => exact ⟨rfl, x5 + 1, by go_num, by omega, ⟨fun e he1 he2 => by
      by_cases ee : e = x5
      ·subst ee; exact C3.1
      ·exact HN.1 e he1 (by omega)⟩, HB⟩
     case measure => simp [intOf]; omega
   ·go_wp2
    go_roundw
    case rel => exact ⟨rfl, x5 + 1, by go_num, by omega, ⟨fun e he1 he2 => by omega⟩, HB⟩
    case measure => simp [intOf]; omega
  ·go_wp2
   go_ret
   refine ⟨ret_bool_eq ?_, HB.1⟩
   have e : n.toNat = x5 := by omega
   have h := HH.1
   rw [e] at h
   exact (h.2 HN.1).symm
def primeB (n : Int) : Bool := decide (n = 13 ∨ n = 17 ∨ n = 19 ∨ n = 23 ∨ n = 29 ∨ n = 31 ∨ n = 37 ∨ n = 41)
theorem noDiv_le (n : Int) (d : Nat) : noDiv n d ↔ ∀ e : Nat, e < d → 1 < e → n % (e : Int) ≠ 0 := ⟨fun h e a b => h e b a, fun h e a b => h e b a⟩
theorem primeB_noDiv (n : Int) (h0 : 13 ≤ n) (h1 : n ≤ 41) : primeB n = true ↔ noDiv n n.toNat := by
 rw [noDiv_le]
 obtain ⟨m, rfl⟩ : ∃ m : Nat, n = (m : Int) := ⟨n.toNat, by omega⟩
 rw [Int.toNat_natCast]
 have hm : m ∈ List.range 42 := by simp; omega
 have key : ∀ m ∈ List.range 42, 13 ≤ (m : Int) → (primeB m = true ↔ ∀ e : Nat, e < m → 1 < e → (m : Int) % (e : Int) ≠ 0) := by decide +kernel
 exact key m hm h0
theorem prime_is (n : Int) (w : World) (h0 : 13 ≤ n) (h1 : n ≤ 41) : Calls Try.prog 52 #[.int .i64 n] w fun e w' => e = .returned (.bool (primeB n)) ∧ Below w.heap.size w w' :=
 prime_any n (primeB n) w h0 h1 (primeB_noDiv n h0 h1)
end Go.Proofs.Ytnidgkmopocdkaa.P
