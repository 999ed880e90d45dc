import Derived.Test.YtnidgkmopocdkaaA13HCheck
import Derived.Test.YtnidgkmopocdkaaA13P2
namespace Go.Proofs.Ytnidgkmopocdkaa.P
open Go.RowKit Go.Proofs.YtnidgkmopocdkaaW.PrintWords Go.Proofs.YtnidgkmopocdkaaW.PrintLast Go.Proofs.YtnidgkmopocdkaaW.PrintMore
set_option linter.unusedVariables false
set_option linter.unusedSimpArgs false
def turnL (cd : Int → Int → Int) (l : List Int) (k : Nat) : List Int := (List.range k).map fun i => cd (l.getD i 0) (i : Int)
theorem turnL_succ (cd : Int → Int → Int) (l : List Int) (k : Nat) : turnL cd l (k + 1) = turnL cd l k ++ [cd (l.getD k 0) (k : Int)] := by simp [turnL, List.range_succ]
theorem turnL_length (cd : Int → Int → Int) (l : List Int) (k : Nat) : (turnL cd l k).length = k := by simp [turnL]
set_option maxHeartbeats 2000000 in
set_option maxRecDepth 100000 in
theorem turned_any (fn : Nat) (cd : Int → Int → Int) (a0_0 : Int) (a0_1 : Int) (A0_2 : Option Addr) (c0_2 : Nat) (l0_2 : List (S91)) (A0_3 : Option Addr) (c0_3 : Nat) (l0_3 : List Int) (a2_0 a2_1 a2_2 : Int) (A3 : Option Addr) (c3 : Nat) (l3 : List Int) (w : World) (hr3 : Kd.C (Kd.int .i64) w A3 l3.length l3) (hl : l3.length < 1000)
  (hrun : ∀ args w, Sem.run Try.prog (callFunc fn args) w = .ok (.enter fn args) w)
  (hcall : ∀ (i : Nat), i < l3.length → ∀ W, Below w.heap.size w W → Calls Try.prog fn #[.agg #[.int .i64 a0_0, .int .i64 a0_1, .slice A0_2 l0_2.length c0_2, .slice A0_3 l0_3.length c0_3], .agg #[.int .i64 a2_0, .int .i64 a2_1, .int .i64 a2_2], .int .i64 (l3.getD i 0), .int .i64 (i : Int)] W fun e w' => e = .returned (.int .i64 (cd (l3.getD i 0) (i : Int))) ∧ Below W.heap.size W w') :
  Calls Try.prog 59 #[.agg #[.int .i64 a0_0, .int .i64 a0_1, .slice A0_2 l0_2.length c0_2, .slice A0_3 l0_3.length c0_3], .agg #[.func (.func fn) #[] #[]], .agg #[.int .i64 a2_0, .int .i64 a2_1, .int .i64 a2_2], .slice A3 l3.length c3] w fun e w' => ∃ v0_ : Value, e = .returned (v0_) ∧ Kd.R (Kd.int .i64) 3 w' w.heap.size (fun _ => True) v0_ (turnL cd l3 l3.length) ∧ Below w.heap.size w w' := by
 have hu32 := Try.underlying32
 have hu91 := Try.underlying91
 have hu102 := Try.underlying102
 have HR3 := Sd.mk hr3
 have HL := Sd.mk hl
 have HC := Sd.mk hcall
 clear hr3 hl hcall
 have HB := Sd.mk (Below.refl w.heap.size w)
 go_enter Try.func59, Try.ntmps59
 go_wp2_with (first | ((with_reducible refine gD (N := 4) rfl ?_); (try (refine gG (by rfl) ?_; dsimp only)); refine xE ?hg (N := 4) ?hd (cs := #[.int .i64 a0_0, .int .i64 a0_1, .slice A0_2 l0_2.length c0_2, .slice A0_3 l0_3.length c0_3]) (t := 32) ?hr ?_; (case hd => rfl); (case hg => rfl); (case hr => first | (go_simp; done) ); intro gb hg w1 hbox hb; have BKgb := Sd.mk hbox; have GEgb := Sd.mk ((by rw [hg]; exact (bZ (by repeat (first | (with_reducible first | exact HB.1 ) )))) : w.heap.size ≤ gb); replace HB := Sd.mk (bT (by repeat (first | (with_reducible first | exact HB.1 ) )) hb); clear hb hbox hg) | ((with_reducible refine gD (N := 5) rfl ?_); (try (refine gG (by rfl) ?_; dsimp only)); refine xE ?hg (N := 5) ?hd (cs := #[.func (.func fn) #[] #[]]) (t := 102) ?hr ?_; (case hd => rfl); (case hg => rfl); (case hr => first | (go_simp; done) ); intro gf hg w2 hbox hb; have n0_ := Sd.mk (bT (by repeat (first | (with_reducible first | exact HB.1 ) )) hb); have n1_ := Sd.mk hbox; have n2_ := Sd.mk ((by rw [hg]; exact (bZ (by repeat (first | (with_reducible first | exact HB.1 ) )))) : w.heap.size ≤ gf); have m0_ := Sd.mk (kB (by (with_reducible repeat (fail)); exact BKgb.1) hb); clear HB; have HB := n0_; have BKgf := n1_; have GEgf := n2_; clear n0_ n1_ n2_; clear BKgb; have BKgb := m0_; clear m0_; clear hb hbox hg) | ((with_reducible refine gD (N := 6) rfl ?_); (try (refine gG (by rfl) ?_; dsimp only)); refine xE ?hg (N := 6) ?hd (cs := #[.int .i64 a2_0, .int .i64 a2_1, .int .i64 a2_2]) (t := 91) ?hr ?_; (case hd => rfl); (case hg => rfl); (case hr => first | (go_simp; done) ); intro gk hg w3 hbox hb; have n0_ := Sd.mk (bT (by repeat (first | (with_reducible first | exact HB.1 ) )) hb); have n1_ := Sd.mk hbox; have n2_ := Sd.mk ((by rw [hg]; exact (bZ (by repeat (first | (with_reducible first | exact HB.1 ) )))) : w.heap.size ≤ gk); have m0_ := Sd.mk (kB (by (with_reducible repeat (fail)); exact BKgb.1) hb); have m1_ := Sd.mk (kB (by (with_reducible repeat (fail)); exact BKgf.1) hb); clear HB; have HB := n0_; have BKgk := n1_; have GEgk := n2_; clear n0_ n1_ n2_; clear BKgb; have BKgb := m0_; clear m0_; clear BKgf; have BKgf := m1_; clear m1_; clear hb hbox hg))
 go_loopw [8, 9, 10, 13] (fun v8 v9 v10 v13 w' => ∃ (k : Nat), v13 = .int .i64 k ∧ k ≤ l3.length ∧ Sd (Kd.R (Kd.int .i64) 3 w' w.heap.size (fun _ => True) v8 (turnL cd l3 k)) ∧ Sd (w'.heap[gb]? = some (.cells #[.int .i64 a0_0, .int .i64 a0_1, .slice A0_2 l0_2.length c0_2, .slice A0_3 l0_3.length c0_3] 32 (0, 0))) ∧ Sd (w'.heap[gf]? = some (.cells #[.func (.func fn) #[] #[]] 102 (0, 0))) ∧ Sd (w'.heap[gk]? = some (.cells #[.int .i64 a2_0, .int .i64 a2_1, .int .i64 a2_2] 91 (0, 0))) ∧ Sd (Below w.heap.size w w')) (fun v8 v9 v10 v13 w' => l3.length - (intOf v13).toNat)
 case atStart => exact ⟨0, rfl, Nat.zero_le _, ⟨Kd.R_nil _ _ _ _ _⟩, BKgb, BKgf, BKgk, HB⟩
 case round =>
  obtain ⟨k, rfl, hle, HO, BKgb, BKgf, BKgk, HB⟩ := hrel
  by_cases c4 : k < l3.length
  ·obtain ⟨ad, e, hx0⟩ := Kd.at_int HR3.1 (k : Int) (by omega) (by omega)
   cases e
   replace hx0 := (HB.1.cell (World.block_lt_of_cell? w _ hx0)).trans hx0
   rw [Int.toNat_natCast] at hx0
   have hm := HL.1
   have hczrgb_0 : wr.cell? ⟨gb, 0, none⟩ = some (.int .i64 a0_0) := (kC BKgb.1 0).trans rfl; have hczrgb_1 : wr.cell? ⟨gb, 1, none⟩ = some (.int .i64 a0_1) := (kC BKgb.1 1).trans rfl; have hczrgb_2 : wr.cell? ⟨gb, 2, none⟩ = some (.slice A0_2 l0_2.length c0_2) := (kC BKgb.1 2).trans rfl; have hczrgb_3 : wr.cell? ⟨gb, 3, none⟩ = some (.slice A0_3 l0_3.length c0_3) := (kC BKgb.1 3).trans rfl
   have hczrgf_0 : wr.cell? ⟨gf, 0, none⟩ = some (.func (.func fn) #[] #[]) := (kC BKgf.1 0).trans rfl
   have hczrgk_0 : wr.cell? ⟨gk, 0, none⟩ = some (.int .i64 a2_0) := (kC BKgk.1 0).trans rfl; have hczrgk_1 : wr.cell? ⟨gk, 1, none⟩ = some (.int .i64 a2_1) := (kC BKgk.1 1).trans rfl; have hczrgk_2 : wr.cell? ⟨gk, 2, none⟩ = some (.int .i64 a2_2) := (kC BKgk.1 2).trans rfl
   go_wp2_with fail
   have hcall := HC.1 k c4 _ HB.1
   rw [show l3.getD k 0 = rd l3 (k : Int) from rfl] at hcall
   refine hcall.mono ?_
   rintro e w1 ⟨rfl, hb⟩
   have HO1 := Sd.mk (Kd.R_below HO.1 hb)
   have n0_ := Sd.mk (bT (by repeat (first | (with_reducible first | exact HB.1 ) )) hb); have m0_ := Sd.mk (kB (by (with_reducible repeat (fail)); exact BKgb.1) hb); have m1_ := Sd.mk (kB (by (with_reducible repeat (fail)); exact BKgf.1) hb); have m2_ := Sd.mk (kB (by (with_reducible repeat (fail)); exact BKgk.1) hb); clear HB; have HB := n0_; clear n0_; clear BKgb; have BKgb := m0_; clear m0_; clear BKgf; have BKgf := m1_; clear m1_; clear BKgk; have BKgk := m2_; clear m2_; clear hb
   clear HO hcall
   go_wp2_with (first | ((with_reducible refine gate_builtin (b := .append) (xs := #[.tmp 18, .tmp 26]) rfl ?_); at_builtin; refine Kd.R_append (Kd.int .i64) (w0 := w) w.heap.size rfl (.tmp 18) (.tmp 26) 23 3 (.int .i64 0) 8 rfl Try.underlying23 info3 rfl (by decide) (by omega) u8 (turnL cd l3 k) (cd (rd l3 (k : Int)) (k : Int)) [.int .i64 (cd (rd l3 (k : Int)) (k : Int))] (fun _ => True) (fun _ => False) rfl rfl ?aP (fun _ hk => hk.elim) ?aF ?aO ?aB ?aS ?aL ?_; (case aP => exact rfl); (case aB => exact (by repeat (first | (with_reducible first | exact HB.1 ) ))); (case aF => exact (fun _ _ => trivial)); (case aO => exact (by (with_reducible repeat (fail)); exact HO1.1)); (case aS => exact (bZ (by repeat (first | (with_reducible first | exact HB.1 ) )))); (case aL => have := turnL_length cd l3 k; have := HL.1; omega); intro v1 w2 ho hb hg hat; replace BKgb := Sd.mk (blk_grown (g := gb) (by (with_reducible repeat (fail)); exact BKgb.1) hg (Kd.R_ne HO1.1 BKgb.1 (by decide))); replace BKgf := Sd.mk (blk_grown (g := gf) (by (with_reducible repeat (fail)); exact BKgf.1) hg (Kd.R_ne HO1.1 BKgf.1 (by decide))); replace BKgk := Sd.mk (blk_grown (g := gk) (by (with_reducible repeat (fail)); exact BKgk.1) hg (Kd.R_ne HO1.1 BKgk.1 (by decide))); replace HB := Sd.mk hb; have HO := Sd.mk ho; clear HO1; clear ho hb hg hat))
   go_roundw
   case rel => exact ⟨k + 1, by go_num, by omega, ⟨by rw [turnL_succ]; exact HO.1⟩, BKgb, BKgf, BKgk, HB⟩
   case measure => simp [intOf]; omega
  ·have hm := HL.1
   obtain rfl : k = l3.length := by omega
   go_wp2
   go_ret
   exact ⟨_, rfl, HO.1, HB.1⟩
def codeV (sz k0 k1 k2 : Int) (n i : Int) : Int := Int.tmod (wrap64 ((wrap64 ((wrap64 (k0 * n)) + k1)) + (wrap64 (i * k2)))) sz
def cipher_turned_code.f (a0_0 : Int) (a0_1 : Int) (l0_2 : List (S91)) (l0_3 : List Int) (a2_0 : Int) (a2_1 : Int) (a2_2 : Int) (l3 : List Int) : Option (List Int) := if a0_0 = 0 then none else if 1000 ≤ l3.length then none else some (turnL (codeV a0_0 a2_0 a2_1 a2_2) l3 l3.length)
theorem cipher_turned_code.calls (a0_0 : Int) (a0_1 : Int) (A0_2 : Option Addr) (c0_2 : Nat) (l0_2 : List (S91)) (A0_3 : Option Addr) (c0_3 : Nat) (l0_3 : List Int) (a2_0 : Int) (a2_1 : Int) (a2_2 : Int) (A3 : Option Addr) (c3 : Nat) (l3 : List Int) (r : List Int) (w : World) (hr0_2 : Kd.C k91 w A0_2 l0_2.length l0_2) (hc0_2 : l0_2.length ≤ c0_2) (hr0_3 : Kd.C (Kd.int .i64) w A0_3 l0_3.length l0_3) (hc0_3 : l0_3.length ≤ c0_3) (hr3 : Kd.C (Kd.int .i64) w A3 l3.length l3) (hc3 : l3.length ≤ c3) (h : cipher_turned_code.f a0_0 a0_1 l0_2 l0_3 a2_0 a2_1 a2_2 l3 = some r) :
  Calls Try.prog 59 #[.agg #[.int .i64 a0_0, .int .i64 a0_1, .slice A0_2 l0_2.length c0_2, .slice A0_3 l0_3.length c0_3], .agg #[.func (.func 60) #[] #[]], .agg #[.int .i64 a2_0, .int .i64 a2_1, .int .i64 a2_2], .slice A3 l3.length c3] w fun e w' => ∃ v0_ : Value, e = .returned (v0_) ∧ Kd.R (Kd.int .i64) 3 w' w.heap.size (fun _ => True) v0_ r ∧ Below w.heap.size w w' := by
 unfold cipher_turned_code.f at h
 by_cases hz : a0_0 = 0
 ·rw [if_pos hz] at h; cases h
 rw [if_neg hz] at h
 by_cases hl : 1000 ≤ l3.length
 ·rw [if_pos hl] at h; cases h
 rw [if_neg hl] at h
 obtain rfl := Option.some.inj h
 refine turned_any 60 (codeV a0_0 a2_0 a2_1 a2_2) a0_0 a0_1 A0_2 c0_2 l0_2 A0_3 c0_3 l0_3 a2_0 a2_1 a2_2 A3 c3 l3 w hr3 (by omega) (fun args w => by go_simp) (fun i hi W hW => ?_)
 exact cipher_Book_code.calls a0_0 a0_1 A0_2 c0_2 l0_2 A0_3 c0_3 l0_3 a2_0 a2_1 a2_2 _ _ _ W (Kd.C_below hr0_2 hW) hc0_2 (Kd.C_below hr0_3 hW) hc0_3 (by unfold cipher_Book_code.f codeV; rw [if_neg hz])
def cipher_all_plain.f (l0 : List Int) (a1_0 : Int) (a1_1 : Int) (l1_2 : List (S91)) (l1_3 : List Int) : Option (Bool) := some (l0.all fun n => inB n 0 (wrap64 (a1_0 - 1)))
theorem cipher_all_plain.calls (A0 : Option Addr) (c0 : Nat) (l0 : List Int) (a1_0 : Int) (a1_1 : Int) (A1_2 : Option Addr) (c1_2 : Nat) (l1_2 : List (S91)) (A1_3 : Option Addr) (c1_3 : Nat) (l1_3 : List Int) (r : Bool) (w : World) (hr0 : Kd.C (Kd.int .i64) w A0 l0.length l0) (hc0 : l0.length ≤ c0) (hr1_2 : Kd.C k91 w A1_2 l1_2.length l1_2) (hc1_2 : l1_2.length ≤ c1_2) (hr1_3 : Kd.C (Kd.int .i64) w A1_3 l1_3.length l1_3) (hc1_3 : l1_3.length ≤ c1_3) (h : cipher_all_plain.f l0 a1_0 a1_1 l1_2 l1_3 = some r) :
  Calls Try.prog 54 #[.slice A0 l0.length c0, .func (.func 57) #[.agg #[.int .i64 a1_0, .int .i64 a1_1, .slice A1_2 l1_2.length c1_2, .slice A1_3 l1_3.length c1_3]] #[]] w fun e w' => e = .returned (.bool r) ∧ Below w.heap.size w w' := by
 obtain rfl := Option.some.inj h
 refine allInt 57 #[.agg #[.int .i64 a1_0, .int .i64 a1_1, .slice A1_2 l1_2.length c1_2, .slice A1_3 l1_3.length c1_3]] #[] A0 c0 l0 (fun n => inB n 0 (wrap64 (a1_0 - 1))) w hr0 ⟨fun args w => by go_simp, fun x hx W hW => ?_⟩
 exact cipher_Book_plain.calls a1_0 a1_1 A1_2 c1_2 l1_2 A1_3 c1_3 l1_3 x _ W (Kd.C_below hr1_2 hW) hc1_2 (Kd.C_below hr1_3 hW) hc1_3 (by unfold cipher_Book_plain.f; rw [within_f]; rfl)
def lossB (nk nd : Nat) (x : S110) : Bool := inB x.f0 0 (wrap64 ((nk : Int) - 1)) && inB x.f1 0 (wrap64 ((nd : Int) - 1))
def cipher_all_loss.f (l0 : List S110) (a1_0 : Int) (a1_1 : Int) (l1_2 : List (S91)) (l1_3 : List Int) : Option (Bool) := some (l0.all (lossB l1_2.length l1_3.length))
theorem loss_f (sz wd : Int) (keys : List S91) (days : List Int) (x : S110) : cipher_Book_loss.f sz wd keys days x.f0 x.f1 = some (lossB keys.length days.length x) := by
 unfold cipher_Book_loss.f cipher_Book_own.f cipher_Book_day.f lossB
 rw [within_f, within_f]
 simp only [Option.bind_some]
 cases inB x.f0 0 (wrap64 ((keys.length : Int) - 1)) <;> simp
theorem cipher_all_loss.calls (A0 : Option Addr) (c0 : Nat) (l0 : List S110) (a1_0 : Int) (a1_1 : Int) (A1_2 : Option Addr) (c1_2 : Nat) (l1_2 : List (S91)) (A1_3 : Option Addr) (c1_3 : Nat) (l1_3 : List Int) (r : Bool) (w : World) (hr0 : Kd.C k110 w A0 l0.length l0) (hc0 : l0.length ≤ c0) (hr1_2 : Kd.C k91 w A1_2 l1_2.length l1_2) (hc1_2 : l1_2.length ≤ c1_2) (hr1_3 : Kd.C (Kd.int .i64) w A1_3 l1_3.length l1_3) (hc1_3 : l1_3.length ≤ c1_3) (h : cipher_all_loss.f l0 a1_0 a1_1 l1_2 l1_3 = some r) :
  Calls Try.prog 92 #[.slice A0 l0.length c0, .func (.func 91) #[.agg #[.int .i64 a1_0, .int .i64 a1_1, .slice A1_2 l1_2.length c1_2, .slice A1_3 l1_3.length c1_3]] #[]] w fun e w' => e = .returned (.bool r) ∧ Below w.heap.size w w' := by
 obtain rfl := Option.some.inj h
 refine allLoss 91 #[.agg #[.int .i64 a1_0, .int .i64 a1_1, .slice A1_2 l1_2.length c1_2, .slice A1_3 l1_3.length c1_3]] #[] A0 c0 l0 (lossB l1_2.length l1_3.length) w hr0 ⟨fun args w => by go_simp, fun x hx W hW => ?_⟩
 exact cipher_Book_loss.calls a1_0 a1_1 A1_2 c1_2 l1_2 A1_3 c1_3 l1_3 x.f0 x.f1 _ W (Kd.C_below hr1_2 hW) hc1_2 (Kd.C_below hr1_3 hW) hc1_3 (loss_f _ _ _ _ _)
end Go.Proofs.Ytnidgkmopocdkaa.P
