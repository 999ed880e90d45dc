import Derived.Test.YtnidgkmopocdkaaA13HExt
import Derived.Test.YtnidgkmopocdkaaA13P13
import Derived.Laws.EntriesVeiled
namespace Go.Proofs.Ytnidgkmopocdkaa.P
open Go.RowKit Go.Proofs.YtnidgkmopocdkaaW.PrintWords Go.Proofs.YtnidgkmopocdkaaW.PrintLast Go.Proofs.YtnidgkmopocdkaaW.PrintMore
set_option linter.unusedVariables false
set_option linter.unusedSimpArgs false
theorem ext_any (sz wd : Int) (AK : Option Addr) (K cK : Nat) (AD : Option Addr) (N cD : Nat) (AL : Option Addr) (cL : Nat) (lost : List S110) (most : Int) (gb gp gw gd gx gm : Nat) (w0 : World) (hK : K ≤ 5) (hN : N ≤ 1000) (hcl : lost.length ≤ cL) (hlen : lost.length ≤ 1000) (hr : Kd.C k110 w0 AL lost.length lost) : ∀ (r : Nat) (s : Sp) (left : Int) (wr : World) (v : Value) (pre : List Int), s.ok → s.d + r = N → 0 ≤ left → left ≤ 1048577 → pre.length + r ≤ 1000 → EInv sz wd AK K cK AD N cD AL cL lost most gb gp gw gd gx gm w0 wr v pre → Calls Try.prog 76 #[spV s, .int .i64 left, .pointer (some ⟨gb, 0, none⟩), .pointer (some ⟨gp, 0, none⟩), .pointer (some ⟨gd, 0, none⟩), .pointer (some ⟨gx, 0, none⟩)] wr (ExtPost sz wd AK K cK AD N cD AL cL lost most gb gp gw gd gx gm w0 (pre ++ extF lost most K r s left))
 | 0, s, left, wr, v, pre, hs, hd, hl0, hl1, hp, hi => by
  rw [show extF lost most K 0 s left = [] from rfl, List.append_nil]
  exact ext_zero sz wd AK K cK AD N cD AL cL lost most gb gp gw gd gx gm w0 hK hN hcl hlen hr s left wr v pre hs (by simpa using hd) hi
 | r + 1, s, left, wr, v, pre, hs, hd, hl0, hl1, hp, hi =>
  ext_step sz wd AK K cK AD N cD AL cL lost most gb gp gw gd gx gm w0 hK hN hcl hlen hr r (ext_any sz wd AK K cK AD N cD AL cL lost most gb gp gw gd gx gm w0 hK hN hcl hlen hr r) s left wr v pre hs hd hl0 hl1 hp hi
def lossesV (sz wd : Int) (keys : List S91) (days : List Int) (lost : List S110) : Int :=
 if checkB sz wd keys days ≠ 0 then checkB sz wd keys days else if 6 < lost.length then 3 else if lost.all (lossB keys.length days.length) = true then 0 else 2
theorem losses_f (sz wd : Int) (keys : List S91) (days : List Int) (lost : List S110) : cipher_Book_losses.f sz wd keys days lost = some (lossesV sz wd keys days lost) := by
 unfold cipher_Book_losses.f lossesV cipher_CheckBook.f cipher_all_loss.f
 simp only [Option.bind_some]
 by_cases h : checkB sz wd keys days = 0
 ·rw [if_pos h, if_neg (show ¬ (checkB sz wd keys days ≠ 0) from fun h2 => h2 h)]
  by_cases h2 : 6 < lost.length
  ·rw [if_pos (by omega), if_pos h2]
  ·rw [if_neg (by omega), if_neg h2]
   split <;> rfl
 ·rw [if_neg h, if_pos h]
def sp0 : Sp := ⟨0, 0, 0, 0, 0, 0, 0⟩
theorem sp0_ok : sp0.ok := ⟨⟨by decide, by decide, by decide, by decide, by decide, by decide, by decide, by decide, by decide, by decide, by decide, by decide⟩, by decide, by decide⟩
def planL (lost : List S110) (most : Int) (K N : Nat) : List Int := extF lost most K N sp0 (fewF lost most K N sp0)
def cipher_Plan.f (a0_0 : Int) (a0_1 : Int) (l0_2 : List (S91)) (l0_3 : List Int) (l1 : List (S110)) (a2 : Int) : Option (List Int × Int × Int) :=
 some (if lossesV a0_0 a0_1 l0_2 l0_3 l1 ≠ 0 then ([], 0, lossesV a0_0 a0_1 l0_2 l0_3 l1) else if inB a2 0 8 = false then ([], 0, 2) else if farV ≤ fewF l1 a2 l0_2.length l0_3.length sp0 then ([], 0, 10) else (planL l1 a2 l0_2.length l0_3.length, fewF l1 a2 l0_2.length l0_3.length sp0, 0))
theorem check_small {sz wd : Int} {keys : List S91} {days : List Int} (h : checkB sz wd keys days = 0) : keys.length ≤ 5 ∧ days.length ≤ 8 := by
 unfold checkB at h
 split at h
 ·cases h
 split at h
 ·cases h
 omega
theorem losses_small {sz wd : Int} {keys : List S91} {days : List Int} {lost : List S110} (h : lossesV sz wd keys days lost = 0) : keys.length ≤ 5 ∧ days.length ≤ 8 ∧ lost.length ≤ 6 := by
 unfold lossesV at h
 split at h
 ·rename_i h1; exact absurd h h1
 ·rename_i h1
  have := check_small (by simpa using h1)
  split at h
  ·cases h
  ·omega
section
variable {P : Program} {ops : Array Oper} {rest : List Oper} {o : Oper} {a : Act} {Q : Exit → Act → World → Prop}
theorem map_event {W : World} (hgd : o.guard = none) {N : Tmp} (_hd : o.dst = some N)
  (hrun : (execOp a.eval o).run P W = .ok (.value (.map (some W.heap.size))) (W.alloc (.map #[] 0)))
  (h : ∀ g, g = W.heap.size → ∀ w1, w1.heap[g]? = some (.map #[] 0) → Below W.heap.size W w1 → wpList P ops Q rest (a.put o.dst (.map (some g))) w1) : wpList P ops Q (o :: rest) a W :=
 Kd.event_run hgd hrun (h _ rfl _ (blk_new W _) (bA (Below.refl _ _) _))
end
def PlanPost (l : List Int) (c e : Int) (w : World) (en : Ending) (w' : World) : Prop := ∃ v0_ : Value, en = .returned (.tuple #[v0_, .int .i64 c, .int .i64 e]) ∧ Kd.R (Kd.int .i64) 3 w' w.heap.size (fun _ => True) v0_ l ∧ Below w.heap.size w w'
set_option maxHeartbeats 4000000 in
set_option maxRecDepth 100000 in
theorem plan_loss (a0_0 : Int) (a0_1 : Int) (A0_2 : Option Addr) (c0_2 : Nat) (l0_2 : List (S91)) (A0_3 : Option Addr) (c0_3 : Nat) (l0_3 : List Int) (A1 : Option Addr) (c1 : Nat) (l1 : List (S110)) (a2 : Int) (w : World) (hr0_2 : Kd.C k91 w A0_2 l0_2.length l0_2) (hc0_2 : l0_2.length ≤ c0_2) (hr0_3 : Kd.C (Kd.int .i64) w A0_3 l0_3.length l0_3) (hc0_3 : l0_3.length ≤ c0_3) (hr1 : Kd.C k110 w A1 l1.length l1) (hc1 : l1.length ≤ c1) (h : ¬ lossesV a0_0 a0_1 l0_2 l0_3 l1 = 0) :
  Calls Try.prog 35 #[.agg #[.int .i64 a0_0, .int .i64 a0_1, .slice A0_2 l0_2.length c0_2, .slice A0_3 l0_3.length c0_3], .slice A1 l1.length c1, .int .i64 a2] w (PlanPost [] 0 (lossesV a0_0 a0_1 l0_2 l0_3 l1) w) := by
 have hu32 := Try.underlying32
 have hu116 := Try.underlying116
 have hu121 := Try.underlying121
 have HR0_2 := Sd.mk hr0_2
 have HC0_2 := Sd.mk hc0_2
 have HR0_3 := Sd.mk hr0_3
 have HC0_3 := Sd.mk hc0_3
 have HR1 := Sd.mk hr1
 have HC1 := Sd.mk hc1
 clear hr0_2 hc0_2 hr0_3 hc0_3 hr1 hc1
 have HB := Sd.mk (Below.refl w.heap.size w)
 have f1 : (lossesV a0_0 a0_1 l0_2 l0_3 l1 == 0) = false := beq_eq_false_iff_ne.2 h
 have f1b : (lossesV a0_0 a0_1 l0_2 l0_3 l1 != 0) = true := bne_iff_ne.2 h
 clear h
 go_enter Try.func35, Try.ntmps35
 go_wp2_with (first | ((with_reducible refine gD (N := 3) rfl ?_); (try (refine gG (by rfl) ?_; dsimp only)); refine xE ?hg (N := 3) ?hd (cs := #[.int .i64 a0_0, .int .i64 a0_1, .slice A0_2 l0_2.length c0_2, .slice A0_3 l0_3.length c0_3]) (t := 32) ?hr ?_; (case hd => rfl); (case hg => rfl); (case hr => first | (go_simp; done) ); intro gb hg w1 hbox hb; have BKgb := Sd.mk hbox; have GEgb := Sd.mk ((by rw [hg]; exact (bZ (by repeat (first | (with_reducible first | exact HB.1 ) )))) : w.heap.size ≤ gb); replace HB := Sd.mk (bT (by repeat (first | (with_reducible first | exact HB.1 ) )) hb); clear hb hbox hg) | ((with_reducible refine gD (N := 6) rfl ?_); (try (refine gG (by rfl) ?_; dsimp only)); refine xE ?hg (N := 6) ?hd (cs := #[.slice none 0 0]) (t := 23) ?hr ?_; (case hd => rfl); (case hg => rfl); (case hr => first | (go_simp; done) ); intro gd hg w2 hbox hb; have n0_ := Sd.mk (bT (by repeat (first | (with_reducible first | exact HB.1 ) )) hb); have n1_ := Sd.mk hbox; have n2_ := Sd.mk ((by rw [hg]; exact (bZ (by repeat (first | (with_reducible first | exact HB.1 ) )))) : w.heap.size ≤ gd); have m0_ := Sd.mk (kB (by (with_reducible repeat (fail)); exact BKgb.1) hb); clear HB; have HB := n0_; have BKgd := n1_; have GEgd := n2_; clear n0_ n1_ n2_; clear BKgb; have BKgb := m0_; clear m0_; clear hb hbox hg; have z_w2gb_0 : w2.cell? ⟨gb, 0, none⟩ = some (.int .i64 a0_0) := (kC BKgb.1 0).trans rfl; have z_w2gb_1 : w2.cell? ⟨gb, 1, none⟩ = some (.int .i64 a0_1) := (kC BKgb.1 1).trans rfl; have z_w2gb_2 : w2.cell? ⟨gb, 2, none⟩ = some (.slice A0_2 l0_2.length c0_2) := (kC BKgb.1 2).trans rfl; have z_w2gb_3 : w2.cell? ⟨gb, 3, none⟩ = some (.slice A0_3 l0_3.length c0_3) := (kC BKgb.1 3).trans rfl) | (go_at_call 71; (with_reducible refine (cipher_Book_losses.calls a0_0 a0_1 _ _ l0_2 _ _ l0_3 _ _ l1 _ _ (Kd.C_below HR0_2.1 (by repeat (first | (with_reducible first | exact HB.1 ) ))) HC0_2.1 (Kd.C_below HR0_3.1 (by repeat (first | (with_reducible first | exact HB.1 ) ))) HC0_3.1 (Kd.C_below HR1.1 (by repeat (first | (with_reducible first | exact HB.1 ) ))) HC1.1 (losses_f _ _ _ _ _)).mono ?_); rintro e w3 ⟨rfl, hb⟩; have n0_ := Sd.mk (bT (by repeat (first | (with_reducible first | exact HB.1 ) )) hb); have m0_ := Sd.mk (kB (by (with_reducible repeat (fail)); exact BKgb.1) hb); have m1_ := Sd.mk (kB (by (with_reducible repeat (fail)); exact BKgd.1) hb); clear HB; have HB := n0_; clear n0_; clear BKgb; have BKgb := m0_; clear m0_; clear BKgd; have BKgd := m1_; clear m1_; clear hb; have z_w3gb_0 : w3.cell? ⟨gb, 0, none⟩ = some (.int .i64 a0_0) := (kC BKgb.1 0).trans rfl; have z_w3gb_1 : w3.cell? ⟨gb, 1, none⟩ = some (.int .i64 a0_1) := (kC BKgb.1 1).trans rfl; have z_w3gb_2 : w3.cell? ⟨gb, 2, none⟩ = some (.slice A0_2 l0_2.length c0_2) := (kC BKgb.1 2).trans rfl; have z_w3gb_3 : w3.cell? ⟨gb, 3, none⟩ = some (.slice A0_3 l0_3.length c0_3) := (kC BKgb.1 3).trans rfl; have z_w3gd_0 : w3.cell? ⟨gd, 0, none⟩ = some (.slice none 0 0) := (kC BKgd.1 0).trans rfl; have hfzw3gd_0 := kF BKgd.1 0))
 have hcell : (w3.setCell ⟨gd, 0, none⟩ (.slice none 0 0)).cell? ⟨gd, 0, none⟩ = some (.slice none 0 0) := (kC (blk_set BKgd.1 0 _) 0).trans rfl
 exact bodyPost_ret (v := .tuple #[.slice none 0 0, .int .i64 0, .int .i64 (lossesV a0_0 a0_1 l0_2 l0_3 l1)]) (by simp [results, Try.results35, go_sem, hcell]) rfl ⟨_, rfl, Kd.R_nil _ _ _ _ _, bS HB.1 GEgd.1⟩
set_option maxHeartbeats 4000000 in
set_option maxRecDepth 100000 in
theorem plan_most (a0_0 : Int) (a0_1 : Int) (A0_2 : Option Addr) (c0_2 : Nat) (l0_2 : List (S91)) (A0_3 : Option Addr) (c0_3 : Nat) (l0_3 : List Int) (A1 : Option Addr) (c1 : Nat) (l1 : List (S110)) (a2 : Int) (w : World) (hr0_2 : Kd.C k91 w A0_2 l0_2.length l0_2) (hc0_2 : l0_2.length ≤ c0_2) (hr0_3 : Kd.C (Kd.int .i64) w A0_3 l0_3.length l0_3) (hc0_3 : l0_3.length ≤ c0_3) (hr1 : Kd.C k110 w A1 l1.length l1) (hc1 : l1.length ≤ c1) (h : lossesV a0_0 a0_1 l0_2 l0_3 l1 = 0) (h2 : inB a2 0 8 = false) :
  Calls Try.prog 35 #[.agg #[.int .i64 a0_0, .int .i64 a0_1, .slice A0_2 l0_2.length c0_2, .slice A0_3 l0_3.length c0_3], .slice A1 l1.length c1, .int .i64 a2] w (PlanPost [] 0 2 w) := by
 have hu32 := Try.underlying32
 have hu116 := Try.underlying116
 have hu121 := Try.underlying121
 have HR0_2 := Sd.mk hr0_2
 have HC0_2 := Sd.mk hc0_2
 have HR0_3 := Sd.mk hr0_3
 have HC0_3 := Sd.mk hc0_3
 have HR1 := Sd.mk hr1
 have HC1 := Sd.mk hc1
 clear hr0_2 hc0_2 hr0_3 hc0_3 hr1 hc1
 have HB := Sd.mk (Below.refl w.heap.size w)
 have f1 : (lossesV a0_0 a0_1 l0_2 l0_3 l1 == 0) = true := beq_iff_eq.2 h
 have f1b : (lossesV a0_0 a0_1 l0_2 l0_3 l1 != 0) = false := bne_eq_false_iff_eq.2 h
 have HS := Sd.mk (losses_small h)
 clear h
 go_enter Try.func35, Try.ntmps35
 go_wp2_with (first | ((with_reducible refine gD (N := 3) rfl ?_); (try (refine gG (by rfl) ?_; dsimp only)); refine xE ?hg (N := 3) ?hd (cs := #[.int .i64 a0_0, .int .i64 a0_1, .slice A0_2 l0_2.length c0_2, .slice A0_3 l0_3.length c0_3]) (t := 32) ?hr ?_; (case hd => rfl); (case hg => rfl); (case hr => first | (go_simp; done) ); intro gb hg w1 hbox hb; have BKgb := Sd.mk hbox; have GEgb := Sd.mk ((by rw [hg]; exact (bZ (by repeat (first | (with_reducible first | exact HB.1 ) )))) : w.heap.size ≤ gb); replace HB := Sd.mk (bT (by repeat (first | (with_reducible first | exact HB.1 ) )) hb); clear hb hbox hg) | ((with_reducible refine gD (N := 6) rfl ?_); (try (refine gG (by rfl) ?_; dsimp only)); refine xE ?hg (N := 6) ?hd (cs := #[.slice none 0 0]) (t := 23) ?hr ?_; (case hd => rfl); (case hg => rfl); (case hr => first | (go_simp; done) ); intro gd hg w2 hbox hb; have n0_ := Sd.mk (bT (by repeat (first | (with_reducible first | exact HB.1 ) )) hb); have n1_ := Sd.mk hbox; have n2_ := Sd.mk ((by rw [hg]; exact (bZ (by repeat (first | (with_reducible first | exact HB.1 ) )))) : w.heap.size ≤ gd); have m0_ := Sd.mk (kB (by (with_reducible repeat (fail)); exact BKgb.1) hb); clear HB; have HB := n0_; have BKgd := n1_; have GEgd := n2_; clear n0_ n1_ n2_; clear BKgb; have BKgb := m0_; clear m0_; clear hb hbox hg; have z_w2gb_0 : w2.cell? ⟨gb, 0, none⟩ = some (.int .i64 a0_0) := (kC BKgb.1 0).trans rfl; have z_w2gb_1 : w2.cell? ⟨gb, 1, none⟩ = some (.int .i64 a0_1) := (kC BKgb.1 1).trans rfl; have z_w2gb_2 : w2.cell? ⟨gb, 2, none⟩ = some (.slice A0_2 l0_2.length c0_2) := (kC BKgb.1 2).trans rfl; have z_w2gb_3 : w2.cell? ⟨gb, 3, none⟩ = some (.slice A0_3 l0_3.length c0_3) := (kC BKgb.1 3).trans rfl) | (go_at_call 71; (with_reducible refine (cipher_Book_losses.calls a0_0 a0_1 _ _ l0_2 _ _ l0_3 _ _ l1 _ _ (Kd.C_below HR0_2.1 (by repeat (first | (with_reducible first | exact HB.1 ) ))) HC0_2.1 (Kd.C_below HR0_3.1 (by repeat (first | (with_reducible first | exact HB.1 ) ))) HC0_3.1 (Kd.C_below HR1.1 (by repeat (first | (with_reducible first | exact HB.1 ) ))) HC1.1 (losses_f _ _ _ _ _)).mono ?_); rintro e w3 ⟨rfl, hb⟩; have n0_ := Sd.mk (bT (by repeat (first | (with_reducible first | exact HB.1 ) )) hb); have m0_ := Sd.mk (kB (by (with_reducible repeat (fail)); exact BKgb.1) hb); have m1_ := Sd.mk (kB (by (with_reducible repeat (fail)); exact BKgd.1) hb); clear HB; have HB := n0_; clear n0_; clear BKgb; have BKgb := m0_; clear m0_; clear BKgd; have BKgd := m1_; clear m1_; clear hb; have z_w3gb_0 : w3.cell? ⟨gb, 0, none⟩ = some (.int .i64 a0_0) := (kC BKgb.1 0).trans rfl; have z_w3gb_1 : w3.cell? ⟨gb, 1, none⟩ = some (.int .i64 a0_1) := (kC BKgb.1 1).trans rfl; have z_w3gb_2 : w3.cell? ⟨gb, 2, none⟩ = some (.slice A0_2 l0_2.length c0_2) := (kC BKgb.1 2).trans rfl; have z_w3gb_3 : w3.cell? ⟨gb, 3, none⟩ = some (.slice A0_3 l0_3.length c0_3) := (kC BKgb.1 3).trans rfl; have z_w3gd_0 : w3.cell? ⟨gd, 0, none⟩ = some (.slice none 0 0) := (kC BKgd.1 0).trans rfl; have hfzw3gd_0 := kF BKgd.1 0) | (go_at_call 51; (with_reducible refine (cipher_within.calls _ _ _ _ _ (within_f _ _ _)).mono ?_); rintro e w' ⟨rfl, ⟨nd, rfl⟩⟩))
 have hcell : ((w3.drewN nd).setCell ⟨gd, 0, none⟩ (.slice none 0 0)).cell? ⟨gd, 0, none⟩ = some (.slice none 0 0) := (kC (blk_set (kN BKgd.1 nd) 0 _) 0).trans rfl
 exact bodyPost_ret (v := .tuple #[.slice none 0 0, .int .i64 0, .int .i64 (2)]) (by simp [results, Try.results35, go_sem, hcell]) rfl ⟨_, rfl, Kd.R_nil _ _ _ _ _, bS (bN HB.1 nd) GEgd.1⟩
set_option maxHeartbeats 4000000 in
set_option maxRecDepth 100000 in
theorem plan_stuck (a0_0 : Int) (a0_1 : Int) (A0_2 : Option Addr) (c0_2 : Nat) (l0_2 : List (S91)) (A0_3 : Option Addr) (c0_3 : Nat) (l0_3 : List Int) (A1 : Option Addr) (c1 : Nat) (l1 : List (S110)) (a2 : Int) (w : World) (hr0_2 : Kd.C k91 w A0_2 l0_2.length l0_2) (hc0_2 : l0_2.length ≤ c0_2) (hr0_3 : Kd.C (Kd.int .i64) w A0_3 l0_3.length l0_3) (hc0_3 : l0_3.length ≤ c0_3) (hr1 : Kd.C k110 w A1 l1.length l1) (hc1 : l1.length ≤ c1) (h : lossesV a0_0 a0_1 l0_2 l0_3 l1 = 0) (h2 : inB a2 0 8 = true) (h3 : farV ≤ fewF l1 a2 l0_2.length l0_3.length sp0) :
  Calls Try.prog 35 #[.agg #[.int .i64 a0_0, .int .i64 a0_1, .slice A0_2 l0_2.length c0_2, .slice A0_3 l0_3.length c0_3], .slice A1 l1.length c1, .int .i64 a2] w (PlanPost [] 0 10 w) := by
 have hu32 := Try.underlying32
 have hu116 := Try.underlying116
 have hu121 := Try.underlying121
 have HR0_2 := Sd.mk hr0_2
 have HC0_2 := Sd.mk hc0_2
 have HR0_3 := Sd.mk hr0_3
 have HC0_3 := Sd.mk hc0_3
 have HR1 := Sd.mk hr1
 have HC1 := Sd.mk hc1
 clear hr0_2 hc0_2 hr0_3 hc0_3 hr1 hc1
 have HB := Sd.mk (Below.refl w.heap.size w)
 have f1 : (lossesV a0_0 a0_1 l0_2 l0_3 l1 == 0) = true := beq_iff_eq.2 h
 have f1b : (lossesV a0_0 a0_1 l0_2 l0_3 l1 != 0) = false := bne_eq_false_iff_eq.2 h
 have HS := Sd.mk (losses_small h)
 clear h
 have f3 : decide (1048576 ≤ fewF l1 a2 l0_2.length l0_3.length sp0) = true := decide_eq_true h3
 clear h3
 go_enter Try.func35, Try.ntmps35
 go_wp2_with (first | ((with_reducible refine gD (N := 3) rfl ?_); (try (refine gG (by rfl) ?_; dsimp only)); refine xE ?hg (N := 3) ?hd (cs := #[.int .i64 a0_0, .int .i64 a0_1, .slice A0_2 l0_2.length c0_2, .slice A0_3 l0_3.length c0_3]) (t := 32) ?hr ?_; (case hd => rfl); (case hg => rfl); (case hr => first | (go_simp; done) ); intro gb hg w1 hbox hb; have BKgb := Sd.mk hbox; have GEgb := Sd.mk ((by rw [hg]; exact (bZ (by repeat (first | (with_reducible first | exact HB.1 ) )))) : w.heap.size ≤ gb); replace HB := Sd.mk (bT (by repeat (first | (with_reducible first | exact HB.1 ) )) hb); clear hb hbox hg) | ((with_reducible refine gD (N := 6) rfl ?_); (try (refine gG (by rfl) ?_; dsimp only)); refine xE ?hg (N := 6) ?hd (cs := #[.slice none 0 0]) (t := 23) ?hr ?_; (case hd => rfl); (case hg => rfl); (case hr => first | (go_simp; done) ); intro gd hg w2 hbox hb; have n0_ := Sd.mk (bT (by repeat (first | (with_reducible first | exact HB.1 ) )) hb); have n1_ := Sd.mk hbox; have n2_ := Sd.mk ((by rw [hg]; exact (bZ (by repeat (first | (with_reducible first | exact HB.1 ) )))) : w.heap.size ≤ gd); have m0_ := Sd.mk (kB (by (with_reducible repeat (fail)); exact BKgb.1) hb); clear HB; have HB := n0_; have BKgd := n1_; have GEgd := n2_; clear n0_ n1_ n2_; clear BKgb; have BKgb := m0_; clear m0_; clear hb hbox hg; have z_w2gb_0 : w2.cell? ⟨gb, 0, none⟩ = some (.int .i64 a0_0) := (kC BKgb.1 0).trans rfl; have z_w2gb_1 : w2.cell? ⟨gb, 1, none⟩ = some (.int .i64 a0_1) := (kC BKgb.1 1).trans rfl; have z_w2gb_2 : w2.cell? ⟨gb, 2, none⟩ = some (.slice A0_2 l0_2.length c0_2) := (kC BKgb.1 2).trans rfl; have z_w2gb_3 : w2.cell? ⟨gb, 3, none⟩ = some (.slice A0_3 l0_3.length c0_3) := (kC BKgb.1 3).trans rfl) | (go_at_call 71; (with_reducible refine (cipher_Book_losses.calls a0_0 a0_1 _ _ l0_2 _ _ l0_3 _ _ l1 _ _ (Kd.C_below HR0_2.1 (by repeat (first | (with_reducible first | exact HB.1 ) ))) HC0_2.1 (Kd.C_below HR0_3.1 (by repeat (first | (with_reducible first | exact HB.1 ) ))) HC0_3.1 (Kd.C_below HR1.1 (by repeat (first | (with_reducible first | exact HB.1 ) ))) HC1.1 (losses_f _ _ _ _ _)).mono ?_); rintro e w3 ⟨rfl, hb⟩; have n0_ := Sd.mk (bT (by repeat (first | (with_reducible first | exact HB.1 ) )) hb); have m0_ := Sd.mk (kB (by (with_reducible repeat (fail)); exact BKgb.1) hb); have m1_ := Sd.mk (kB (by (with_reducible repeat (fail)); exact BKgd.1) hb); clear HB; have HB := n0_; clear n0_; clear BKgb; have BKgb := m0_; clear m0_; clear BKgd; have BKgd := m1_; clear m1_; clear hb; have z_w3gb_0 : w3.cell? ⟨gb, 0, none⟩ = some (.int .i64 a0_0) := (kC BKgb.1 0).trans rfl; have z_w3gb_1 : w3.cell? ⟨gb, 1, none⟩ = some (.int .i64 a0_1) := (kC BKgb.1 1).trans rfl; have z_w3gb_2 : w3.cell? ⟨gb, 2, none⟩ = some (.slice A0_2 l0_2.length c0_2) := (kC BKgb.1 2).trans rfl; have z_w3gb_3 : w3.cell? ⟨gb, 3, none⟩ = some (.slice A0_3 l0_3.length c0_3) := (kC BKgb.1 3).trans rfl; have z_w3gd_0 : w3.cell? ⟨gd, 0, none⟩ = some (.slice none 0 0) := (kC BKgd.1 0).trans rfl; have hfzw3gd_0 := kF BKgd.1 0) | (go_at_call 51; (with_reducible refine (cipher_within.calls _ _ _ _ _ (within_f _ _ _)).mono ?_); rintro e w' ⟨rfl, ⟨nd, rfl⟩⟩) | ((with_reducible refine gD (N := 24) rfl ?_); refine map_event ?hg (N := 24) ?hd ?hr ?_; (case hd => rfl); (case hg => rfl); (case hr => first | (go_simp; rfl)); intro gm hg w4 hmp hb; have n2_ := Sd.mk ((by rw [hg]; exact (bZ (by repeat (first | (with_reducible first | exact HB.1 | apply bN ) )))) : w.heap.size ≤ gm); have hmp2 := Sd.mk hmp; have n0_ := Sd.mk (bT (by repeat (first | (with_reducible first | exact HB.1 | apply bN ) )) hb); have m0_ := Sd.mk (kB (by (with_reducible repeat (fail)); exact BKgb.1) hb); have m1_ := Sd.mk (kB (by (with_reducible repeat (fail)); exact BKgd.1) hb); clear HB; have HB := n0_; clear n0_; clear BKgb; have BKgb := m0_; clear m0_; clear BKgd; have BKgd := m1_; clear m1_; clear hb; clear hmp hg; have GEgm := n2_; have BKgm := hmp2; clear n2_ hmp2) | ((with_reducible refine gD (N := 26) rfl ?_); (try (refine gG (by rfl) ?_; dsimp only)); refine xE ?hg (N := 26) ?hd (cs := #[.int .i64 a0_0, .int .i64 a0_1, .slice A0_2 l0_2.length c0_2, .slice A0_3 l0_3.length c0_3, .slice A1 l1.length c1, .int .i64 a2, .map (some gm)]) (t := 116) ?hr ?_; (case hd => rfl); (case hg => rfl); (case hr => first | (go_simp; done) ); intro gw hg w5 hbox hb; have n0_ := Sd.mk (bT (by repeat (first | (with_reducible first | exact HB.1 ) )) hb); have n1_ := Sd.mk hbox; have n2_ := Sd.mk ((by rw [hg]; exact (bZ (by repeat (first | (with_reducible first | exact HB.1 ) )))) : w.heap.size ≤ gw); have m0_ := Sd.mk (kB (by (with_reducible repeat (fail)); exact BKgb.1) hb); have m1_ := Sd.mk (kB (by (with_reducible repeat (fail)); exact BKgd.1) hb); have mm_ := Sd.mk ((hb.block _ (blk_lt BKgm.1)).trans BKgm.1); clear BKgm; have BKgm := mm_; clear mm_; clear HB; have HB := n0_; have BKgw := n1_; have GEgw := n2_; clear n0_ n1_ n2_; clear BKgb; have BKgb := m0_; clear m0_; clear BKgd; have BKgd := m1_; clear m1_; clear hb hbox hg) | ((with_reducible refine gD (N := 10) rfl ?_); (try (refine gG (by rfl) ?_; dsimp only)); refine xE ?hg (N := 10) ?hd (cs := #[.pointer none]) (t := 113) ?hr ?_; (case hd => rfl); (case hg => rfl); (case hr => first | (go_simp; done) ); intro gp hg w6 hbox hb; have n0_ := Sd.mk (bT (by repeat (first | (with_reducible first | exact HB.1 ) )) hb); have n1_ := Sd.mk hbox; have n2_ := Sd.mk ((by rw [hg]; exact (bZ (by repeat (first | (with_reducible first | exact HB.1 ) )))) : w.heap.size ≤ gp); have m0_ := Sd.mk (kB (by (with_reducible repeat (fail)); exact BKgb.1) hb); have m1_ := Sd.mk (kB (by (with_reducible repeat (fail)); exact BKgd.1) hb); have m2_ := Sd.mk (kB (by (with_reducible repeat (fail)); exact BKgw.1) hb); have NEgbgp := Sd.mk (by rw [hg]; exact Nat.ne_of_lt (blk_lt (by (with_reducible repeat (fail)); exact BKgb.1)) : gb ≠ gp); have NEgdgp := Sd.mk (by rw [hg]; exact Nat.ne_of_lt (blk_lt (by (with_reducible repeat (fail)); exact BKgd.1)) : gd ≠ gp); have NEgwgp := Sd.mk (by rw [hg]; exact Nat.ne_of_lt (blk_lt (by (with_reducible repeat (fail)); exact BKgw.1)) : gw ≠ gp); have mm_ := Sd.mk ((hb.block _ (blk_lt BKgm.1)).trans BKgm.1); clear BKgm; have BKgm := mm_; clear mm_; clear HB; have HB := n0_; have BKgp := n1_; have GEgp := n2_; clear n0_ n1_ n2_; clear BKgb; have BKgb := m0_; clear m0_; clear BKgd; have BKgd := m1_; clear m1_; clear BKgw; have BKgw := m2_; clear m2_; clear hb hbox hg; have z_w6gp_0 : w6.cell? ⟨gp, 0, none⟩ = some (.pointer none) := (kC BKgp.1 0).trans rfl; have hfzw6gp_0 := kF BKgp.1 0))
 have hwp : gw ≠ gp := NEgwgp.1
 have hbp : gb ≠ gp := NEgbgp.1
 have hdp : gd ≠ gp := NEgdgp.1
 have hmp : gm ≠ gp := by
  rintro rfl
  have h1 := BKgm.1
  rw [BKgp.1] at h1
  cases h1
 have GM := Sd.mk (show GoodMap (FN l1 a2 l0_2.length l0_3.length) gm (w6.setCell ⟨gp, 0, none⟩ (.pointer (some ⟨gw, 0, none⟩))) from ⟨#[], 0, (Below.heap_setCell w6 ⟨gp, 0, none⟩ _ gm hmp).trans BKgm.1, by simp [GoodEs]⟩)
 have m0_ := Sd.mk (blk_far BKgb.1 (p := ⟨gp, 0, none⟩) hbp (.pointer (some ⟨gw, 0, none⟩)))
 have m1_ := Sd.mk (blk_far BKgd.1 (p := ⟨gp, 0, none⟩) hdp (.pointer (some ⟨gw, 0, none⟩)))
 have m2_ := Sd.mk (blk_far BKgw.1 (p := ⟨gp, 0, none⟩) hwp (.pointer (some ⟨gw, 0, none⟩)))
 have m3_ := Sd.mk (blk_set BKgp.1 0 (.pointer (some ⟨gw, 0, none⟩)))
 have m4_ := Sd.mk (bS HB.1 GEgp.1 (v := .pointer (some ⟨gw, 0, none⟩)) (j := 0))
 clear BKgb BKgd BKgw BKgp BKgm HB hwp hbp hdp hmp
 have BKgb := m0_
 have BKgd := m1_
 have BKgw := m2_
 have BKgp := m3_
 have HB := m4_
 clear m0_ m1_ m2_ m3_ m4_
 refine (few_any a0_0 a0_1 A0_2 l0_2.length c0_2 A0_3 l0_3.length c0_3 A1 c1 l1 a2 gw gm HS.1.1 (by have := HS.1.2.1; omega) HC1.1 (by have := HS.1.2.2; omega) l0_3.length sp0 _ sp0_ok (by show (0 : Int) + _ = _; omega) ?i3 BKgw.1 GM.1).mono ?i6
 case i3 => exact fun W hW => Kd.C_below HR1.1 (grown_of_gm HB.1 GEgm.1 hW)
 rintro e w7 ⟨rfl, hG, hW⟩
 have m0_ := Sd.mk (blk_grown BKgb.1 hW (good_ne GM.1 BKgb.1))
 have m1_ := Sd.mk (blk_grown BKgd.1 hW (good_ne GM.1 BKgd.1))
 have m2_ := Sd.mk (blk_grown BKgw.1 hW (good_ne GM.1 BKgw.1))
 have m3_ := Sd.mk (blk_grown BKgp.1 hW (good_ne GM.1 BKgp.1))
 have m4_ := Sd.mk (grown_of_gm HB.1 GEgm.1 hW)
 have m5_ := Sd.mk hG
 clear BKgb BKgd BKgw BKgp HB GM hG hW
 have BKgb := m0_
 have BKgd := m1_
 have BKgw := m2_
 have BKgp := m3_
 have HB := m4_
 have GM := m5_
 clear m0_ m1_ m2_ m3_ m4_ m5_
 have hczq7d_0 : w7.cell? ⟨gd, 0, none⟩ = some (.slice none 0 0) := (kC BKgd.1 0).trans rfl
 have hfzq7d_0 := kF BKgd.1 0
 go_wp2
 have hcell : (w7.setCell ⟨gd, 0, none⟩ (.slice none 0 0)).cell? ⟨gd, 0, none⟩ = some (.slice none 0 0) := (kC (blk_set BKgd.1 0 _) 0).trans rfl
 exact bodyPost_ret (v := .tuple #[.slice none 0 0, .int .i64 0, .int .i64 (10)]) (by simp [results, Try.results35, go_sem, hcell]) rfl ⟨_, rfl, Kd.R_nil _ _ _ _ _, bS HB.1 GEgd.1⟩
set_option maxHeartbeats 4000000 in
set_option maxRecDepth 100000 in
theorem plan_best (a0_0 : Int) (a0_1 : Int) (A0_2 : Option Addr) (c0_2 : Nat) (l0_2 : List (S91)) (A0_3 : Option Addr) (c0_3 : Nat) (l0_3 : List Int) (A1 : Option Addr) (c1 : Nat) (l1 : List (S110)) (a2 : Int) (w : World) (hr0_2 : Kd.C k91 w A0_2 l0_2.length l0_2) (hc0_2 : l0_2.length ≤ c0_2) (hr0_3 : Kd.C (Kd.int .i64) w A0_3 l0_3.length l0_3) (hc0_3 : l0_3.length ≤ c0_3) (hr1 : Kd.C k110 w A1 l1.length l1) (hc1 : l1.length ≤ c1) (h : lossesV a0_0 a0_1 l0_2 l0_3 l1 = 0) (h2 : inB a2 0 8 = true) (h3 : ¬ farV ≤ fewF l1 a2 l0_2.length l0_3.length sp0) :
  Calls Try.prog 35 #[.agg #[.int .i64 a0_0, .int .i64 a0_1, .slice A0_2 l0_2.length c0_2, .slice A0_3 l0_3.length c0_3], .slice A1 l1.length c1, .int .i64 a2] w (PlanPost (planL l1 a2 l0_2.length l0_3.length) (fewF l1 a2 l0_2.length l0_3.length sp0) 0 w) := by
 have hu32 := Try.underlying32
 have hu116 := Try.underlying116
 have hu121 := Try.underlying121
 have HR0_2 := Sd.mk hr0_2
 have HC0_2 := Sd.mk hc0_2
 have HR0_3 := Sd.mk hr0_3
 have HC0_3 := Sd.mk hc0_3
 have HR1 := Sd.mk hr1
 have HC1 := Sd.mk hc1
 clear hr0_2 hc0_2 hr0_3 hc0_3 hr1 hc1
 have HB := Sd.mk (Below.refl w.heap.size w)
 have f1 : (lossesV a0_0 a0_1 l0_2 l0_3 l1 == 0) = true := beq_iff_eq.2 h
 have f1b : (lossesV a0_0 a0_1 l0_2 l0_3 l1 != 0) = false := bne_eq_false_iff_eq.2 h
 have HS := Sd.mk (losses_small h)
 clear h
 have f3 : decide (1048576 ≤ fewF l1 a2 l0_2.length l0_3.length sp0) = false := decide_eq_false h3
 have HF := Sd.mk (fewF_bd l1 a2 l0_2.length l0_3.length sp0)
 clear h3
 go_enter Try.func35, Try.ntmps35
 go_wp2_with (first | ((with_reducible refine gD (N := 3) rfl ?_); (try (refine gG (by rfl) ?_; dsimp only)); refine xE ?hg (N := 3) ?hd (cs := #[.int .i64 a0_0, .int .i64 a0_1, .slice A0_2 l0_2.length c0_2, .slice A0_3 l0_3.length c0_3]) (t := 32) ?hr ?_; (case hd => rfl); (case hg => rfl); (case hr => first | (go_simp; done) ); intro gb hg w1 hbox hb; have BKgb := Sd.mk hbox; have GEgb := Sd.mk ((by rw [hg]; exact (bZ (by repeat (first | (with_reducible first | exact HB.1 ) )))) : w.heap.size ≤ gb); replace HB := Sd.mk (bT (by repeat (first | (with_reducible first | exact HB.1 ) )) hb); clear hb hbox hg) | ((with_reducible refine gD (N := 6) rfl ?_); (try (refine gG (by rfl) ?_; dsimp only)); refine xE ?hg (N := 6) ?hd (cs := #[.slice none 0 0]) (t := 23) ?hr ?_; (case hd => rfl); (case hg => rfl); (case hr => first | (go_simp; done) ); intro gd hg w2 hbox hb; have n0_ := Sd.mk (bT (by repeat (first | (with_reducible first | exact HB.1 ) )) hb); have n1_ := Sd.mk hbox; have n2_ := Sd.mk ((by rw [hg]; exact (bZ (by repeat (first | (with_reducible first | exact HB.1 ) )))) : w.heap.size ≤ gd); have m0_ := Sd.mk (kB (by (with_reducible repeat (fail)); exact BKgb.1) hb); clear HB; have HB := n0_; have BKgd := n1_; have GEgd := n2_; clear n0_ n1_ n2_; clear BKgb; have BKgb := m0_; clear m0_; clear hb hbox hg; have z_w2gb_0 : w2.cell? ⟨gb, 0, none⟩ = some (.int .i64 a0_0) := (kC BKgb.1 0).trans rfl; have z_w2gb_1 : w2.cell? ⟨gb, 1, none⟩ = some (.int .i64 a0_1) := (kC BKgb.1 1).trans rfl; have z_w2gb_2 : w2.cell? ⟨gb, 2, none⟩ = some (.slice A0_2 l0_2.length c0_2) := (kC BKgb.1 2).trans rfl; have z_w2gb_3 : w2.cell? ⟨gb, 3, none⟩ = some (.slice A0_3 l0_3.length c0_3) := (kC BKgb.1 3).trans rfl) | (go_at_call 71; (with_reducible refine (cipher_Book_losses.calls a0_0 a0_1 _ _ l0_2 _ _ l0_3 _ _ l1 _ _ (Kd.C_below HR0_2.1 (by repeat (first | (with_reducible first | exact HB.1 ) ))) HC0_2.1 (Kd.C_below HR0_3.1 (by repeat (first | (with_reducible first | exact HB.1 ) ))) HC0_3.1 (Kd.C_below HR1.1 (by repeat (first | (with_reducible first | exact HB.1 ) ))) HC1.1 (losses_f _ _ _ _ _)).mono ?_); rintro e w3 ⟨rfl, hb⟩; have n0_ := Sd.mk (bT (by repeat (first | (with_reducible first | exact HB.1 ) )) hb); have m0_ := Sd.mk (kB (by (with_reducible repeat (fail)); exact BKgb.1) hb); have m1_ := Sd.mk (kB (by (with_reducible repeat (fail)); exact BKgd.1) hb); clear HB; have HB := n0_; clear n0_; clear BKgb; have BKgb := m0_; clear m0_; clear BKgd; have BKgd := m1_; clear m1_; clear hb; have z_w3gb_0 : w3.cell? ⟨gb, 0, none⟩ = some (.int .i64 a0_0) := (kC BKgb.1 0).trans rfl; have z_w3gb_1 : w3.cell? ⟨gb, 1, none⟩ = some (.int .i64 a0_1) := (kC BKgb.1 1).trans rfl; have z_w3gb_2 : w3.cell? ⟨gb, 2, none⟩ = some (.slice A0_2 l0_2.length c0_2) := (kC BKgb.1 2).trans rfl; have z_w3gb_3 : w3.cell? ⟨gb, 3, none⟩ = some (.slice A0_3 l0_3.length c0_3) := (kC BKgb.1 3).trans rfl; have z_w3gd_0 : w3.cell? ⟨gd, 0, none⟩ = some (.slice none 0 0) := (kC BKgd.1 0).trans rfl; have hfzw3gd_0 := kF BKgd.1 0) | (go_at_call 51; (with_reducible refine (cipher_within.calls _ _ _ _ _ (within_f _ _ _)).mono ?_); rintro e w' ⟨rfl, ⟨nd, rfl⟩⟩) | ((with_reducible refine gD (N := 24) rfl ?_); refine map_event ?hg (N := 24) ?hd ?hr ?_; (case hd => rfl); (case hg => rfl); (case hr => first | (go_simp; rfl)); intro gm hg w4 hmp hb; have n2_ := Sd.mk ((by rw [hg]; exact (bZ (by repeat (first | (with_reducible first | exact HB.1 | apply bN ) )))) : w.heap.size ≤ gm); have hmp2 := Sd.mk hmp; have n0_ := Sd.mk (bT (by repeat (first | (with_reducible first | exact HB.1 | apply bN ) )) hb); have m0_ := Sd.mk (kB (by (with_reducible repeat (fail)); exact BKgb.1) hb); have m1_ := Sd.mk (kB (by (with_reducible repeat (fail)); exact BKgd.1) hb); clear HB; have HB := n0_; clear n0_; clear BKgb; have BKgb := m0_; clear m0_; clear BKgd; have BKgd := m1_; clear m1_; clear hb; clear hmp hg; have GEgm := n2_; have BKgm := hmp2; clear n2_ hmp2) | ((with_reducible refine gD (N := 26) rfl ?_); (try (refine gG (by rfl) ?_; dsimp only)); refine xE ?hg (N := 26) ?hd (cs := #[.int .i64 a0_0, .int .i64 a0_1, .slice A0_2 l0_2.length c0_2, .slice A0_3 l0_3.length c0_3, .slice A1 l1.length c1, .int .i64 a2, .map (some gm)]) (t := 116) ?hr ?_; (case hd => rfl); (case hg => rfl); (case hr => first | (go_simp; done) ); intro gw hg w5 hbox hb; have n0_ := Sd.mk (bT (by repeat (first | (with_reducible first | exact HB.1 ) )) hb); have n1_ := Sd.mk hbox; have n2_ := Sd.mk ((by rw [hg]; exact (bZ (by repeat (first | (with_reducible first | exact HB.1 ) )))) : w.heap.size ≤ gw); have m0_ := Sd.mk (kB (by (with_reducible repeat (fail)); exact BKgb.1) hb); have m1_ := Sd.mk (kB (by (with_reducible repeat (fail)); exact BKgd.1) hb); have mm_ := Sd.mk ((hb.block _ (blk_lt BKgm.1)).trans BKgm.1); clear BKgm; have BKgm := mm_; clear mm_; clear HB; have HB := n0_; have BKgw := n1_; have GEgw := n2_; clear n0_ n1_ n2_; clear BKgb; have BKgb := m0_; clear m0_; clear BKgd; have BKgd := m1_; clear m1_; clear hb hbox hg) | ((with_reducible refine gD (N := 10) rfl ?_); (try (refine gG (by rfl) ?_; dsimp only)); refine xE ?hg (N := 10) ?hd (cs := #[.pointer none]) (t := 113) ?hr ?_; (case hd => rfl); (case hg => rfl); (case hr => first | (go_simp; done) ); intro gp hg w6 hbox hb; have n0_ := Sd.mk (bT (by repeat (first | (with_reducible first | exact HB.1 ) )) hb); have n1_ := Sd.mk hbox; have n2_ := Sd.mk ((by rw [hg]; exact (bZ (by repeat (first | (with_reducible first | exact HB.1 ) )))) : w.heap.size ≤ gp); have m0_ := Sd.mk (kB (by (with_reducible repeat (fail)); exact BKgb.1) hb); have m1_ := Sd.mk (kB (by (with_reducible repeat (fail)); exact BKgd.1) hb); have m2_ := Sd.mk (kB (by (with_reducible repeat (fail)); exact BKgw.1) hb); have NEgbgp := Sd.mk (by rw [hg]; exact Nat.ne_of_lt (blk_lt (by (with_reducible repeat (fail)); exact BKgb.1)) : gb ≠ gp); have NEgdgp := Sd.mk (by rw [hg]; exact Nat.ne_of_lt (blk_lt (by (with_reducible repeat (fail)); exact BKgd.1)) : gd ≠ gp); have NEgwgp := Sd.mk (by rw [hg]; exact Nat.ne_of_lt (blk_lt (by (with_reducible repeat (fail)); exact BKgw.1)) : gw ≠ gp); have mm_ := Sd.mk ((hb.block _ (blk_lt BKgm.1)).trans BKgm.1); clear BKgm; have BKgm := mm_; clear mm_; clear HB; have HB := n0_; have BKgp := n1_; have GEgp := n2_; clear n0_ n1_ n2_; clear BKgb; have BKgb := m0_; clear m0_; clear BKgd; have BKgd := m1_; clear m1_; clear BKgw; have BKgw := m2_; clear m2_; clear hb hbox hg; have z_w6gp_0 : w6.cell? ⟨gp, 0, none⟩ = some (.pointer none) := (kC BKgp.1 0).trans rfl; have hfzw6gp_0 := kF BKgp.1 0))
 have hwp : gw ≠ gp := NEgwgp.1
 have hbp : gb ≠ gp := NEgbgp.1
 have hdp : gd ≠ gp := NEgdgp.1
 have hmp : gm ≠ gp := by
  rintro rfl
  have h1 := BKgm.1
  rw [BKgp.1] at h1
  cases h1
 have GM := Sd.mk (show GoodMap (FN l1 a2 l0_2.length l0_3.length) gm (w6.setCell ⟨gp, 0, none⟩ (.pointer (some ⟨gw, 0, none⟩))) from ⟨#[], 0, (Below.heap_setCell w6 ⟨gp, 0, none⟩ _ gm hmp).trans BKgm.1, by simp [GoodEs]⟩)
 have m0_ := Sd.mk (blk_far BKgb.1 (p := ⟨gp, 0, none⟩) hbp (.pointer (some ⟨gw, 0, none⟩)))
 have m1_ := Sd.mk (blk_far BKgd.1 (p := ⟨gp, 0, none⟩) hdp (.pointer (some ⟨gw, 0, none⟩)))
 have m2_ := Sd.mk (blk_far BKgw.1 (p := ⟨gp, 0, none⟩) hwp (.pointer (some ⟨gw, 0, none⟩)))
 have m3_ := Sd.mk (blk_set BKgp.1 0 (.pointer (some ⟨gw, 0, none⟩)))
 have m4_ := Sd.mk (bS HB.1 GEgp.1 (v := .pointer (some ⟨gw, 0, none⟩)) (j := 0))
 clear BKgb BKgd BKgw BKgp BKgm HB hwp hbp hdp hmp
 have BKgb := m0_
 have BKgd := m1_
 have BKgw := m2_
 have BKgp := m3_
 have HB := m4_
 clear m0_ m1_ m2_ m3_ m4_
 refine (few_any a0_0 a0_1 A0_2 l0_2.length c0_2 A0_3 l0_3.length c0_3 A1 c1 l1 a2 gw gm HS.1.1 (by have := HS.1.2.1; omega) HC1.1 (by have := HS.1.2.2; omega) l0_3.length sp0 _ sp0_ok (by show (0 : Int) + _ = _; omega) ?i3 BKgw.1 GM.1).mono ?i6
 case i3 => exact fun W hW => Kd.C_below HR1.1 (grown_of_gm HB.1 GEgm.1 hW)
 rintro e w7 ⟨rfl, hG, hW⟩
 have m0_ := Sd.mk (blk_grown BKgb.1 hW (good_ne GM.1 BKgb.1))
 have m1_ := Sd.mk (blk_grown BKgd.1 hW (good_ne GM.1 BKgd.1))
 have m2_ := Sd.mk (blk_grown BKgw.1 hW (good_ne GM.1 BKgw.1))
 have m3_ := Sd.mk (blk_grown BKgp.1 hW (good_ne GM.1 BKgp.1))
 have m4_ := Sd.mk (grown_of_gm HB.1 GEgm.1 hW)
 have m5_ := Sd.mk hG
 clear BKgb BKgd BKgw BKgp HB GM hG hW
 have BKgb := m0_
 have BKgd := m1_
 have BKgw := m2_
 have BKgp := m3_
 have HB := m4_
 have GM := m5_
 clear m0_ m1_ m2_ m3_ m4_ m5_
 have hczq7d_0 : w7.cell? ⟨gd, 0, none⟩ = some (.slice none 0 0) := (kC BKgd.1 0).trans rfl
 have hfzq7d_0 := kF BKgd.1 0
 go_wp2_with (first | ((with_reducible refine gD (N := 11) rfl ?_); (try (refine gG (by rfl) ?_; dsimp only)); refine xE ?hg (N := 11) ?hd (cs := #[.nilFunc]) (t := 122) ?hr ?_; (case hd => rfl); (case hg => rfl); (case hr => first | (go_simp; done) ); intro gx hg w8 hbox hb; have n0_ := Sd.mk (bT (by repeat (first | (with_reducible first | exact HB.1 ) )) hb); have n1_ := Sd.mk hbox; have n2_ := Sd.mk ((by rw [hg]; exact (bZ (by repeat (first | (with_reducible first | exact HB.1 ) )))) : w.heap.size ≤ gx); have m0_ := Sd.mk (kB (by (with_reducible repeat (fail)); exact BKgb.1) hb); have m1_ := Sd.mk (kB (by (with_reducible repeat (fail)); exact BKgd.1) hb); have m2_ := Sd.mk (kB (by (with_reducible repeat (fail)); exact BKgw.1) hb); have m3_ := Sd.mk (kB (by (with_reducible repeat (fail)); exact BKgp.1) hb); have NEgbgx := Sd.mk (by rw [hg]; exact Nat.ne_of_lt (blk_lt (by (with_reducible repeat (fail)); exact BKgb.1)) : gb ≠ gx); have NEgdgx := Sd.mk (by rw [hg]; exact Nat.ne_of_lt (blk_lt (by (with_reducible repeat (fail)); exact BKgd.1)) : gd ≠ gx); have NEgwgx := Sd.mk (by rw [hg]; exact Nat.ne_of_lt (blk_lt (by (with_reducible repeat (fail)); exact BKgw.1)) : gw ≠ gx); have NEgpgx := Sd.mk (by rw [hg]; exact Nat.ne_of_lt (blk_lt (by (with_reducible repeat (fail)); exact BKgp.1)) : gp ≠ gx); have mm_ := Sd.mk (good_below GM.1 hb); clear GM; have GM := mm_; clear mm_; clear HB; have HB := n0_; have BKgx := n1_; have GEgx := n2_; clear n0_ n1_ n2_; clear BKgb; have BKgb := m0_; clear m0_; clear BKgd; have BKgd := m1_; clear m1_; clear BKgw; have BKgw := m2_; clear m2_; clear BKgp; have BKgp := m3_; clear m3_; clear hb hbox hg; have z_w8gx_0 : w8.cell? ⟨gx, 0, none⟩ = some (.nilFunc) := (kC BKgx.1 0).trans rfl; have hfzw8gx_0 := kF BKgx.1 0) | ((with_reducible refine gate_store (t := 122) (p := 11) rfl ?_); refine store_event (t := 122) (p := 11) (v := ?vo) (w1 := (w8.setCell ⟨gx, 0, none⟩ (.func (.func 76) #[] #[.pointer (some ⟨gb, 0, none⟩), .pointer (some ⟨gp, 0, none⟩), .pointer (some ⟨gd, 0, none⟩), .pointer (some ⟨gx, 0, none⟩)]))) ?hg ?ho ?hn ?hr ?_; (case ho => rfl); (case hg => rfl); (case hn => rfl); (case hr => first | (go_simp; done) ); intro w9 hw9; have i0_ : Sd (EInv a0_0 a0_1 A0_2 l0_2.length c0_2 A0_3 l0_3.length c0_3 A1 c1 l1 a2 gb gp gw gd gx gm w w9 (.slice none 0 0) []) := ⟨by rw [hw9]; exact ⟨bS HB.1 GEgx.1, blk_far BKgb.1 NEgbgx.1 _, blk_far BKgp.1 NEgpgx.1 _, blk_far BKgw.1 NEgwgx.1 _, blk_set BKgx.1 0 _, blk_far BKgd.1 NEgdgx.1 _, good_set GM.1 BKgx.1, Kd.R_nil _ _ _ _ _, GEgd.1, GEgm.1⟩⟩; clear hw9; have HI := i0_; clear i0_; have hcx := (kC HI.1.bx 0).trans rfl))
 refine (ext_any a0_0 a0_1 A0_2 l0_2.length c0_2 A0_3 l0_3.length c0_3 A1 c1 l1 a2 gb gp gw gd gx gm w HS.1.1 (by have := HS.1.2.1; omega) HC1.1 (by have := HS.1.2.2; omega) HR1.1 l0_3.length sp0 (fewF l1 a2 l0_2.length l0_3.length sp0) w9 (.slice none 0 0) [] sp0_ok (by show (0 : Int) + _ = _; omega) HF.1.1 (by have h := HF.1.2; unfold farV at h; omega) (by have := HS.1.2.1; simp; omega) HI.1).mono ?_
 rintro e w10 ⟨rfl, v, h7⟩
 rw [List.nil_append] at h7
 have H7 := Sd.mk h7
 clear h7
 obtain ⟨Av, nv, cv, rfl⟩ : ∃ A n c, v = .slice A n c := (by obtain ⟨A, c, h⟩ := Kd.R_slice H7.1.own; exact ⟨A, _, c, h⟩)
 have hcd : w10.cell? ⟨gd, 0, none⟩ = some (.slice Av nv cv) := (kC H7.1.bd 0).trans rfl
 have hfd := kF H7.1.bd 0
 go_wp2
 have hcell : (w10.setCell ⟨gd, 0, none⟩ (.slice Av nv cv)).cell? ⟨gd, 0, none⟩ = some (.slice Av nv cv) := (kC (blk_set H7.1.bd 0 _) 0).trans rfl
 exact bodyPost_ret (v := .tuple #[.slice Av nv cv, .int .i64 (fewF l1 a2 l0_2.length l0_3.length sp0), .int .i64 0]) (by simp [results, Try.results35, go_sem, hcell]) rfl ⟨_, rfl, Kd.R_set H7.1.own H7.1.bd (by intro q hq; simp [Kd.int, Kd.scalar] at hq; omega) 0 _, bS H7.1.below GEgd.1⟩
theorem cipher_Plan.calls (a0_0 : Int) (a0_1 : Int) (A0_2 : Option Addr) (c0_2 : Nat) (l0_2 : List (S91)) (A0_3 : Option Addr) (c0_3 : Nat) (l0_3 : List Int) (A1 : Option Addr) (c1 : Nat) (l1 : List (S110)) (a2 : Int) (r1 : List Int) (r2 : Int) (r3 : Int) (w : World) (hr0_2 : Kd.C k91 w A0_2 l0_2.length l0_2) (hc0_2 : l0_2.length ≤ c0_2) (hr0_3 : Kd.C (Kd.int .i64) w A0_3 l0_3.length l0_3) (hc0_3 : l0_3.length ≤ c0_3) (hr1 : Kd.C k110 w A1 l1.length l1) (hc1 : l1.length ≤ c1) (h : cipher_Plan.f a0_0 a0_1 l0_2 l0_3 l1 a2 = some (r1, r2, r3)) :
  Calls Try.prog 35 #[.agg #[.int .i64 a0_0, .int .i64 a0_1, .slice A0_2 l0_2.length c0_2, .slice A0_3 l0_3.length c0_3], .slice A1 l1.length c1, .int .i64 a2] w fun e w' => ∃ v0_ : Value, e = .returned (.tuple #[v0_, .int .i64 r2, .int .i64 r3]) ∧ Kd.R (Kd.int .i64) 3 w' w.heap.size (fun _ => True) v0_ r1 ∧ Below w.heap.size w w' := by
 have h0 := Option.some.inj h
 clear h
 by_cases h : lossesV a0_0 a0_1 l0_2 l0_3 l1 = 0
 ·rw [if_neg (show ¬ (lossesV a0_0 a0_1 l0_2 l0_3 l1 ≠ 0) from fun h2 => h2 h)] at h0
  by_cases h2 : inB a2 0 8 = false
  ·rw [if_pos h2] at h0
   simp only [Prod.mk.injEq] at h0
   obtain ⟨rfl, rfl, rfl⟩ := h0
   exact plan_most a0_0 a0_1 A0_2 c0_2 l0_2 A0_3 c0_3 l0_3 A1 c1 l1 a2 w hr0_2 hc0_2 hr0_3 hc0_3 hr1 hc1 h h2
  ·rw [if_neg h2] at h0
   replace h2 := eq_true_of_ne_false h2
   by_cases h3 : farV ≤ fewF l1 a2 l0_2.length l0_3.length sp0
   ·rw [if_pos h3] at h0
    simp only [Prod.mk.injEq] at h0
    obtain ⟨rfl, rfl, rfl⟩ := h0
    exact plan_stuck a0_0 a0_1 A0_2 c0_2 l0_2 A0_3 c0_3 l0_3 A1 c1 l1 a2 w hr0_2 hc0_2 hr0_3 hc0_3 hr1 hc1 h h2 h3
   ·rw [if_neg h3] at h0
    simp only [Prod.mk.injEq] at h0
    obtain ⟨rfl, rfl, rfl⟩ := h0
    exact plan_best a0_0 a0_1 A0_2 c0_2 l0_2 A0_3 c0_3 l0_3 A1 c1 l1 a2 w hr0_2 hc0_2 hr0_3 hc0_3 hr1 hc1 h h2 h3
 ·rw [if_pos h] at h0
  simp only [Prod.mk.injEq] at h0
  obtain ⟨rfl, rfl, rfl⟩ := h0
  exact plan_loss a0_0 a0_1 A0_2 c0_2 l0_2 A0_3 c0_3 l0_3 A1 c1 l1 a2 w hr0_2 hc0_2 hr0_3 hc0_3 hr1 hc1 h
end Go.Proofs.Ytnidgkmopocdkaa.P
