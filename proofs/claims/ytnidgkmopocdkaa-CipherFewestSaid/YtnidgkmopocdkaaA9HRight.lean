import Derived.Test.YtnidgkmopocdkaaA9HLoss
import Derived.Test.YtnidgkmopocdkaaA9HFew
import Derived.Test.YtnidgkmopocdkaaA9HAwake
import Derived.Deep.RegionHeld3
namespace Go.Proofs.Ytnidgkmopocdkaa.P
open Go.RowKit Go.Proofs.YtnidgkmopocdkaaW.PrintWords Go.Proofs.YtnidgkmopocdkaaW.PrintLast Go.Proofs.YtnidgkmopocdkaaW.PrintMore
set_option linter.unusedVariables false
set_option linter.unusedSimpArgs false
def sp0' : Sp := ⟨0, 0, 0, 0, 0, 0, 0⟩
theorem sp0'_ok : sp0'.ok := ⟨⟨by decide, by decide, by decide, by decide, by decide, by decide, by decide, by decide, by decide, by decide, by decide, by decide⟩, by decide, by decide⟩
def rightL (lost : List S58) (most : Int) (K : Nat) : Sp → List Int → Bool
 | _, [] => true
 | s, k :: l => if inB k 0 ((K : Int) - 1) = false then false else if anyB k s.d lost = true then false else if most < (s.next k).u k then false else rightL lost most K (s.next k) l
def rightV (keys : List S82) (days : List Int) (lost : List S58) (most : Int) (l : List Int) : Bool := if l.length ≠ days.length then false else rightL lost most keys.length sp0' l
def glisterref04_IsRight.f (a0_0 : Int) (a0_1 : Int) (l0_2 : List (S82)) (l0_3 : List Int) (l1 : List (S58)) (a2 : Int) (l3 : List Int) : Option (Bool) := if 5 < l0_2.length then none else if 500 < l1.length then none else if 500 < l3.length then none else some (rightV l0_2 l0_3 l1 a2 l3)
theorem u_cell (s : Sp) (k : Nat) (hk : k < 5) : (#[.int .i64 s.u0, .int .i64 s.u1, .int .i64 s.u2, .int .i64 s.u3, .int .i64 s.u4] : Array Value)[k]? = some (.int .i64 (s.u k)) := by
 obtain rfl | rfl | rfl | rfl | rfl : k = 0 ∨ k = 1 ∨ k = 2 ∨ k = 3 ∨ k = 4 := by omega
 all_goals rfl
theorem u_next (s : Sp) (k : Nat) (hk : k < 5) : (#[.int .i64 s.u0, .int .i64 s.u1, .int .i64 s.u2, .int .i64 s.u3, .int .i64 s.u4] : Array Value).setIfInBounds k (.int .i64 (s.u k + 1)) = #[.int .i64 (s.next (k : Int)).u0, .int .i64 (s.next (k : Int)).u1, .int .i64 (s.next (k : Int)).u2, .int .i64 (s.next (k : Int)).u3, .int .i64 (s.next (k : Int)).u4] := by
 obtain rfl | rfl | rfl | rfl | rfl : k = 0 ∨ k = 1 ∨ k = 2 ∨ k = 3 ∨ k = 4 := by omega
 all_goals rfl
theorem next_u (s : Sp) (k : Nat) (hk : k < 5) : (s.next (k : Int)).u (k : Int) = s.u (k : Int) + 1 := by
 obtain rfl | rfl | rfl | rfl | rfl : k = 0 ∨ k = 1 ∨ k = 2 ∨ k = 3 ∨ k = 4 := by omega
 all_goals rfl
set_option maxHeartbeats 4000000 in
set_option maxRecDepth 100000 in
theorem right_len (a0_0 : Int) (a0_1 : Int) (A0_2 : Option Addr) (c0_2 : Nat) (l0_2 : List (S82)) (A0_3 : Option Addr) (c0_3 : Nat) (l0_3 : List Int) (A1 : Option Addr) (c1 : Nat) (l1 : List (S58)) (a2 : Int) (A3 : Option Addr) (c3 : Nat) (l3 : List Int) (w : World) (hr0_2 : Kd.C k82 w A0_2 l0_2.length l0_2) (hc0_2 : l0_2.length ≤ c0_2) (hr0_3 : Kd.C (Kd.int .i64) w A0_3 l0_3.length l0_3) (hc0_3 : l0_3.length ≤ c0_3) (hr1 : Kd.C k58 w A1 l1.length l1) (hc1 : l1.length ≤ c1) (hr3 : Kd.C (Kd.int .i64) w A3 l3.length l3) (hc3 : l3.length ≤ c3) (hl : ¬ l3.length = l0_3.length) :
  Calls Try.prog 36 #[.agg #[.int .i64 a0_0, .int .i64 a0_1, .slice A0_2 l0_2.length c0_2, .slice A0_3 l0_3.length c0_3], .slice A1 l1.length c1, .int .i64 a2, .slice A3 l3.length c3] w fun e w' => e = .returned (.bool false) ∧ Below w.heap.size w w' := by
 have hu25 := Try.underlying25
 have hu118 := Try.underlying118
 have HR0_2 := Sd.mk hr0_2
 have HC0_2 := Sd.mk hc0_2
 have HR0_3 := Sd.mk hr0_3
 have HC0_3 := Sd.mk hc0_3
 have HR1 := Sd.mk hr1
 have HC1 := Sd.mk hc1
 have HR3 := Sd.mk hr3
 clear hr0_2 hc0_2 hr0_3 hc0_3 hr1 hc1 hr3 hc3
 have HB := Sd.mk (Below.refl w.heap.size w)
 have fe1 : ((l3.length : Int) == (l0_3.length : Int)) = false := beq_eq_false_iff_ne.2 (by omega)
 have fe2 : ((l3.length : Int) != (l0_3.length : Int)) = true := bne_iff_ne.2 (by omega)
 have fe3 : (l3.length == l0_3.length) = false := beq_eq_false_iff_ne.2 (by omega)
 have fe4 : (l3.length != l0_3.length) = true := bne_iff_ne.2 (by omega)
 clear hl
 go_enter Try.func36, Try.ntmps36
 go_wp2_with (first | ((with_reducible refine gD (N := 4) rfl ?_); (try (refine gG (by rfl) ?_; dsimp only)); refine xE ?hg (N := 4) ?hd (cs := #[.int .i64 a0_0, .int .i64 a0_1, .slice A0_2 l0_2.length c0_2, .slice A0_3 l0_3.length c0_3]) (t := 25) ?hr ?_; (case hd => rfl); (case hg => rfl); (case hr => first | (go_simp; done) ); intro gb hg w1 hbox hb; have BKgb := Sd.mk hbox; have GEgb := Sd.mk ((by rw [hg]; exact (bZ (by repeat (first | (with_reducible first | exact HB.1 ) )))) : w.heap.size ≤ gb); replace HB := Sd.mk (bT (by repeat (first | (with_reducible first | exact HB.1 ) )) hb); clear hb hbox hg; have z_w1gb_3 : w1.cell? ⟨gb, 3, none⟩ = some (.slice A0_3 l0_3.length c0_3) := (kC BKgb.1 3).trans rfl))
 go_ret
 exact ⟨rfl, HB.1⟩
set_option maxHeartbeats 4000000 in
set_option maxRecDepth 100000 in
theorem right_run (a0_0 : Int) (a0_1 : Int) (A0_2 : Option Addr) (c0_2 : Nat) (l0_2 : List (S82)) (A0_3 : Option Addr) (c0_3 : Nat) (l0_3 : List Int) (A1 : Option Addr) (c1 : Nat) (l1 : List (S58)) (a2 : Int) (A3 : Option Addr) (c3 : Nat) (l3 : List Int) (w : World) (hr0_2 : Kd.C k82 w A0_2 l0_2.length l0_2) (hc0_2 : l0_2.length ≤ c0_2) (hr0_3 : Kd.C (Kd.int .i64) w A0_3 l0_3.length l0_3) (hc0_3 : l0_3.length ≤ c0_3) (hr1 : Kd.C k58 w A1 l1.length l1) (hc1 : l1.length ≤ c1) (hr3 : Kd.C (Kd.int .i64) w A3 l3.length l3) (hc3 : l3.length ≤ c3) (hK : l0_2.length ≤ 5) (hl1 : l1.length ≤ 500) (hl3 : l3.length ≤ 500) (hl : l3.length = l0_3.length) :
  Calls Try.prog 36 #[.agg #[.int .i64 a0_0, .int .i64 a0_1, .slice A0_2 l0_2.length c0_2, .slice A0_3 l0_3.length c0_3], .slice A1 l1.length c1, .int .i64 a2, .slice A3 l3.length c3] w fun e w' => e = .returned (.bool (rightL l1 a2 l0_2.length sp0' l3)) ∧ Below w.heap.size w w' := by
 have hu25 := Try.underlying25
 have hu118 := Try.underlying118
 have HR0_2 := Sd.mk hr0_2
 have HC0_2 := Sd.mk hc0_2
 have HR0_3 := Sd.mk hr0_3
 have HC0_3 := Sd.mk hc0_3
 have HR1 := Sd.mk hr1
 have HC1 := Sd.mk hc1
 have HR3 := Sd.mk hr3
 clear hr0_2 hc0_2 hr0_3 hc0_3 hr1 hc1 hr3 hc3
 have HB := Sd.mk (Below.refl w.heap.size w)
 have fe1 : ((l3.length : Int) == (l0_3.length : Int)) = true := beq_iff_eq.2 (by omega)
 have fe2 : ((l3.length : Int) != (l0_3.length : Int)) = false := bne_eq_false_iff_eq.2 (by omega)
 have fe3 : (l3.length == l0_3.length) = true := beq_iff_eq.2 (by omega)
 have fe4 : (l3.length != l0_3.length) = false := bne_eq_false_iff_eq.2 (by omega)
 have HK := Sd.mk hK
 have HL1 := Sd.mk hl1
 have HL3 := Sd.mk hl3
 clear hl hK hl1 hl3
 go_enter Try.func36, Try.ntmps36
 go_wp2_with (first | ((with_reducible refine gD (N := 4) rfl ?_); (try (refine gG (by rfl) ?_; dsimp only)); refine xE ?hg (N := 4) ?hd (cs := #[.int .i64 a0_0, .int .i64 a0_1, .slice A0_2 l0_2.length c0_2, .slice A0_3 l0_3.length c0_3]) (t := 25) ?hr ?_; (case hd => rfl); (case hg => rfl); (case hr => first | (go_simp; done) ); intro gb hg w1 hbox hb; have BKgb := Sd.mk hbox; have GEgb := Sd.mk ((by rw [hg]; exact (bZ (by repeat (first | (with_reducible first | exact HB.1 ) )))) : w.heap.size ≤ gb); replace HB := Sd.mk (bT (by repeat (first | (with_reducible first | exact HB.1 ) )) hb); clear hb hbox hg; have z_w1gb_3 : w1.cell? ⟨gb, 3, none⟩ = some (.slice A0_3 l0_3.length c0_3) := (kC BKgb.1 3).trans rfl) | ((with_reducible refine gD (N := 9) rfl ?_); (try (refine gG (by rfl) ?_; dsimp only)); refine xE ?hg (N := 9) ?hd (cs := #[.int .i64 0, .int .i64 0, .int .i64 0, .int .i64 0, .int .i64 0]) (t := 118) ?hr ?_; (case hd => rfl); (case hg => rfl); (case hr => first | (go_simp; done) ); intro gu hg w2 hbox hb; have n0_ := Sd.mk (bT (by repeat (first | (with_reducible first | exact HB.1 ) )) hb); have n1_ := Sd.mk hbox; have n2_ := Sd.mk ((by rw [hg]; exact (bZ (by repeat (first | (with_reducible first | exact HB.1 ) )))) : w.heap.size ≤ gu); have m0_ := Sd.mk (kB (by (with_reducible repeat (fail)); exact BKgb.1) hb); have NEgbgu := Sd.mk (by rw [hg]; exact Nat.ne_of_lt (blk_lt (by (with_reducible repeat (fail)); exact BKgb.1)) : gb ≠ gu); clear HB; have HB := n0_; have BKgu := n1_; have GEgu := n2_; clear n0_ n1_ n2_; clear BKgb; have BKgb := m0_; clear m0_; clear hb hbox hg))
 go_loopw [10] (fun v10 W => ∃ (i : Nat) (s : Sp), v10 = .int .i64 (i : Int) ∧ i ≤ l3.length ∧ Sd (s.ok ∧ s.d = (i : Int) ∧ rightL l1 a2 l0_2.length s (l3.drop i) = rightL l1 a2 l0_2.length sp0' l3) ∧ Sd (W.heap[gu]? = some (.cells #[.int .i64 s.u0, .int .i64 s.u1, .int .i64 s.u2, .int .i64 s.u3, .int .i64 s.u4] 118 (0, 0))) ∧ Sd (W.heap[gb]? = some (.cells #[.int .i64 a0_0, .int .i64 a0_1, .slice A0_2 l0_2.length c0_2, .slice A0_3 l0_3.length c0_3] 25 (0, 0))) ∧ Sd (Below w.heap.size w W)) (fun v10 W => l3.length - (intOf v10).toNat)
 case atStart => exact ⟨0, sp0', rfl, Nat.zero_le _, ⟨sp0'_ok, rfl, rfl⟩, BKgu, BKgb, HB⟩
 case round =>
  clear BKgu BKgb HB
  obtain ⟨i, s, rfl, hle, HP, BKgu, BKgb, HB⟩ := hrel
  have hl38 := HL3.1
  have hk5' := HK.1
  by_cases c4 : i < l3.length
  ·obtain ⟨ad, e, hx⟩ := Kd.at_int HR3.1 (i : Int) (by omega) (by omega)
   cases e
   rw [Int.toNat_natCast] at hx
   have HX := Sd.mk hx
   have hx0 := (HB.1.cell (World.block_lt_of_cell? w _ hx)).trans hx
   clear hx
   have hgi : rd l3 (i : Int) = l3[i] := getD_at l3 _ i c4
   generalize hy : rd l3 (i : Int) = y at hx0 HX hgi
   clear hy
   have HDR := Sd.mk (show rightL l1 a2 l0_2.length s (l3.drop i) = if inB y 0 ((l0_2.length : Int) - 1) = false then false else if anyB y s.d l1 = true then false else if a2 < (s.next y).u y then false else rightL l1 a2 l0_2.length (s.next y) (l3.drop (i + 1)) from by rw [List.drop_eq_getElem_cons c4, ← hgi, rightL])
   clear hgi
   have hczrb_2 : wr.cell? ⟨gb, 2, none⟩ = some (.slice A0_2 l0_2.length c0_2) := (kC BKgb.1 2).trans rfl
   cases hin : inB y 0 ((l0_2.length : Int) - 1) with
   | false =>
    have HIN := Sd.mk (show glisterref04_In.f y 0 (IntKind.i64.wrap ((l0_2.length : Int) - 1)) = some false from by rw [In_f, i64_w, wrap_of (by omega) (by omega), hin])
    have HRES := Sd.mk (show rightL l1 a2 l0_2.length sp0' l3 = false from by rw [← HP.1.2.2, HDR.1, hin]; rfl)
    go_wp2_with (fail)
    repeat (go_quiet (first | (go_at_call 23; (with_reducible refine (glisterref04_In.calls _ _ _ _ _ HIN.1).mono ?_); rintro e w' ⟨rfl, ⟨nd, rfl⟩⟩; (try first | exact ⟨rfl, _, World.drewN_drewN _ _ _⟩ ))))
    go_wp2
    go_ret
    exact ⟨ret_bool_eq HRES.1.symm, by repeat (first | (with_reducible first | exact HB.1 | apply bN ) )⟩
   | true =>
    have hyb := inB_iff.1 hin
    obtain ⟨k, rfl⟩ : ∃ k : Nat, y = (k : Int) := ⟨y.toNat, by omega⟩
    have HK5 := Sd.mk (show k < 5 by omega)
    have HIN := Sd.mk (show glisterref04_In.f (k : Int) 0 (IntKind.i64.wrap ((l0_2.length : Int) - 1)) = some true from by rw [In_f, i64_w, wrap_of (by omega) (by omega), hin])
    cases hh : anyB (k : Int) s.d l1 with
    | true =>
     have HHD := Sd.mk (show glisterref04_Had.f 501 l1 (k : Int) (i : Int) = some true from by rw [Had_f (k := 501) l1 _ _ (by have := HL1.1; omega) (by have := HL1.1; omega), ← HP.1.2.1, hh])
     have HRES := Sd.mk (show rightL l1 a2 l0_2.length sp0' l3 = false from by rw [← HP.1.2.2, HDR.1, hin, hh]; rfl)
     clear hh
     go_wp2_with (fail)
     repeat (go_quiet (first | (go_at_call 23; (with_reducible refine (glisterref04_In.calls _ _ _ _ _ HIN.1).mono ?_); rintro e w' ⟨rfl, ⟨nd, rfl⟩⟩; (try first | exact ⟨rfl, _, World.drewN_drewN _ _ _⟩ )) | (go_at_call 74; (with_reducible refine (glisterref04_Had.calls 501 A1 c1 l1 _ _ _ _ ?sd HC1.1 HHD.1).mono ?_); (case sd => repeat (first | exact (Kd.C_below HR1.1 HB.1) | (with_reducible refine Kd.C_drewN ?_ _) )); rintro e w' ⟨rfl, ⟨nd2, rfl⟩⟩; (try first | exact ⟨rfl, _, World.drewN_drewN _ _ _⟩ ))))
     go_wp2
     go_ret
     exact ⟨ret_bool_eq HRES.1.symm, by repeat (first | (with_reducible first | exact HB.1 | apply bN ) )⟩
    | false =>
     have HHD := Sd.mk (show glisterref04_Had.f 501 l1 (k : Int) (i : Int) = some false from by rw [Had_f (k := 501) l1 _ _ (by have := HL1.1; omega) (by have := HL1.1; omega), ← HP.1.2.1, hh])
     have HRES := Sd.mk (show (if a2 < (s.next (k : Int)).u (k : Int) then false else rightL l1 a2 l0_2.length (s.next (k : Int)) (l3.drop (i + 1))) = rightL l1 a2 l0_2.length sp0' l3 from by rw [← HP.1.2.2, HDR.1, hin, hh]; rfl)
     clear hh
     go_wp2_with (fail)
     repeat (go_quiet (first | (go_at_call 23; (with_reducible refine (glisterref04_In.calls _ _ _ _ _ HIN.1).mono ?_); rintro e w' ⟨rfl, ⟨nd, rfl⟩⟩; (try first | exact ⟨rfl, _, World.drewN_drewN _ _ _⟩ )) | (go_at_call 74; (with_reducible refine (glisterref04_Had.calls 501 A1 c1 l1 _ _ _ _ ?sd HC1.1 HHD.1).mono ?_); (case sd => repeat (first | exact (Kd.C_below HR1.1 HB.1) | (with_reducible refine Kd.C_drewN ?_ _) )); rintro e w' ⟨rfl, ⟨nd2, rfl⟩⟩; (try first | exact ⟨rfl, _, World.drewN_drewN _ _ _⟩ ))))
     have hcu : wr.cell? ⟨gu, k, none⟩ = some (.int .i64 (s.u (k : Int))) := (kC BKgu.1 k).trans (u_cell s k HK5.1)
     have hfu : wr.frozen? ⟨gu, k, none⟩ = false := kF BKgu.1 k
     have hk5 := HK5.1
     have hsu := Sp.fit.u s HP.1.1.fit (k : Int)
     have hsu0 := hsu.1
     have hsu1 : s.u (k : Int) ≤ 500 := by have := hsu.2; have := HP.1.2.1; have := HL3.1; omega
     clear hsu
     by_cases hgt : a2 < (s.next (k : Int)).u (k : Int)
     ·have f9 : decide (a2 < (s.next (k : Int)).u (k : Int)) = true := decide_eq_true hgt
      have HRES2 := Sd.mk (show rightL l1 a2 l0_2.length sp0' l3 = false from by rw [← HRES.1, if_pos hgt])
      clear hgt
      go_wp2_with (first | ((with_reducible refine gate_store (t := 3) (p := 49) rfl ?_); refine store_event (t := 3) (p := 49) (v := ?vo) (w1 := ((wr.drewN nq).setCell ⟨gu, k, none⟩ (.int .i64 (s.u k + 1)))) ?hg ?ho ?hn ?hr ?_; (case ho => rfl); (case hg => rfl); (case hn => rfl); (case hr => first | (go_simp; done) ); intro w6 hw6; have m0_ : Sd (w6.heap[gu]? = some (.cells #[.int .i64 (s.next (k : Int)).u0, .int .i64 (s.next (k : Int)).u1, .int .i64 (s.next (k : Int)).u2, .int .i64 (s.next (k : Int)).u3, .int .i64 (s.next (k : Int)).u4] 118 (0, 0))) := ⟨by rw [hw6]; exact blk_put (kN BKgu.1 nq) k _ (u_next s k HK5.1)⟩; have m1_ : Sd (w6.heap[gb]? = some (.cells #[.int .i64 a0_0, .int .i64 a0_1, .slice A0_2 l0_2.length c0_2, .slice A0_3 l0_3.length c0_3] 25 (0, 0))) := ⟨by rw [hw6]; exact blk_far (p := ⟨gu, k, none⟩) (kN BKgb.1 nq) NEgbgu.1 _⟩; have m2_ : Sd (Below w.heap.size w w6) := ⟨by rw [hw6]; exact bS (bN HB.1 nq) GEgu.1⟩; clear hw6; clear BKgu BKgb HB; have BKgu := m0_; have BKgb := m1_; have HB := m2_; clear m0_ m1_ m2_; have hcn : w6.cell? ⟨gu, k, none⟩ = some (.int .i64 ((s.next (k : Int)).u (k : Int))) := (kC BKgu.1 k).trans (u_cell (s.next (k : Int)) k HK5.1); replace hx0 := (HB.1.cell (World.block_lt_of_cell? w _ HX.1)).trans HX.1))
      go_ret
      exact ⟨ret_bool_eq HRES2.1.symm, by repeat (first | (with_reducible first | exact HB.1 ) )⟩
     ·have f9 : decide (a2 < (s.next (k : Int)).u (k : Int)) = false := decide_eq_false hgt
      have HRES2 := Sd.mk (show rightL l1 a2 l0_2.length (s.next (k : Int)) (l3.drop (i + 1)) = rightL l1 a2 l0_2.length sp0' l3 from by rw [← HRES.1, if_neg hgt])
      clear hgt
      go_wp2_with (first | ((with_reducible refine gate_store (t := 3) (p := 49) rfl ?_); refine store_event (t := 3) (p := 49) (v := ?vo) (w1 := ((wr.drewN nq).setCell ⟨gu, k, none⟩ (.int .i64 (s.u k + 1)))) ?hg ?ho ?hn ?hr ?_; (case ho => rfl); (case hg => rfl); (case hn => rfl); (case hr => first | (go_simp; done) ); intro w6 hw6; have m0_ : Sd (w6.heap[gu]? = some (.cells #[.int .i64 (s.next (k : Int)).u0, .int .i64 (s.next (k : Int)).u1, .int .i64 (s.next (k : Int)).u2, .int .i64 (s.next (k : Int)).u3, .int .i64 (s.next (k : Int)).u4] 118 (0, 0))) := ⟨by rw [hw6]; exact blk_put (kN BKgu.1 nq) k _ (u_next s k HK5.1)⟩; have m1_ : Sd (w6.heap[gb]? = some (.cells #[.int .i64 a0_0, .int .i64 a0_1, .slice A0_2 l0_2.length c0_2, .slice A0_3 l0_3.length c0_3] 25 (0, 0))) := ⟨by rw [hw6]; exact blk_far (p := ⟨gu, k, none⟩) (kN BKgb.1 nq) NEgbgu.1 _⟩; have m2_ : Sd (Below w.heap.size w w6) := ⟨by rw [hw6]; exact bS (bN HB.1 nq) GEgu.1⟩; clear hw6; clear BKgu BKgb HB; have BKgu := m0_; have BKgb := m1_; have HB := m2_; clear m0_ m1_ m2_; have hcn : w6.cell? ⟨gu, k, none⟩ = some (.int .i64 ((s.next (k : Int)).u (k : Int))) := (kC BKgu.1 k).trans (u_cell (s.next (k : Int)) k HK5.1); replace hx0 := (HB.1.cell (World.block_lt_of_cell? w _ HX.1)).trans HX.1))
      go_roundw
      case rel => exact ⟨i + 1, s.next k, by go_num, by omega, ⟨HP.1.1.next k HK5.1 (by have := HP.1.2.1; have := HL3.1; omega), by show s.d + 1 = _; rw [HP.1.2.1]; omega, HRES2.1⟩, BKgu, BKgb, HB⟩
      case measure => simp [intOf]; omega
  ·have HRES := Sd.mk (show rightL l1 a2 l0_2.length sp0' l3 = true from by rw [← HP.1.2.2, List.drop_of_length_le (by omega), rightL])
   go_wp2
   go_ret
   exact ⟨ret_bool_eq HRES.1.symm, HB.1⟩
theorem glisterref04_IsRight.calls (a0_0 : Int) (a0_1 : Int) (A0_2 : Option Addr) (c0_2 : Nat) (l0_2 : List (S82)) (A0_3 : Option Addr) (c0_3 : Nat) (l0_3 : List Int) (A1 : Option Addr) (c1 : Nat) (l1 : List (S58)) (a2 : Int) (A3 : Option Addr) (c3 : Nat) (l3 : List Int) (r : Bool) (w : World) (hr0_2 : Kd.C k82 w A0_2 l0_2.length l0_2) (hc0_2 : l0_2.length ≤ c0_2) (hr0_3 : Kd.C (Kd.int .i64) w A0_3 l0_3.length l0_3) (hc0_3 : l0_3.length ≤ c0_3) (hr1 : Kd.C k58 w A1 l1.length l1) (hc1 : l1.length ≤ c1) (hr3 : Kd.C (Kd.int .i64) w A3 l3.length l3) (hc3 : l3.length ≤ c3) (h : glisterref04_IsRight.f a0_0 a0_1 l0_2 l0_3 l1 a2 l3 = some r) :
  Calls Try.prog 36 #[.agg #[.int .i64 a0_0, .int .i64 a0_1, .slice A0_2 l0_2.length c0_2, .slice A0_3 l0_3.length c0_3], .slice A1 l1.length c1, .int .i64 a2, .slice A3 l3.length c3] w fun e w' => e = .returned (.bool r) ∧ Below w.heap.size w w' := by
 unfold glisterref04_IsRight.f at h
 by_cases h5 : 5 < l0_2.length
 ·rw [if_pos h5] at h; cases h
 rw [if_neg h5] at h
 by_cases h6 : 500 < l1.length
 ·rw [if_pos h6] at h; cases h
 rw [if_neg h6] at h
 by_cases h7 : 500 < l3.length
 ·rw [if_pos h7] at h; cases h
 rw [if_neg h7] at h
 obtain rfl := Option.some.inj h
 unfold rightV
 by_cases hl : l3.length = l0_3.length
 ·rw [if_neg (fun h2 => h2 hl)]
  exact right_run a0_0 a0_1 A0_2 c0_2 l0_2 A0_3 c0_3 l0_3 A1 c1 l1 a2 A3 c3 l3 w hr0_2 hc0_2 hr0_3 hc0_3 hr1 hc1 hr3 hc3 (by omega) (by omega) (by omega) hl
 ·rw [if_pos hl]
  exact right_len a0_0 a0_1 A0_2 c0_2 l0_2 A0_3 c0_3 l0_3 A1 c1 l1 a2 A3 c3 l3 w hr0_2 hc0_2 hr0_3 hc0_3 hr1 hc1 hr3 hc3 hl
end Go.Proofs.Ytnidgkmopocdkaa.P
