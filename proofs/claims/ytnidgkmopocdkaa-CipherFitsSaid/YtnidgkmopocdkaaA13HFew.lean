import Derived.Test.YtnidgkmopocdkaaA13HMap
import Derived.Test.YtnidgkmopocdkaaA13HMin
namespace Go.Proofs.Ytnidgkmopocdkaa.P
open Go.RowKit Go.Proofs.YtnidgkmopocdkaaW.PrintWords Go.Proofs.YtnidgkmopocdkaaW.PrintLast Go.Proofs.YtnidgkmopocdkaaW.PrintMore
set_option linter.unusedVariables false
set_option linter.unusedSimpArgs false
def farV : Int := 1048576
def fewUpTo (lost : List S110) (most : Int) (g : Sp → Int) (s : Sp) : Nat → Int
 | 0 => farV
 | k + 1 => if mayB lost most s (k : Int) = true then mn (fewUpTo lost most g s k) (chgV s (k : Int) + g (s.next (k : Int))) else fewUpTo lost most g s k
def fewF (lost : List S110) (most : Int) (K : Nat) : Nat → Sp → Int
 | 0, _ => 0
 | r + 1, s => fewUpTo lost most (fewF lost most K r) s K
theorem fewUpTo_bd (lost : List S110) (most : Int) (g : Sp → Int) (s : Sp) (hg : ∀ s, 0 ≤ g s) : ∀ k, 0 ≤ fewUpTo lost most g s k ∧ fewUpTo lost most g s k ≤ farV
 | 0 => by unfold fewUpTo farV; omega
 | k + 1 => by
  have ih := fewUpTo_bd lost most g s hg k
  unfold fewUpTo
  split
  ·have := hg (s.next (k : Int))
   have hc : 0 ≤ chgV s (k : Int) := by unfold chgV; split <;> omega
   unfold mn
   split <;> omega
  ·exact ih
theorem fewF_bd (lost : List S110) (most : Int) (K : Nat) : ∀ r s, 0 ≤ fewF lost most K r s ∧ fewF lost most K r s ≤ farV
 | 0, _ => by unfold fewF farV; omega
 | r + 1, s => fewUpTo_bd lost most _ s (fun s => (fewF_bd lost most K r s).1) K
theorem Sp.ok.next {s : Sp} (h : s.ok) (k : Nat) (hk : k < 5) (hd : s.d < 1000) : (s.next (k : Int)).ok := by
 obtain ⟨⟨d0, d1, h0, h1, h2, h3, h4, l0, l1, l2, l3, l4⟩, a0, a1⟩ := h
 refine ⟨⟨?_, ?_, ?_, ?_, ?_, ?_, ?_, ?_, ?_, ?_, ?_, ?_⟩, ?_, ?_⟩ <;> simp only [Sp.next]
 all_goals (omega )
theorem next_d (s : Sp) (k : Int) : (s.next k).d = s.d + 1 := rfl
theorem grown_below {w W W' : World} {row : Option Nat} (h : w.grownBy W row) (hb : Below W.heap.size W W') : w.grownBy W' row :=
 ⟨hb.os.trans h.os, hb.tape.trans h.tape, hb.output.trans h.output, Nat.le_trans h.size hb.size, fun k hk hne => (hb.block k (Nat.lt_of_lt_of_le hk h.size)).trans (h.block k hk hne)⟩
theorem grown_trans {w W W' : World} {row : Option Nat} (h : w.grownBy W row) (hb : W.grownBy W' row) : w.grownBy W' row :=
 ⟨hb.os.trans h.os, hb.tape.trans h.tape, hb.output.trans h.output, Nat.le_trans h.size hb.size, fun k hk hne => (hb.block k (Nat.lt_of_lt_of_le hk h.size) hne).trans (h.block k hk hne)⟩
theorem grown_drewN {w W : World} {row : Option Nat} (h : w.grownBy W row) (n : Nat) : w.grownBy (W.drewN n) row := grown_below h (bN (Below.refl _ _) n)
theorem grown_drew {w W : World} {row : Option Nat} (h : w.grownBy W row) : w.grownBy W.drew row := grown_below h (bD (Below.refl _ _))
theorem good_same {F : Sp → Int} {gm : Nat} {w W : World} (h : GoodMap F gm w) (hb : W.heap[gm]? = w.heap[gm]?) : GoodMap F gm W := by
 obtain ⟨es, c, h1, h2⟩ := h
 exact ⟨es, c, hb.trans h1, h2⟩
theorem good_lt {F : Sp → Int} {gm : Nat} {w : World} (h : GoodMap F gm w) : gm < w.heap.size := by
 obtain ⟨es, c, h1, h2⟩ := h
 exact blk_lt h1
theorem good_below {F : Sp → Int} {gm : Nat} {w W : World} (h : GoodMap F gm w) (hb : Below w.heap.size w W) : GoodMap F gm W := good_same h (hb.block gm (good_lt h))
theorem good_set {F : Sp → Int} {gm : Nat} {w : World} (h : GoodMap F gm w) {g j : Nat} {v : Value} {t : TypeId} {cs : Array Value} (hg : w.heap[g]? = some (.cells cs t (0, 0))) : GoodMap F gm (w.setCell ⟨g, j, none⟩ v) := by
 refine good_same h (Below.heap_setCell w ⟨g, j, none⟩ v gm ?_)
 rintro rfl
 obtain ⟨es, c, h1, _⟩ := h
 rw [h1] at hg
 cases hg
theorem good_ne {F : Sp → Int} {gm : Nat} {w : World} (h : GoodMap F gm w) {g : Nat} {t : TypeId} {cs : Array Value} (hg : w.heap[g]? = some (.cells cs t (0, 0))) : (some g : Option Nat) ≠ some gm := by
 intro e
 injection e with e
 subst e
 obtain ⟨es, c, h1, _⟩ := h
 rw [h1] at hg
 cases hg
theorem lookup_all {F : Sp → Int} {gm : Nat} {w : World} (hg : GoodMap F gm w) (s : Sp) (hs : s.ok) :
  (∀ n, (Instr.lookup 114 (.map (some gm)) (spV s) true).run Try.prog (w.drewN n) = .ok (.tuple #[.int .i64 (F s), .bool true]) (w.drewN n)) ∨ (∀ n, (Instr.lookup 114 (.map (some gm)) (spV s) true).run Try.prog (w.drewN n) = .ok (.tuple #[.int .i64 0, .bool false]) (w.drewN n)) := by
 obtain ⟨es, clock, hb, hes⟩ := hg
 obtain ⟨l, hl⟩ := keyOf_sp s hs
 have hz : ∀ w, (zeroValue 3).run Try.prog w = .ok (.int .i64 0) w := fun w => by kernel_rfl
 have ho : ∀ n, (getObj gm).run Try.prog (w.drewN n) = .ok (.map es clock) (w.drewN n) := fun n => by
  simp [getObj, Sem.run, hb]
 have hall : ∀ e ∈ es.toList, ∃ l, keyOf Try.prog 121 e.key = some l := fun e he => by obtain ⟨s', hs', hk, _⟩ := hes e he; rw [hk]; exact keyOf_sp s' hs'
 by_cases hex : ∃ e ∈ es.toList, e.key = spV s
 ·left
  intro n
  rcases spLaw.find (w.drewN n) hl es.toList hall with ⟨_, h⟩ | ⟨j, e, h, hj, hk⟩
  ·obtain ⟨e, he, hk⟩ := hex
   exact absurd hk (h e he)
  ·obtain ⟨s', _, hk', hv⟩ := hes e (List.mem_of_getElem? hj)
   obtain rfl : s' = s := spV_inj (hk'.symm.trans hk)
   rw [hv] at h
   simp [Instr.lookup, run_underlying Try.underlying114, ho, spLaw.check (w.drewN n) es.isEmpty hl, h]
 ·right
  intro n
  rcases spLaw.find (w.drewN n) hl es.toList hall with ⟨h, _⟩ | ⟨j, e, h, hj, hk⟩
  ·simp [Instr.lookup, run_underlying Try.underlying114, ho, spLaw.check (w.drewN n) es.isEmpty hl, h, hz]
  ·exact absurd ⟨e, List.mem_of_getElem? hj, hk⟩ hex
def FewPost (F : Sp → Int) (v : Int) (gm : Nat) (w : World) (e : Ending) (w' : World) : Prop := e = .returned (.int .i64 v) ∧ GoodMap F gm w' ∧ w.grownBy w' (some gm)
set_option maxHeartbeats 4000000 in
set_option maxRecDepth 100000 in
theorem few_zero (sz wd : Int) (AK : Option Addr) (K cK : Nat) (AD : Option Addr) (N cD : Nat) (AL : Option Addr) (cL : Nat) (lost : List S110) (most : Int) (gw gm : Nat) (F : Sp → Int) (s : Sp) (w : World) (hd : s.d = (N : Int)) (hw : w.heap[gw]? = some (.cells #[.int .i64 sz, .int .i64 wd, .slice AK K cK, .slice AD N cD, .slice AL lost.length cL, .int .i64 most, .map (some gm)] 116 (0, 0))) (hg : GoodMap F gm w) :
  Calls Try.prog 75 #[.pointer (some ⟨gw, 0, none⟩), .agg #[.int .i64 s.d, .int .i64 s.la, .int .i64 s.u0, .int .i64 s.u1, .int .i64 s.u2, .int .i64 s.u3, .int .i64 s.u4]] w (FewPost F 0 gm w) := by
 have hu116 := Try.underlying116
 have hu121 := Try.underlying121
 have hu32 := Try.underlying32
 have BKgw := Sd.mk hw
 have HG := Sd.mk hg
 have f1 : (s.d == (N : Int)) = true := beq_iff_eq.2 hd
 clear hw hg hd
 have HB := Sd.mk (Below.refl w.heap.size w)
 go_enter Try.func75, Try.ntmps75
 go_wp2_with (first | ((with_reducible refine gD (N := 3) rfl ?_); (try (refine gG (by rfl) ?_; dsimp only)); refine xE ?hg (N := 3) ?hd (cs := #[.int .i64 s.d, .int .i64 s.la, .int .i64 s.u0, .int .i64 s.u1, .int .i64 s.u2, .int .i64 s.u3, .int .i64 s.u4]) (t := 121) ?hr ?_; (case hd => rfl); (case hg => rfl); (case hr => first | (go_simp; done) ); intro gs hg w1 hbox hb; have n0_ := Sd.mk (bT (by repeat (first | (with_reducible first | exact HB.1 ) )) hb); have n1_ := Sd.mk hbox; have n2_ := Sd.mk ((by rw [hg]; exact (bZ (by repeat (first | (with_reducible first | exact HB.1 ) )))) : w.heap.size ≤ gs); have m0_ := Sd.mk (kB (by (with_reducible repeat (fail)); exact BKgw.1) hb); have NEgwgs := Sd.mk (by rw [hg]; exact Nat.ne_of_lt (blk_lt (by (with_reducible repeat (fail)); exact BKgw.1)) : gw ≠ gs); clear HB; have HB := n0_; have BKgs := n1_; have GEgs := n2_; clear n0_ n1_ n2_; clear BKgw; have BKgw := m0_; clear m0_; clear hb hbox hg; have z_w1gw_2 : w1.cell? ⟨gw, 2, none⟩ = some (.slice AK K cK) := (kC BKgw.1 2).trans rfl; have z_w1gw_3 : w1.cell? ⟨gw, 3, none⟩ = some (.slice AD N cD) := (kC BKgw.1 3).trans rfl; have z_w1gw_6 : w1.cell? ⟨gw, 6, none⟩ = some (.map (some gm)) := (kC BKgw.1 6).trans rfl; have z_w1gs_0 : w1.cell? ⟨gs, 0, none⟩ = some (.int .i64 s.d) := (kC BKgs.1 0).trans rfl; have z_w1gs_1 : w1.cell? ⟨gs, 1, none⟩ = some (.int .i64 s.la) := (kC BKgs.1 1).trans rfl; have z_w1gs_2 : w1.cell? ⟨gs, 2, none⟩ = some (.int .i64 s.u0) := (kC BKgs.1 2).trans rfl; have z_w1gs_3 : w1.cell? ⟨gs, 3, none⟩ = some (.int .i64 s.u1) := (kC BKgs.1 3).trans rfl; have z_w1gs_4 : w1.cell? ⟨gs, 4, none⟩ = some (.int .i64 s.u2) := (kC BKgs.1 4).trans rfl; have z_w1gs_5 : w1.cell? ⟨gs, 5, none⟩ = some (.int .i64 s.u3) := (kC BKgs.1 5).trans rfl; have z_w1gs_6 : w1.cell? ⟨gs, 6, none⟩ = some (.int .i64 s.u4) := (kC BKgs.1 6).trans rfl))
 go_quiet (fail)
 go_wp2
 go_ret
 exact ⟨rfl, good_below HG.1 (by repeat (first | (with_reducible first | exact HB.1 | apply bN ) )), grown_below (World.grownBy.refl w (some gm)) (by repeat (first | (with_reducible first | exact HB.1 | apply bN ) ))⟩
def FN (lost : List S110) (most : Int) (K N : Nat) (s : Sp) : Int := fewF lost most K (N - s.d.toNat) s
set_option maxHeartbeats 8000000 in
set_option maxRecDepth 100000 in
theorem few_step (sz wd : Int) (AK : Option Addr) (K cK : Nat) (AD : Option Addr) (N cD : Nat) (AL : Option Addr) (cL : Nat) (lost : List S110) (most : Int) (gw gm : Nat) (hK : K ≤ 5) (hN : N ≤ 1000) (hcl : lost.length ≤ cL) (hlen : lost.length ≤ 1000) (r : Nat)
  (IH : ∀ (s : Sp) (w : World), s.ok → s.d + r = N → (∀ W, w.grownBy W (some gm) → Kd.C k110 W AL lost.length lost) → w.heap[gw]? = some (.cells #[.int .i64 sz, .int .i64 wd, .slice AK K cK, .slice AD N cD, .slice AL lost.length cL, .int .i64 most, .map (some gm)] 116 (0, 0)) → GoodMap (FN lost most K N) gm w → Calls Try.prog 75 #[.pointer (some ⟨gw, 0, none⟩), spV s] w (FewPost (FN lost most K N) (fewF lost most K r s) gm w))
  (s : Sp) (w : World) (hs : s.ok) (hd : s.d + (r + 1 : Nat) = N) (hr : ∀ W, w.grownBy W (some gm) → Kd.C k110 W AL lost.length lost) (hw : w.heap[gw]? = some (.cells #[.int .i64 sz, .int .i64 wd, .slice AK K cK, .slice AD N cD, .slice AL lost.length cL, .int .i64 most, .map (some gm)] 116 (0, 0))) (hg : GoodMap (FN lost most K N) gm w) :
  Calls Try.prog 75 #[.pointer (some ⟨gw, 0, none⟩), .agg #[.int .i64 s.d, .int .i64 s.la, .int .i64 s.u0, .int .i64 s.u1, .int .i64 s.u2, .int .i64 s.u3, .int .i64 s.u4]] w (FewPost (FN lost most K N) (fewF lost most K (r + 1) s) gm w) := by
 have hu116 := Try.underlying116
 have hu121 := Try.underlying121
 have hu32 := Try.underlying32
 have BKgw := Sd.mk hw
 have HG := Sd.mk hg
 have HS := Sd.mk hs
 have HI := Sd.mk IH
 have HR := Sd.mk hr
 have HK := Sd.mk hK
 have HC := Sd.mk hcl
 have HLN := Sd.mk hlen
 have HD := Sd.mk hd
 have HNN := Sd.mk hN
 have HF := Sd.mk (show fewF lost most K (r + 1) s = FN lost most K N s from by unfold FN; rw [show N - s.d.toNat = r + 1 from by have := hs.fit.d0; omega])
 have f1 : (s.d == (N : Int)) = false := beq_eq_false_iff_ne.2 (by omega)
 clear hw hg hd hs IH hr hK hcl hlen hN
 have HB := Sd.mk (Below.refl w.heap.size w)
 go_enter Try.func75, Try.ntmps75
 go_wp2_with (first | ((with_reducible refine gD (N := 3) rfl ?_); (try (refine gG (by rfl) ?_; dsimp only)); refine xE ?hg (N := 3) ?hd (cs := #[.int .i64 s.d, .int .i64 s.la, .int .i64 s.u0, .int .i64 s.u1, .int .i64 s.u2, .int .i64 s.u3, .int .i64 s.u4]) (t := 121) ?hr ?_; (case hd => rfl); (case hg => rfl); (case hr => first | (go_simp; done) ); intro gs hg w1 hbox hb; have n0_ := Sd.mk (bT (by repeat (first | (with_reducible first | exact HB.1 ) )) hb); have n1_ := Sd.mk hbox; have n2_ := Sd.mk ((by rw [hg]; exact (bZ (by repeat (first | (with_reducible first | exact HB.1 ) )))) : w.heap.size ≤ gs); have m0_ := Sd.mk (kB (by (with_reducible repeat (fail)); exact BKgw.1) hb); have NEgwgs := Sd.mk (by rw [hg]; exact Nat.ne_of_lt (blk_lt (by (with_reducible repeat (fail)); exact BKgw.1)) : gw ≠ gs); clear HB; have HB := n0_; have BKgs := n1_; have GEgs := n2_; clear n0_ n1_ n2_; clear BKgw; have BKgw := m0_; clear m0_; clear hb hbox hg; have z_w1gw_2 : w1.cell? ⟨gw, 2, none⟩ = some (.slice AK K cK) := (kC BKgw.1 2).trans rfl; have z_w1gw_3 : w1.cell? ⟨gw, 3, none⟩ = some (.slice AD N cD) := (kC BKgw.1 3).trans rfl; have z_w1gw_6 : w1.cell? ⟨gw, 6, none⟩ = some (.map (some gm)) := (kC BKgw.1 6).trans rfl; have z_w1gs_0 : w1.cell? ⟨gs, 0, none⟩ = some (.int .i64 s.d) := (kC BKgs.1 0).trans rfl; have z_w1gs_1 : w1.cell? ⟨gs, 1, none⟩ = some (.int .i64 s.la) := (kC BKgs.1 1).trans rfl; have z_w1gs_2 : w1.cell? ⟨gs, 2, none⟩ = some (.int .i64 s.u0) := (kC BKgs.1 2).trans rfl; have z_w1gs_3 : w1.cell? ⟨gs, 3, none⟩ = some (.int .i64 s.u1) := (kC BKgs.1 3).trans rfl; have z_w1gs_4 : w1.cell? ⟨gs, 4, none⟩ = some (.int .i64 s.u2) := (kC BKgs.1 4).trans rfl; have z_w1gs_5 : w1.cell? ⟨gs, 5, none⟩ = some (.int .i64 s.u3) := (kC BKgs.1 5).trans rfl; have z_w1gs_6 : w1.cell? ⟨gs, 6, none⟩ = some (.int .i64 s.u4) := (kC BKgs.1 6).trans rfl))
 have HG1 := Sd.mk (good_below HG.1 HB.1)
 have HW1 := Sd.mk (grown_below (World.grownBy.refl w (some gm)) HB.1)
 go_quiet (fail)
 go_wp2
 rcases lookup_all HG1.1 s HS.1 with hlk | hlk
 ·unfold spV at hlk
  go_quiet (fail)
  go_wp2
  go_ret
  exact ⟨ret_int_eq HF.1.symm, good_below HG1.1 (by repeat (first | exact Below.refl _ _ | apply bN)), by repeat (first | exact HW1.1 | apply grown_drewN)⟩
 ·unfold spV at hlk
  go_quiet (fail)
  clear hlk
  have hk5 := HK.1
  go_wp2
  go_loopw [5, 37] (fun v5 v37 wr => ∃ k : Nat, v37 = .int .i64 (k : Int) ∧ k ≤ K ∧ v5 = .int .i64 (fewUpTo lost most (fewF lost most K r) s k) ∧ Sd (GoodMap (FN lost most K N) gm wr) ∧ Sd (w.grownBy wr (some gm)) ∧ Sd (wr.heap[gs]? = some (.cells #[.int .i64 s.d, .int .i64 s.la, .int .i64 s.u0, .int .i64 s.u1, .int .i64 s.u2, .int .i64 s.u3, .int .i64 s.u4] 121 (0, 0))) ∧ Sd (wr.heap[gw]? = some (.cells #[.int .i64 sz, .int .i64 wd, .slice AK K cK, .slice AD N cD, .slice AL lost.length cL, .int .i64 most, .map (some gm)] 116 (0, 0)))) (fun v5 v37 wr => K - (intOf v37).toNat)
  case atStart => exact ⟨0, rfl, Nat.zero_le _, rfl, ⟨good_below HG1.1 (by repeat (first | exact Below.refl _ _ | apply bN))⟩, ⟨by repeat (first | exact HW1.1 | apply grown_drewN)⟩, ⟨by exact BKgs.1 ⟩, ⟨by exact BKgw.1 ⟩⟩
  case round =>
   clear HG1 HW1 BKgs BKgw HB
   clear z_w1gw_2 z_w1gw_3 z_w1gw_6 z_w1gs_0 z_w1gs_1 z_w1gs_2 z_w1gs_3 z_w1gs_4 z_w1gs_5 z_w1gs_6
   obtain ⟨k, rfl, hle, rfl, HG1, HW1, BKgs, BKgw⟩ := hrel
   by_cases c4 : k < K
   ·have hczrs_0 : wr.cell? ⟨gs, 0, none⟩ = some (.int .i64 s.d) := (kC BKgs.1 0).trans rfl
    have hczrs_1 : wr.cell? ⟨gs, 1, none⟩ = some (.int .i64 s.la) := (kC BKgs.1 1).trans rfl
    have hczrs_2 : wr.cell? ⟨gs, 2, none⟩ = some (.int .i64 s.u0) := (kC BKgs.1 2).trans rfl
    have hczrs_3 : wr.cell? ⟨gs, 3, none⟩ = some (.int .i64 s.u1) := (kC BKgs.1 3).trans rfl
    have hczrs_4 : wr.cell? ⟨gs, 4, none⟩ = some (.int .i64 s.u2) := (kC BKgs.1 4).trans rfl
    have hczrs_5 : wr.cell? ⟨gs, 5, none⟩ = some (.int .i64 s.u3) := (kC BKgs.1 5).trans rfl
    have hczrs_6 : wr.cell? ⟨gs, 6, none⟩ = some (.int .i64 s.u4) := (kC BKgs.1 6).trans rfl
    go_wp2_with fail
    refine (may_any sz wd _ _ _ AL cL lost most gw s k _ (by omega) (HR.1 _ HW1.1) HC.1 HLN.1 BKgw.1 HS.1.fit).mono ?_
    rintro e w2 ⟨rfl, hb⟩
    have HB2 := Sd.mk hb
    have HG2 := Sd.mk (good_below HG1.1 hb)
    have HW2 := Sd.mk (grown_below HW1.1 hb)
    have m0_ := Sd.mk (kB BKgs.1 hb)
    have m1_ := Sd.mk (kB BKgw.1 hb)
    clear BKgs BKgw hb HG1
    have BKgs := m0_
    have BKgw := m1_
    clear m0_ m1_
    have HM1 := Sd.mk (fewUpTo_bd lost most (fewF lost most K r) s (fun s => (fewF_bd lost most K r s).1) k)
    have hb0 := HM1.1.1
    have hb1 : fewUpTo lost most (fewF lost most K r) s k ≤ 1048576 := HM1.1.2
    cases hm : mayB lost most s (k : Int) with
    | false =>
     have hv : mayV lost most s k = .tuple #[.agg #[.int .i64 s.d, .int .i64 s.la, .int .i64 s.u0, .int .i64 s.u1, .int .i64 s.u2, .int .i64 s.u3, .int .i64 s.u4], .int .i64 0, .bool false] := by unfold mayV; rw [if_neg (by rw [hm]; decide)]; rfl
     rw [hv]
     have HMV := Sd.mk (show fewUpTo lost most (fewF lost most K r) s (k + 1) = fewUpTo lost most (fewF lost most K r) s k from by rw [fewUpTo, if_neg (by rw [hm]; decide)])
     clear hv hm
     go_wp2
     go_roundw
     case rel => exact ⟨k + 1, by go_num, by omega, by rw [HMV.1], ⟨good_below HG2.1 (by repeat (first | exact Below.refl _ _ | refine Below.alloc ?_ (Nat.le_refl _) _ ))⟩, ⟨grown_below HW2.1 (by repeat (first | exact Below.refl _ _ | refine Below.alloc ?_ (Nat.le_refl _) _ ))⟩, ⟨kB BKgs.1 (by repeat (first | exact Below.refl _ _ | refine Below.alloc ?_ (Nat.le_refl _) _ ))⟩, ⟨kB BKgw.1 (by repeat (first | exact Below.refl _ _ | refine Below.alloc ?_ (Nat.le_refl _) _ ))⟩⟩
     case measure => simp [intOf]; omega
    | true =>
     have hv : mayV lost most s k = .tuple #[.agg #[.int .i64 (s.next k).d, .int .i64 (s.next k).la, .int .i64 (s.next k).u0, .int .i64 (s.next k).u1, .int .i64 (s.next k).u2, .int .i64 (s.next k).u3, .int .i64 (s.next k).u4], .int .i64 (chgV s k), .bool true] := by unfold mayV; rw [if_pos hm]; rfl
     rw [hv]
     have HMV := Sd.mk (show fewUpTo lost most (fewF lost most K r) s (k + 1) = mn (fewUpTo lost most (fewF lost most K r) s k) (chgV s (k : Int) + fewF lost most K r (s.next k)) from by rw [fewUpTo, if_pos hm])
     have hch : 0 ≤ chgV s (k : Int) ∧ chgV s (k : Int) ≤ 1 := by unfold chgV; split <;> omega
     have hfb := fewF_bd lost most K r (s.next k)
     have hch0 := hch.1
     have hch1 := hch.2
     have hf0 := hfb.1
     have hf1 : fewF lost most K r (s.next k) ≤ 1048576 := hfb.2
     clear hv hm hch hfb
     go_wp2_with fail
     refine (HI.1 (s.next k) _ ?i1 ?i2 ?i3 ?i4 ?i5).mono ?i6
     case i1 => exact HS.1.next k (by omega) (by have := HD.1; have := HNN.1; omega)
     case i2 => have := HD.1; rw [next_d]; omega
     case i3 => exact fun W hW => HR.1 W (grown_trans (grown_below HW2.1 (by repeat (first | exact Below.refl _ _ | refine Below.alloc ?_ (Nat.le_refl _) _ ))) hW)
     case i4 => exact kB BKgw.1 (by repeat (first | exact Below.refl _ _ | refine Below.alloc ?_ (Nat.le_refl _) _ ))
     case i5 => exact good_below HG2.1 (by repeat (first | exact Below.refl _ _ | refine Below.alloc ?_ (Nat.le_refl _) _ ))
     rintro e w4 ⟨rfl, hG4, hW4⟩
     have HG4 := Sd.mk hG4
     have HW4 := Sd.mk (grown_trans (grown_below HW2.1 (by repeat (first | exact Below.refl _ _ | refine Below.alloc ?_ (Nat.le_refl _) _ ))) hW4)
     have m0_ := Sd.mk (blk_grown (kB BKgs.1 (by repeat (first | exact Below.refl _ _ | refine Below.alloc ?_ (Nat.le_refl _) _ ))) hW4 (good_ne HG2.1 BKgs.1))
     have m1_ := Sd.mk (blk_grown (kB BKgw.1 (by repeat (first | exact Below.refl _ _ | refine Below.alloc ?_ (Nat.le_refl _) _ ))) hW4 (good_ne HG2.1 BKgw.1))
     clear BKgs BKgw hG4 hW4
     have BKgs := m0_
     have BKgw := m1_
     clear m0_ m1_
     go_wp2_with fail
     refine (minimum_two w4.heap.size 2 _ _ _ ((kC (blk_new w4 _) 0).trans rfl) ((kC (blk_new w4 _) 1).trans rfl)).mono ?_
     rintro e w' ⟨rfl, rfl⟩
     go_wp2
     go_roundw
     case rel => exact ⟨k + 1, by go_num, by omega, by rw [HMV.1], ⟨good_below HG4.1 (by repeat (first | exact Below.refl _ _ | refine Below.alloc ?_ (Nat.le_refl _) _ ))⟩, ⟨grown_below HW4.1 (by repeat (first | exact Below.refl _ _ | refine Below.alloc ?_ (Nat.le_refl _) _ ))⟩, ⟨kB BKgs.1 (by repeat (first | exact Below.refl _ _ | refine Below.alloc ?_ (Nat.le_refl _) _ ))⟩, ⟨kB BKgw.1 (by repeat (first | exact Below.refl _ _ | refine Below.alloc ?_ (Nat.le_refl _) _ ))⟩⟩
     case measure => simp [intOf]; omega
   ·obtain rfl : k = K := by omega
    have hczrs_0 : wr.cell? ⟨gs, 0, none⟩ = some (.int .i64 s.d) := (kC BKgs.1 0).trans rfl
    have hczrs_1 : wr.cell? ⟨gs, 1, none⟩ = some (.int .i64 s.la) := (kC BKgs.1 1).trans rfl
    have hczrs_2 : wr.cell? ⟨gs, 2, none⟩ = some (.int .i64 s.u0) := (kC BKgs.1 2).trans rfl
    have hczrs_3 : wr.cell? ⟨gs, 3, none⟩ = some (.int .i64 s.u1) := (kC BKgs.1 3).trans rfl
    have hczrs_4 : wr.cell? ⟨gs, 4, none⟩ = some (.int .i64 s.u2) := (kC BKgs.1 4).trans rfl
    have hczrs_5 : wr.cell? ⟨gs, 5, none⟩ = some (.int .i64 s.u3) := (kC BKgs.1 5).trans rfl
    have hczrs_6 : wr.cell? ⟨gs, 6, none⟩ = some (.int .i64 s.u4) := (kC BKgs.1 6).trans rfl
    have hczrw_6 : wr.cell? ⟨gw, 6, none⟩ = some (.map (some gm)) := (kC BKgw.1 6).trans rfl
    have HM1 := Sd.mk (fewUpTo_bd lost most (fewF lost most k r) s (fun s => (fewF_bd lost most k r s).1) k)
    obtain ⟨W', hrun, hgW, hgrW, hszW⟩ := update_good (w := wr.drew) (F := FN lost most k N) (good_same HG1.1 rfl) s HS.1
    rw [← HF.1] at hrun
    unfold spV at hrun
    simp only [fewF] at hrun
    go_wp2_with fail
    go_region
    go_wp2
    go_ret
    exact ⟨rfl, hgW, grown_trans HW1.1 (grown_trans (grown_drew (World.grownBy.refl wr (some gm))) hgrW)⟩
theorem few_any (sz wd : Int) (AK : Option Addr) (K cK : Nat) (AD : Option Addr) (N cD : Nat) (AL : Option Addr) (cL : Nat) (lost : List S110) (most : Int) (gw gm : Nat) (hK : K ≤ 5) (hN : N ≤ 1000) (hcl : lost.length ≤ cL) (hlen : lost.length ≤ 1000) : ∀ (r : Nat) (s : Sp) (w : World), s.ok → s.d + r = N → (∀ W, w.grownBy W (some gm) → Kd.C k110 W AL lost.length lost) → w.heap[gw]? = some (.cells #[.int .i64 sz, .int .i64 wd, .slice AK K cK, .slice AD N cD, .slice AL lost.length cL, .int .i64 most, .map (some gm)] 116 (0, 0)) → GoodMap (FN lost most K N) gm w → Calls Try.prog 75 #[.pointer (some ⟨gw, 0, none⟩), spV s] w (FewPost (FN lost most K N) (fewF lost most K r s) gm w)
 | 0, s, w, hs, hd, hr, hw, hg => few_zero sz wd AK K cK AD N cD AL cL lost most gw gm (FN lost most K N) s w (by simpa using hd) hw hg
 | r + 1, s, w, hs, hd, hr, hw, hg => few_step sz wd AK K cK AD N cD AL cL lost most gw gm hK hN hcl hlen r (few_any sz wd AK K cK AD N cD AL cL lost most gw gm hK hN hcl hlen r) s w hs hd hr hw hg
end Go.Proofs.Ytnidgkmopocdkaa.P
