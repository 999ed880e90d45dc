import Derived.Test.YtnidgkmopocdkaaA13HCheck
import Derived.Test.YtnidgkmopocdkaaA13P2
import Derived.BigQuiet
import Derived.Deep.QuietTactic
namespace Go.Proofs.Ytnidgkmopocdkaa.P
open Go.RowKit Go.Proofs.YtnidgkmopocdkaaW.PrintWords Go.Proofs.YtnidgkmopocdkaaW.PrintLast Go.Proofs.YtnidgkmopocdkaaW.PrintMore
set_option linter.unusedVariables false
set_option linter.unusedSimpArgs false
def hadFrom (key : Int) : List S110 → Int → Int
 | [], first => first
 | x :: l, first => hadFrom key l (if x.f0 = key then (if first = -1 then x.f1 else if x.f1 < first then x.f1 else first) else first)
def hadV (lost : List S110) (key : Int) : Int := hadFrom key lost (-1)
theorem had_l0 (l : List S110) (key : Int) (hm : l.length ≤ 1000) : ∀ (d : Nat) (i : Nat) (first : Int) (k : Nat), i + d = l.length → d < k → cipher_had.l0 k key first l (l.length : Int) (i : Int) = some (hadFrom key (l.drop i) first)
 | 0, i, first, k, hd, hk => by
  obtain ⟨k, rfl⟩ : ∃ j, k = j + 1 := ⟨k - 1, by omega⟩
  simp only [cipher_had.l0]
  rw [if_neg (by omega), List.drop_of_length_le (by omega)]; rfl
 | d + 1, i, first, k, hd, hk => by
  obtain ⟨k, rfl⟩ : ∃ j, k = j + 1 := ⟨k - 1, by omega⟩
  simp only [cipher_had.l0]
  have hi : i < l.length := by omega
  rw [if_pos (by omega), if_pos (by omega), if_pos (by omega), wrap_of (by omega) (by omega)]
  have hg : rd_T110 l (i : Int) = l[i] := getD_at l _ i hi
  rw [hg, List.drop_eq_getElem_cons hi]
  have ih := fun f => had_l0 l key hm d (i + 1) f k (by omega) (by omega)
  simp only [Int.natCast_add, Int.natCast_one] at ih
  simp only [ih, hadFrom]
  by_cases h1 : l[i].f0 = key
  ·rw [if_pos h1, if_pos h1]
   by_cases h2 : first = -1
   ·rw [if_pos h2, if_pos h2]
   ·rw [if_neg h2, if_neg h2]
    by_cases h3 : l[i].f1 < first
    ·rw [if_pos h3, if_pos h3]
    ·rw [if_neg h3, if_neg h3]
  ·rw [if_neg h1, if_neg h1]
theorem had_f (l : List S110) (key : Int) (hm : l.length ≤ 1000) : cipher_had.f 1001 l key = some (hadV l key) := by
 unfold cipher_had.f hadV
 have := had_l0 l key hm l.length 0 (-1) 1001 (by omega) (by omega)
 simpa using this
structure Sp where
 d : Int
 la : Int
 u0 : Int
 u1 : Int
 u2 : Int
 u3 : Int
 u4 : Int
 deriving DecidableEq
def Sp.u (s : Sp) (k : Int) : Int := if k = 0 then s.u0 else if k = 1 then s.u1 else if k = 2 then s.u2 else if k = 3 then s.u3 else s.u4
def Sp.next (s : Sp) (k : Int) : Sp := ⟨s.d + 1, k, if k = 0 then s.u0 + 1 else s.u0, if k = 1 then s.u1 + 1 else s.u1, if k = 2 then s.u2 + 1 else s.u2, if k = 3 then s.u3 + 1 else s.u3, if k = 4 then s.u4 + 1 else s.u4⟩
def spV (s : Sp) : Value := .agg #[.int .i64 s.d, .int .i64 s.la, .int .i64 s.u0, .int .i64 s.u1, .int .i64 s.u2, .int .i64 s.u3, .int .i64 s.u4]
structure Sp.fit (s : Sp) : Prop where
 d0 : 0 ≤ s.d
 d1 : s.d ≤ 1000
 h0 : 0 ≤ s.u0
 h1 : 0 ≤ s.u1
 h2 : 0 ≤ s.u2
 h3 : 0 ≤ s.u3
 h4 : 0 ≤ s.u4
 l0 : s.u0 ≤ s.d
 l1 : s.u1 ≤ s.d
 l2 : s.u2 ≤ s.d
 l3 : s.u3 ≤ s.d
 l4 : s.u4 ≤ s.d
def mayB (lost : List S110) (most : Int) (s : Sp) (k : Int) : Bool := !((!(decide (hadV lost k = -1)) && decide (hadV lost k ≤ s.d)) || decide (most ≤ s.u k))
def chgV (s : Sp) (k : Int) : Int := if 0 < s.d ∧ k ≠ s.la then 1 else 0
def mayV (lost : List S110) (most : Int) (s : Sp) (k : Int) : Value := if mayB lost most s k = true then .tuple #[spV (s.next k), .int .i64 (chgV s k), .bool true] else .tuple #[spV s, .int .i64 0, .bool false]
def WorkC (sz wd : Int) (kv dv lv : Value) (most : Int) (mv : Value) : Array Value := #[.int .i64 sz, .int .i64 wd, kv, dv, lv, .int .i64 most, mv]
theorem sp_cell (s : Sp) (k : Nat) (hk : k < 5) : (#[.int .i64 s.d, .int .i64 s.la, .int .i64 s.u0, .int .i64 s.u1, .int .i64 s.u2, .int .i64 s.u3, .int .i64 s.u4] : Array Value)[2 + k]? = some (.int .i64 (s.u k)) := by
 obtain rfl | rfl | rfl | rfl | rfl : k = 0 ∨ k = 1 ∨ k = 2 ∨ k = 3 ∨ k = 4 := by omega
 all_goals rfl
theorem sp_next (s : Sp) (k : Nat) (hk : k < 5) : (#[.int .i64 s.d, .int .i64 s.la, .int .i64 s.u0, .int .i64 s.u1, .int .i64 s.u2, .int .i64 s.u3, .int .i64 s.u4] : Array Value).setIfInBounds (2 + k) (.int .i64 (s.u k + 1)) = #[.int .i64 s.d, .int .i64 s.la, .int .i64 (s.next k).u0, .int .i64 (s.next k).u1, .int .i64 (s.next k).u2, .int .i64 (s.next k).u3, .int .i64 (s.next k).u4] := by
 obtain rfl | rfl | rfl | rfl | rfl : k = 0 ∨ k = 1 ∨ k = 2 ∨ k = 3 ∨ k = 4 := by omega
 all_goals rfl
theorem Sp.fit.u (s : Sp) (h : s.fit) (k : Int) : 0 ≤ s.u k ∧ s.u k ≤ s.d := by
 obtain ⟨a, b, c0, c1, c2, c3, c4, d0, d1, d2, d3, d4⟩ := h
 unfold Sp.u
 split
 ·exact ⟨c0, d0⟩
 split
 ·exact ⟨c1, d1⟩
 split
 ·exact ⟨c2, d2⟩
 split
 ·exact ⟨c3, d3⟩
 ·exact ⟨c4, d4⟩
set_option maxHeartbeats 4000000 in
set_option maxRecDepth 100000 in
theorem may_lost (sz wd : Int) (kv dv mv : Value) (AL : Option Addr) (cL : Nat) (lost : List S110) (most : Int) (gw : Nat) (s : Sp) (k : Nat) (w : World) (hk : k < 5) (hr : Kd.C k110 w AL lost.length lost) (hcl : lost.length ≤ cL) (hlen : lost.length ≤ 1000) (hw : w.heap[gw]? = some (.cells #[.int .i64 sz, .int .i64 wd, kv, dv, .slice AL lost.length cL, .int .i64 most, mv] 116 (0, 0))) (hs : s.fit) (hf0 : ¬ hadV lost k = -1) (hf : hadV lost k ≤ s.d) :
  Calls Try.prog 77 #[.pointer (some ⟨gw, 0, none⟩), .agg #[.int .i64 s.d, .int .i64 s.la, .int .i64 s.u0, .int .i64 s.u1, .int .i64 s.u2, .int .i64 s.u3, .int .i64 s.u4], .int .i64 (k : Int)] w fun e w' => e = .returned (.tuple #[.agg #[.int .i64 s.d, .int .i64 s.la, .int .i64 s.u0, .int .i64 s.u1, .int .i64 s.u2, .int .i64 s.u3, .int .i64 s.u4], .int .i64 0, .bool false]) ∧ Below w.heap.size w w' := by
 have hu116 := Try.underlying116
 have hu121 := Try.underlying121
 have hu119 := Try.underlying119
 have HR := Sd.mk hr
 have HC := Sd.mk hcl
 have HLN := Sd.mk hlen
 have HK5 := Sd.mk hk
 have BKgw := Sd.mk hw
 have hs2 := Sd.mk (Sp.fit.u s hs (k : Int))
 clear hr hcl hlen hw
 have HB := Sd.mk (Below.refl w.heap.size w)
 have hs0 := hs.d0
 have hs1 := hs.d1
 have hs3 := hs2.out.1
 have hs4 := hs2.out.2
 clear hs hs2
 have f1 : (hadV lost k == -1) = false := beq_eq_false_iff_ne.2 hf0
 have f1b : (hadV lost k != -1) = true := bne_iff_ne.2 hf0
 have f2 : decide (hadV lost k ≤ s.d) = true := decide_eq_true hf
 clear hf hf0
 go_enter Try.func77, Try.ntmps77
 go_wp2_with (first | ((with_reducible refine gD (N := 4) rfl ?_); (try (refine gG (by rfl) ?_; dsimp only)); refine xE ?hg (N := 4) ?hd (cs := #[.int .i64 s.d, .int .i64 s.la, .int .i64 s.u0, .int .i64 s.u1, .int .i64 s.u2, .int .i64 s.u3, .int .i64 s.u4]) (t := 121) ?hr ?_; (case hd => rfl); (case hg => rfl); (case hr => first | (go_simp; done) ); intro gs hg w1 hbox hb; have n0_ := Sd.mk (bT (by repeat (first | (with_reducible first | exact HB.1 ) )) hb); have n1_ := Sd.mk hbox; have n2_ := Sd.mk ((by rw [hg]; exact (bZ (by repeat (first | (with_reducible first | exact HB.1 ) )))) : w.heap.size ≤ gs); have m0_ := Sd.mk (kB (by (with_reducible repeat (fail)); exact BKgw.1) hb); clear HB; have HB := n0_; have BKgs := n1_; have GEgs := n2_; clear n0_ n1_ n2_; clear BKgw; have BKgw := m0_; clear m0_; clear hb hbox hg) | ((with_reducible refine gD (N := 6) rfl ?_); (try (refine gG (by rfl) ?_; dsimp only)); refine xE ?hg (N := 6) ?hd (cs := #[.int .i64 0, .int .i64 0, .int .i64 0, .int .i64 0, .int .i64 0, .int .i64 0, .int .i64 0]) (t := 121) ?hr ?_; (case hd => rfl); (case hg => rfl); (case hr => first | (go_simp; done) ); intro gr hg w2 hbox hb; have n0_ := Sd.mk (bT (by repeat (first | (with_reducible first | exact HB.1 ) )) hb); have n1_ := Sd.mk hbox; have n2_ := Sd.mk ((by rw [hg]; exact (bZ (by repeat (first | (with_reducible first | exact HB.1 ) )))) : w.heap.size ≤ gr); have m0_ := Sd.mk (kB (by (with_reducible repeat (fail)); exact BKgw.1) hb); have m1_ := Sd.mk (kB (by (with_reducible repeat (fail)); exact BKgs.1) hb); have NEgsgr := Sd.mk (by rw [hg]; exact Nat.ne_of_lt (blk_lt (by (with_reducible repeat (fail)); exact BKgs.1)) : gs ≠ gr); clear HB; have HB := n0_; have BKgr := n1_; have GEgr := n2_; clear n0_ n1_ n2_; clear BKgw; have BKgw := m0_; clear m0_; clear BKgs; have BKgs := m1_; clear m1_; clear hb hbox hg; have z_w2gw_4 : w2.cell? ⟨gw, 4, none⟩ = some (.slice AL lost.length cL) := (kC BKgw.1 4).trans rfl) | (go_at_call 72; refine (cipher_had.calls 1001 AL cL lost (k : Int) _ _ (Kd.C_below HR.1 (by repeat (first | (with_reducible first | exact HB.1 ) ))) HC.1 (had_f _ _ HLN.1)).mono ?_; rintro e w4 ⟨rfl, hb⟩; have n0_ := Sd.mk (bT (by repeat (first | (with_reducible first | exact HB.1 ) )) hb); have m0_ := Sd.mk (kB (by (with_reducible repeat (fail)); exact BKgw.1) hb); have m1_ := Sd.mk (kB (by (with_reducible repeat (fail)); exact BKgs.1) hb); have m2_ := Sd.mk (kB (by (with_reducible repeat (fail)); exact BKgr.1) hb); clear HB; have HB := n0_; clear n0_; clear BKgw; have BKgw := m0_; clear m0_; clear BKgs; have BKgs := m1_; clear m1_; clear BKgr; have BKgr := m2_; clear m2_; clear hb; have z_w4gw_5 : w4.cell? ⟨gw, 5, none⟩ = some (.int .i64 most) := (kC BKgw.1 5).trans rfl; have z_w4gs_0 : w4.cell? ⟨gs, 0, none⟩ = some (.int .i64 s.d) := (kC BKgs.1 0).trans rfl; have z_w4gs_1 : w4.cell? ⟨gs, 1, none⟩ = some (.int .i64 s.la) := (kC BKgs.1 1).trans rfl; have z_w4gs_2 : w4.cell? ⟨gs, 2, none⟩ = some (.int .i64 s.u0) := (kC BKgs.1 2).trans rfl; have z_w4gs_3 : w4.cell? ⟨gs, 3, none⟩ = some (.int .i64 s.u1) := (kC BKgs.1 3).trans rfl; have z_w4gs_4 : w4.cell? ⟨gs, 4, none⟩ = some (.int .i64 s.u2) := (kC BKgs.1 4).trans rfl; have z_w4gs_5 : w4.cell? ⟨gs, 5, none⟩ = some (.int .i64 s.u3) := (kC BKgs.1 5).trans rfl; have z_w4gs_6 : w4.cell? ⟨gs, 6, none⟩ = some (.int .i64 s.u4) := (kC BKgs.1 6).trans rfl; have z_w4gr_0 : w4.cell? ⟨gr, 0, none⟩ = some (.int .i64 0) := (kC BKgr.1 0).trans rfl; have hfzw4gr_0 := kF BKgr.1 0; have z_w4gr_1 : w4.cell? ⟨gr, 1, none⟩ = some (.int .i64 0) := (kC BKgr.1 1).trans rfl; have hfzw4gr_1 := kF BKgr.1 1; have z_w4gr_2 : w4.cell? ⟨gr, 2, none⟩ = some (.int .i64 0) := (kC BKgr.1 2).trans rfl; have hfzw4gr_2 := kF BKgr.1 2; have z_w4gr_3 : w4.cell? ⟨gr, 3, none⟩ = some (.int .i64 0) := (kC BKgr.1 3).trans rfl; have hfzw4gr_3 := kF BKgr.1 3; have z_w4gr_4 : w4.cell? ⟨gr, 4, none⟩ = some (.int .i64 0) := (kC BKgr.1 4).trans rfl; have hfzw4gr_4 := kF BKgr.1 4; have z_w4gr_5 : w4.cell? ⟨gr, 5, none⟩ = some (.int .i64 0) := (kC BKgr.1 5).trans rfl; have hfzw4gr_5 := kF BKgr.1 5; have z_w4gr_6 : w4.cell? ⟨gr, 6, none⟩ = some (.int .i64 0) := (kC BKgr.1 6).trans rfl; have hfzw4gr_6 := kF BKgr.1 6))
 have ne1 : ¬ gs = gr := NEgsgr.1
 have ne2 : ¬ gr = gs := fun h => NEgsgr.1 h.symm
 have hcu : w4.cell? ⟨gs, 2 + k, none⟩ = some (.int .i64 (s.u k)) := (kC BKgs.1 (2 + k)).trans (sp_cell s k HK5.1)
 have hfu : w4.frozen? ⟨gs, 2 + k, none⟩ = false := kF BKgs.1 (2 + k)
 go_quiet (fail)
 go_wp2
 exact bodyPost_ret (results_ctt rfl _ _ gr 121 #[.int .i64 s.d, .int .i64 s.la, .int .i64 s.u0, .int .i64 s.u1, .int .i64 s.u2, .int .i64 s.u3, .int .i64 s.u4] (0, 0) _ rfl (blk_set (blk_set (blk_set (blk_set (blk_set (blk_set (blk_set (kN BKgr.1 nq) 0 (.int .i64 s.d)) 1 (.int .i64 s.la)) 2 (.int .i64 s.u0)) 3 (.int .i64 s.u1)) 4 (.int .i64 s.u2)) 5 (.int .i64 s.u3)) 6 (.int .i64 s.u4)) Try.underlying121 rfl (by kernel_rfl)) rfl ⟨rfl, bS (bS (bS (bS (bS (bS (bS (bN HB.1 nq) GEgr.1) GEgr.1) GEgr.1) GEgr.1) GEgr.1) GEgr.1) GEgr.1⟩
set_option maxHeartbeats 4000000 in
set_option maxRecDepth 100000 in
theorem may_usesa (sz wd : Int) (kv dv mv : Value) (AL : Option Addr) (cL : Nat) (lost : List S110) (most : Int) (gw : Nat) (s : Sp) (k : Nat) (w : World) (hk : k < 5) (hr : Kd.C k110 w AL lost.length lost) (hcl : lost.length ≤ cL) (hlen : lost.length ≤ 1000) (hw : w.heap[gw]? = some (.cells #[.int .i64 sz, .int .i64 wd, kv, dv, .slice AL lost.length cL, .int .i64 most, mv] 116 (0, 0))) (hs : s.fit) (hf : hadV lost k = -1) (hu : most ≤ s.u k) :
  Calls Try.prog 77 #[.pointer (some ⟨gw, 0, none⟩), .agg #[.int .i64 s.d, .int .i64 s.la, .int .i64 s.u0, .int .i64 s.u1, .int .i64 s.u2, .int .i64 s.u3, .int .i64 s.u4], .int .i64 (k : Int)] w fun e w' => e = .returned (.tuple #[.agg #[.int .i64 s.d, .int .i64 s.la, .int .i64 s.u0, .int .i64 s.u1, .int .i64 s.u2, .int .i64 s.u3, .int .i64 s.u4], .int .i64 0, .bool false]) ∧ Below w.heap.size w w' := by
 have hu116 := Try.underlying116
 have hu121 := Try.underlying121
 have hu119 := Try.underlying119
 have HR := Sd.mk hr
 have HC := Sd.mk hcl
 have HLN := Sd.mk hlen
 have HK5 := Sd.mk hk
 have BKgw := Sd.mk hw
 have hs2 := Sd.mk (Sp.fit.u s hs (k : Int))
 clear hr hcl hlen hw
 have HB := Sd.mk (Below.refl w.heap.size w)
 have hs0 := hs.d0
 have hs1 := hs.d1
 have hs3 := hs2.out.1
 have hs4 := hs2.out.2
 clear hs hs2
 have f1 : (hadV lost k == -1) = true := beq_iff_eq.2 hf
 have f1b : (hadV lost k != -1) = false := bne_eq_false_iff_eq.2 hf
 clear hf
 have f3 : decide (most ≤ s.u k) = true := decide_eq_true hu
 clear hu
 go_enter Try.func77, Try.ntmps77
 go_wp2_with (first | ((with_reducible refine gD (N := 4) rfl ?_); (try (refine gG (by rfl) ?_; dsimp only)); refine xE ?hg (N := 4) ?hd (cs := #[.int .i64 s.d, .int .i64 s.la, .int .i64 s.u0, .int .i64 s.u1, .int .i64 s.u2, .int .i64 s.u3, .int .i64 s.u4]) (t := 121) ?hr ?_; (case hd => rfl); (case hg => rfl); (case hr => first | (go_simp; done) ); intro gs hg w1 hbox hb; have n0_ := Sd.mk (bT (by repeat (first | (with_reducible first | exact HB.1 ) )) hb); have n1_ := Sd.mk hbox; have n2_ := Sd.mk ((by rw [hg]; exact (bZ (by repeat (first | (with_reducible first | exact HB.1 ) )))) : w.heap.size ≤ gs); have m0_ := Sd.mk (kB (by (with_reducible repeat (fail)); exact BKgw.1) hb); clear HB; have HB := n0_; have BKgs := n1_; have GEgs := n2_; clear n0_ n1_ n2_; clear BKgw; have BKgw := m0_; clear m0_; clear hb hbox hg) | ((with_reducible refine gD (N := 6) rfl ?_); (try (refine gG (by rfl) ?_; dsimp only)); refine xE ?hg (N := 6) ?hd (cs := #[.int .i64 0, .int .i64 0, .int .i64 0, .int .i64 0, .int .i64 0, .int .i64 0, .int .i64 0]) (t := 121) ?hr ?_; (case hd => rfl); (case hg => rfl); (case hr => first | (go_simp; done) ); intro gr hg w2 hbox hb; have n0_ := Sd.mk (bT (by repeat (first | (with_reducible first | exact HB.1 ) )) hb); have n1_ := Sd.mk hbox; have n2_ := Sd.mk ((by rw [hg]; exact (bZ (by repeat (first | (with_reducible first | exact HB.1 ) )))) : w.heap.size ≤ gr); have m0_ := Sd.mk (kB (by (with_reducible repeat (fail)); exact BKgw.1) hb); have m1_ := Sd.mk (kB (by (with_reducible repeat (fail)); exact BKgs.1) hb); have NEgsgr := Sd.mk (by rw [hg]; exact Nat.ne_of_lt (blk_lt (by (with_reducible repeat (fail)); exact BKgs.1)) : gs ≠ gr); clear HB; have HB := n0_; have BKgr := n1_; have GEgr := n2_; clear n0_ n1_ n2_; clear BKgw; have BKgw := m0_; clear m0_; clear BKgs; have BKgs := m1_; clear m1_; clear hb hbox hg; have z_w2gw_4 : w2.cell? ⟨gw, 4, none⟩ = some (.slice AL lost.length cL) := (kC BKgw.1 4).trans rfl) | (go_at_call 72; refine (cipher_had.calls 1001 AL cL lost (k : Int) _ _ (Kd.C_below HR.1 (by repeat (first | (with_reducible first | exact HB.1 ) ))) HC.1 (had_f _ _ HLN.1)).mono ?_; rintro e w4 ⟨rfl, hb⟩; have n0_ := Sd.mk (bT (by repeat (first | (with_reducible first | exact HB.1 ) )) hb); have m0_ := Sd.mk (kB (by (with_reducible repeat (fail)); exact BKgw.1) hb); have m1_ := Sd.mk (kB (by (with_reducible repeat (fail)); exact BKgs.1) hb); have m2_ := Sd.mk (kB (by (with_reducible repeat (fail)); exact BKgr.1) hb); clear HB; have HB := n0_; clear n0_; clear BKgw; have BKgw := m0_; clear m0_; clear BKgs; have BKgs := m1_; clear m1_; clear BKgr; have BKgr := m2_; clear m2_; clear hb; have z_w4gw_5 : w4.cell? ⟨gw, 5, none⟩ = some (.int .i64 most) := (kC BKgw.1 5).trans rfl; have z_w4gs_0 : w4.cell? ⟨gs, 0, none⟩ = some (.int .i64 s.d) := (kC BKgs.1 0).trans rfl; have z_w4gs_1 : w4.cell? ⟨gs, 1, none⟩ = some (.int .i64 s.la) := (kC BKgs.1 1).trans rfl; have z_w4gs_2 : w4.cell? ⟨gs, 2, none⟩ = some (.int .i64 s.u0) := (kC BKgs.1 2).trans rfl; have z_w4gs_3 : w4.cell? ⟨gs, 3, none⟩ = some (.int .i64 s.u1) := (kC BKgs.1 3).trans rfl; have z_w4gs_4 : w4.cell? ⟨gs, 4, none⟩ = some (.int .i64 s.u2) := (kC BKgs.1 4).trans rfl; have z_w4gs_5 : w4.cell? ⟨gs, 5, none⟩ = some (.int .i64 s.u3) := (kC BKgs.1 5).trans rfl; have z_w4gs_6 : w4.cell? ⟨gs, 6, none⟩ = some (.int .i64 s.u4) := (kC BKgs.1 6).trans rfl; have z_w4gr_0 : w4.cell? ⟨gr, 0, none⟩ = some (.int .i64 0) := (kC BKgr.1 0).trans rfl; have hfzw4gr_0 := kF BKgr.1 0; have z_w4gr_1 : w4.cell? ⟨gr, 1, none⟩ = some (.int .i64 0) := (kC BKgr.1 1).trans rfl; have hfzw4gr_1 := kF BKgr.1 1; have z_w4gr_2 : w4.cell? ⟨gr, 2, none⟩ = some (.int .i64 0) := (kC BKgr.1 2).trans rfl; have hfzw4gr_2 := kF BKgr.1 2; have z_w4gr_3 : w4.cell? ⟨gr, 3, none⟩ = some (.int .i64 0) := (kC BKgr.1 3).trans rfl; have hfzw4gr_3 := kF BKgr.1 3; have z_w4gr_4 : w4.cell? ⟨gr, 4, none⟩ = some (.int .i64 0) := (kC BKgr.1 4).trans rfl; have hfzw4gr_4 := kF BKgr.1 4; have z_w4gr_5 : w4.cell? ⟨gr, 5, none⟩ = some (.int .i64 0) := (kC BKgr.1 5).trans rfl; have hfzw4gr_5 := kF BKgr.1 5; have z_w4gr_6 : w4.cell? ⟨gr, 6, none⟩ = some (.int .i64 0) := (kC BKgr.1 6).trans rfl; have hfzw4gr_6 := kF BKgr.1 6))
 have ne1 : ¬ gs = gr := NEgsgr.1
 have ne2 : ¬ gr = gs := fun h => NEgsgr.1 h.symm
 have hcu : w4.cell? ⟨gs, 2 + k, none⟩ = some (.int .i64 (s.u k)) := (kC BKgs.1 (2 + k)).trans (sp_cell s k HK5.1)
 have hfu : w4.frozen? ⟨gs, 2 + k, none⟩ = false := kF BKgs.1 (2 + k)
 go_quiet (fail)
 go_wp2
 exact bodyPost_ret (results_ctt rfl _ _ gr 121 #[.int .i64 s.d, .int .i64 s.la, .int .i64 s.u0, .int .i64 s.u1, .int .i64 s.u2, .int .i64 s.u3, .int .i64 s.u4] (0, 0) _ rfl (blk_set (blk_set (blk_set (blk_set (blk_set (blk_set (blk_set (kN BKgr.1 nq) 0 (.int .i64 s.d)) 1 (.int .i64 s.la)) 2 (.int .i64 s.u0)) 3 (.int .i64 s.u1)) 4 (.int .i64 s.u2)) 5 (.int .i64 s.u3)) 6 (.int .i64 s.u4)) Try.underlying121 rfl (by kernel_rfl)) rfl ⟨rfl, bS (bS (bS (bS (bS (bS (bS (bN HB.1 nq) GEgr.1) GEgr.1) GEgr.1) GEgr.1) GEgr.1) GEgr.1) GEgr.1⟩
set_option maxHeartbeats 4000000 in
set_option maxRecDepth 100000 in
theorem may_same0a (sz wd : Int) (kv dv mv : Value) (AL : Option Addr) (cL : Nat) (lost : List S110) (most : Int) (gw : Nat) (s : Sp) (k : Nat) (w : World) (hk : k < 5) (hr : Kd.C k110 w AL lost.length lost) (hcl : lost.length ≤ cL) (hlen : lost.length ≤ 1000) (hw : w.heap[gw]? = some (.cells #[.int .i64 sz, .int .i64 wd, kv, dv, .slice AL lost.length cL, .int .i64 most, mv] 116 (0, 0))) (hs : s.fit) (hf : hadV lost k = -1) (hu : ¬ most ≤ s.u k) (hc : ¬ 0 < s.d) :
  Calls Try.prog 77 #[.pointer (some ⟨gw, 0, none⟩), .agg #[.int .i64 s.d, .int .i64 s.la, .int .i64 s.u0, .int .i64 s.u1, .int .i64 s.u2, .int .i64 s.u3, .int .i64 s.u4], .int .i64 (k : Int)] w fun e w' => e = .returned (.tuple #[.agg #[.int .i64 (s.d + 1), .int .i64 (k : Int), .int .i64 (s.next k).u0, .int .i64 (s.next k).u1, .int .i64 (s.next k).u2, .int .i64 (s.next k).u3, .int .i64 (s.next k).u4], .int .i64 0, .bool true]) ∧ Below w.heap.size w w' := by
 have hu116 := Try.underlying116
 have hu121 := Try.underlying121
 have hu119 := Try.underlying119
 have HR := Sd.mk hr
 have HC := Sd.mk hcl
 have HLN := Sd.mk hlen
 have HK5 := Sd.mk hk
 have BKgw := Sd.mk hw
 have hs2 := Sd.mk (Sp.fit.u s hs (k : Int))
 clear hr hcl hlen hw
 have HB := Sd.mk (Below.refl w.heap.size w)
 have hs0 := hs.d0
 have hs1 := hs.d1
 have hs3 := hs2.out.1
 have hs4 := hs2.out.2
 clear hs hs2
 have f1 : (hadV lost k == -1) = true := beq_iff_eq.2 hf
 have f1b : (hadV lost k != -1) = false := bne_eq_false_iff_eq.2 hf
 clear hf
 have f3 : decide (most ≤ s.u k) = false := decide_eq_false hu
 clear hu
 have f4 : decide (0 < s.d) = false := decide_eq_false hc
 clear hc
 go_enter Try.func77, Try.ntmps77
 go_wp2_with (first | ((with_reducible refine gD (N := 4) rfl ?_); (try (refine gG (by rfl) ?_; dsimp only)); refine xE ?hg (N := 4) ?hd (cs := #[.int .i64 s.d, .int .i64 s.la, .int .i64 s.u0, .int .i64 s.u1, .int .i64 s.u2, .int .i64 s.u3, .int .i64 s.u4]) (t := 121) ?hr ?_; (case hd => rfl); (case hg => rfl); (case hr => first | (go_simp; done) ); intro gs hg w1 hbox hb; have n0_ := Sd.mk (bT (by repeat (first | (with_reducible first | exact HB.1 ) )) hb); have n1_ := Sd.mk hbox; have n2_ := Sd.mk ((by rw [hg]; exact (bZ (by repeat (first | (with_reducible first | exact HB.1 ) )))) : w.heap.size ≤ gs); have m0_ := Sd.mk (kB (by (with_reducible repeat (fail)); exact BKgw.1) hb); clear HB; have HB := n0_; have BKgs := n1_; have GEgs := n2_; clear n0_ n1_ n2_; clear BKgw; have BKgw := m0_; clear m0_; clear hb hbox hg) | ((with_reducible refine gD (N := 6) rfl ?_); (try (refine gG (by rfl) ?_; dsimp only)); refine xE ?hg (N := 6) ?hd (cs := #[.int .i64 0, .int .i64 0, .int .i64 0, .int .i64 0, .int .i64 0, .int .i64 0, .int .i64 0]) (t := 121) ?hr ?_; (case hd => rfl); (case hg => rfl); (case hr => first | (go_simp; done) ); intro gr hg w2 hbox hb; have n0_ := Sd.mk (bT (by repeat (first | (with_reducible first | exact HB.1 ) )) hb); have n1_ := Sd.mk hbox; have n2_ := Sd.mk ((by rw [hg]; exact (bZ (by repeat (first | (with_reducible first | exact HB.1 ) )))) : w.heap.size ≤ gr); have m0_ := Sd.mk (kB (by (with_reducible repeat (fail)); exact BKgw.1) hb); have m1_ := Sd.mk (kB (by (with_reducible repeat (fail)); exact BKgs.1) hb); have NEgsgr := Sd.mk (by rw [hg]; exact Nat.ne_of_lt (blk_lt (by (with_reducible repeat (fail)); exact BKgs.1)) : gs ≠ gr); clear HB; have HB := n0_; have BKgr := n1_; have GEgr := n2_; clear n0_ n1_ n2_; clear BKgw; have BKgw := m0_; clear m0_; clear BKgs; have BKgs := m1_; clear m1_; clear hb hbox hg; have z_w2gw_4 : w2.cell? ⟨gw, 4, none⟩ = some (.slice AL lost.length cL) := (kC BKgw.1 4).trans rfl) | (go_at_call 72; refine (cipher_had.calls 1001 AL cL lost (k : Int) _ _ (Kd.C_below HR.1 (by repeat (first | (with_reducible first | exact HB.1 ) ))) HC.1 (had_f _ _ HLN.1)).mono ?_; rintro e w4 ⟨rfl, hb⟩; have n0_ := Sd.mk (bT (by repeat (first | (with_reducible first | exact HB.1 ) )) hb); have m0_ := Sd.mk (kB (by (with_reducible repeat (fail)); exact BKgw.1) hb); have m1_ := Sd.mk (kB (by (with_reducible repeat (fail)); exact BKgs.1) hb); have m2_ := Sd.mk (kB (by (with_reducible repeat (fail)); exact BKgr.1) hb); clear HB; have HB := n0_; clear n0_; clear BKgw; have BKgw := m0_; clear m0_; clear BKgs; have BKgs := m1_; clear m1_; clear BKgr; have BKgr := m2_; clear m2_; clear hb; have z_w4gw_5 : w4.cell? ⟨gw, 5, none⟩ = some (.int .i64 most) := (kC BKgw.1 5).trans rfl; have z_w4gs_0 : w4.cell? ⟨gs, 0, none⟩ = some (.int .i64 s.d) := (kC BKgs.1 0).trans rfl; have z_w4gs_1 : w4.cell? ⟨gs, 1, none⟩ = some (.int .i64 s.la) := (kC BKgs.1 1).trans rfl; have z_w4gs_2 : w4.cell? ⟨gs, 2, none⟩ = some (.int .i64 s.u0) := (kC BKgs.1 2).trans rfl; have z_w4gs_3 : w4.cell? ⟨gs, 3, none⟩ = some (.int .i64 s.u1) := (kC BKgs.1 3).trans rfl; have z_w4gs_4 : w4.cell? ⟨gs, 4, none⟩ = some (.int .i64 s.u2) := (kC BKgs.1 4).trans rfl; have z_w4gs_5 : w4.cell? ⟨gs, 5, none⟩ = some (.int .i64 s.u3) := (kC BKgs.1 5).trans rfl; have z_w4gs_6 : w4.cell? ⟨gs, 6, none⟩ = some (.int .i64 s.u4) := (kC BKgs.1 6).trans rfl; have z_w4gr_0 : w4.cell? ⟨gr, 0, none⟩ = some (.int .i64 0) := (kC BKgr.1 0).trans rfl; have hfzw4gr_0 := kF BKgr.1 0; have z_w4gr_1 : w4.cell? ⟨gr, 1, none⟩ = some (.int .i64 0) := (kC BKgr.1 1).trans rfl; have hfzw4gr_1 := kF BKgr.1 1; have z_w4gr_2 : w4.cell? ⟨gr, 2, none⟩ = some (.int .i64 0) := (kC BKgr.1 2).trans rfl; have hfzw4gr_2 := kF BKgr.1 2; have z_w4gr_3 : w4.cell? ⟨gr, 3, none⟩ = some (.int .i64 0) := (kC BKgr.1 3).trans rfl; have hfzw4gr_3 := kF BKgr.1 3; have z_w4gr_4 : w4.cell? ⟨gr, 4, none⟩ = some (.int .i64 0) := (kC BKgr.1 4).trans rfl; have hfzw4gr_4 := kF BKgr.1 4; have z_w4gr_5 : w4.cell? ⟨gr, 5, none⟩ = some (.int .i64 0) := (kC BKgr.1 5).trans rfl; have hfzw4gr_5 := kF BKgr.1 5; have z_w4gr_6 : w4.cell? ⟨gr, 6, none⟩ = some (.int .i64 0) := (kC BKgr.1 6).trans rfl; have hfzw4gr_6 := kF BKgr.1 6))
 have ne1 : ¬ gs = gr := NEgsgr.1
 have ne2 : ¬ gr = gs := fun h => NEgsgr.1 h.symm
 have hcu : w4.cell? ⟨gs, 2 + k, none⟩ = some (.int .i64 (s.u k)) := (kC BKgs.1 (2 + k)).trans (sp_cell s k HK5.1)
 have hfu : w4.frozen? ⟨gs, 2 + k, none⟩ = false := kF BKgs.1 (2 + k)
 go_quiet (fail)
 go_wp2_with (first | ((with_reducible refine gate_store (t := 3) (p := 51) rfl ?_); refine store_event (t := 3) (p := 51) (v := ?vo) (w1 := ((w4.drewN nq).setCell ⟨gs, 2 + k, none⟩ (.int .i64 (s.u k + 1)))) ?hg ?ho ?hn ?hr ?_; (case ho => rfl); (case hg => rfl); (case hn => rfl); (case hr => first | (go_simp; done) ); intro w6 hw6; have m0_ : Sd (w6.heap[gs]? = some (.cells #[.int .i64 s.d, .int .i64 s.la, .int .i64 (s.next k).u0, .int .i64 (s.next k).u1, .int .i64 (s.next k).u2, .int .i64 (s.next k).u3, .int .i64 (s.next k).u4] 121 (0, 0))) := ⟨by rw [hw6]; exact blk_put (kN BKgs.1 nq) (2 + k) _ (sp_next s k HK5.1)⟩; have m1_ : Sd (w6.heap[gr]? = some (.cells #[.int .i64 0, .int .i64 0, .int .i64 0, .int .i64 0, .int .i64 0, .int .i64 0, .int .i64 0] 121 (0, 0))) := ⟨by rw [hw6]; exact blk_far (kN BKgr.1 nq) (p := ⟨gs, 2 + k, none⟩) ne2 _⟩; have m2_ : Sd (Below w.heap.size w w6) := ⟨by rw [hw6]; exact bS (bN HB.1 nq) GEgs.1⟩; clear hw6; clear BKgs BKgr HB; have BKgs := m0_; have BKgr := m1_; have HB := m2_; clear m0_ m1_ m2_; have hczn6s_0 : w6.cell? ⟨gs, 0, none⟩ = some (.int .i64 s.d) := (kC BKgs.1 0).trans rfl; have hczn6s_2 : w6.cell? ⟨gs, 2, none⟩ = some (.int .i64 (s.next k).u0) := (kC BKgs.1 2).trans rfl; have hczn6s_3 : w6.cell? ⟨gs, 3, none⟩ = some (.int .i64 (s.next k).u1) := (kC BKgs.1 3).trans rfl; have hczn6s_4 : w6.cell? ⟨gs, 4, none⟩ = some (.int .i64 (s.next k).u2) := (kC BKgs.1 4).trans rfl; have hczn6s_5 : w6.cell? ⟨gs, 5, none⟩ = some (.int .i64 (s.next k).u3) := (kC BKgs.1 5).trans rfl; have hczn6s_6 : w6.cell? ⟨gs, 6, none⟩ = some (.int .i64 (s.next k).u4) := (kC BKgs.1 6).trans rfl; have hczn6r_0 : w6.cell? ⟨gr, 0, none⟩ = some (.int .i64 0) := (kC BKgr.1 0).trans rfl; have hfzn6r_0 := kF BKgr.1 0; have hczn6r_1 : w6.cell? ⟨gr, 1, none⟩ = some (.int .i64 0) := (kC BKgr.1 1).trans rfl; have hfzn6r_1 := kF BKgr.1 1; have hczn6r_2 : w6.cell? ⟨gr, 2, none⟩ = some (.int .i64 0) := (kC BKgr.1 2).trans rfl; have hfzn6r_2 := kF BKgr.1 2; have hczn6r_3 : w6.cell? ⟨gr, 3, none⟩ = some (.int .i64 0) := (kC BKgr.1 3).trans rfl; have hfzn6r_3 := kF BKgr.1 3; have hczn6r_4 : w6.cell? ⟨gr, 4, none⟩ = some (.int .i64 0) := (kC BKgr.1 4).trans rfl; have hfzn6r_4 := kF BKgr.1 4; have hczn6r_5 : w6.cell? ⟨gr, 5, none⟩ = some (.int .i64 0) := (kC BKgr.1 5).trans rfl; have hfzn6r_5 := kF BKgr.1 5; have hczn6r_6 : w6.cell? ⟨gr, 6, none⟩ = some (.int .i64 0) := (kC BKgr.1 6).trans rfl; have hfzn6r_6 := kF BKgr.1 6))
 exact bodyPost_ret (results_ctt rfl _ _ gr 121 #[.int .i64 (s.d + 1), .int .i64 (k : Int), .int .i64 (s.next k).u0, .int .i64 (s.next k).u1, .int .i64 (s.next k).u2, .int .i64 (s.next k).u3, .int .i64 (s.next k).u4] (0, 0) _ rfl (blk_set (blk_set (blk_set (blk_set (blk_set (blk_set (blk_set (BKgr.1) 0 (.int .i64 (s.d + 1))) 1 (.int .i64 (k : Int))) 2 (.int .i64 (s.next k).u0)) 3 (.int .i64 (s.next k).u1)) 4 (.int .i64 (s.next k).u2)) 5 (.int .i64 (s.next k).u3)) 6 (.int .i64 (s.next k).u4)) Try.underlying121 rfl (by kernel_rfl)) rfl ⟨rfl, bS (bS (bS (bS (bS (bS (bS (HB.1) GEgr.1) GEgr.1) GEgr.1) GEgr.1) GEgr.1) GEgr.1) GEgr.1⟩
set_option maxHeartbeats 4000000 in
set_option maxRecDepth 100000 in
theorem may_same1a (sz wd : Int) (kv dv mv : Value) (AL : Option Addr) (cL : Nat) (lost : List S110) (most : Int) (gw : Nat) (s : Sp) (k : Nat) (w : World) (hk : k < 5) (hr : Kd.C k110 w AL lost.length lost) (hcl : lost.length ≤ cL) (hlen : lost.length ≤ 1000) (hw : w.heap[gw]? = some (.cells #[.int .i64 sz, .int .i64 wd, kv, dv, .slice AL lost.length cL, .int .i64 most, mv] 116 (0, 0))) (hs : s.fit) (hf : hadV lost k = -1) (hu : ¬ most ≤ s.u k) (hc : 0 < s.d) (hc2 : (k : Int) = s.la) :
  Calls Try.prog 77 #[.pointer (some ⟨gw, 0, none⟩), .agg #[.int .i64 s.d, .int .i64 s.la, .int .i64 s.u0, .int .i64 s.u1, .int .i64 s.u2, .int .i64 s.u3, .int .i64 s.u4], .int .i64 (k : Int)] w fun e w' => e = .returned (.tuple #[.agg #[.int .i64 (s.d + 1), .int .i64 (k : Int), .int .i64 (s.next k).u0, .int .i64 (s.next k).u1, .int .i64 (s.next k).u2, .int .i64 (s.next k).u3, .int .i64 (s.next k).u4], .int .i64 0, .bool true]) ∧ Below w.heap.size w w' := by
 have hu116 := Try.underlying116
 have hu121 := Try.underlying121
 have hu119 := Try.underlying119
 have HR := Sd.mk hr
 have HC := Sd.mk hcl
 have HLN := Sd.mk hlen
 have HK5 := Sd.mk hk
 have BKgw := Sd.mk hw
 have hs2 := Sd.mk (Sp.fit.u s hs (k : Int))
 clear hr hcl hlen hw
 have HB := Sd.mk (Below.refl w.heap.size w)
 have hs0 := hs.d0
 have hs1 := hs.d1
 have hs3 := hs2.out.1
 have hs4 := hs2.out.2
 clear hs hs2
 have f1 : (hadV lost k == -1) = true := beq_iff_eq.2 hf
 have f1b : (hadV lost k != -1) = false := bne_eq_false_iff_eq.2 hf
 clear hf
 have f3 : decide (most ≤ s.u k) = false := decide_eq_false hu
 clear hu
 have f4 : decide (0 < s.d) = true := decide_eq_true hc
 have f5 : ((k : Int) == s.la) = true := beq_iff_eq.2 hc2
 have f5b : ((k : Int) != s.la) = false := bne_eq_false_iff_eq.2 hc2
 clear hc hc2
 go_enter Try.func77, Try.ntmps77
 go_wp2_with (first | ((with_reducible refine gD (N := 4) rfl ?_); (try (refine gG (by rfl) ?_; dsimp only)); refine xE ?hg (N := 4) ?hd (cs := #[.int .i64 s.d, .int .i64 s.la, .int .i64 s.u0, .int .i64 s.u1, .int .i64 s.u2, .int .i64 s.u3, .int .i64 s.u4]) (t := 121) ?hr ?_; (case hd => rfl); (case hg => rfl); (case hr => first | (go_simp; done) ); intro gs hg w1 hbox hb; have n0_ := Sd.mk (bT (by repeat (first | (with_reducible first | exact HB.1 ) )) hb); have n1_ := Sd.mk hbox; have n2_ := Sd.mk ((by rw [hg]; exact (bZ (by repeat (first | (with_reducible first | exact HB.1 ) )))) : w.heap.size ≤ gs); have m0_ := Sd.mk (kB (by (with_reducible repeat (fail)); exact BKgw.1) hb); clear HB; have HB := n0_; have BKgs := n1_; have GEgs := n2_; clear n0_ n1_ n2_; clear BKgw; have BKgw := m0_; clear m0_; clear hb hbox hg) | ((with_reducible refine gD (N := 6) rfl ?_); (try (refine gG (by rfl) ?_; dsimp only)); refine xE ?hg (N := 6) ?hd (cs := #[.int .i64 0, .int .i64 0, .int .i64 0, .int .i64 0, .int .i64 0, .int .i64 0, .int .i64 0]) (t := 121) ?hr ?_; (case hd => rfl); (case hg => rfl); (case hr => first | (go_simp; done) ); intro gr hg w2 hbox hb; have n0_ := Sd.mk (bT (by repeat (first | (with_reducible first | exact HB.1 ) )) hb); have n1_ := Sd.mk hbox; have n2_ := Sd.mk ((by rw [hg]; exact (bZ (by repeat (first | (with_reducible first | exact HB.1 ) )))) : w.heap.size ≤ gr); have m0_ := Sd.mk (kB (by (with_reducible repeat (fail)); exact BKgw.1) hb); have m1_ := Sd.mk (kB (by (with_reducible repeat (fail)); exact BKgs.1) hb); have NEgsgr := Sd.mk (by rw [hg]; exact Nat.ne_of_lt (blk_lt (by (with_reducible repeat (fail)); exact BKgs.1)) : gs ≠ gr); clear HB; have HB := n0_; have BKgr := n1_; have GEgr := n2_; clear n0_ n1_ n2_; clear BKgw; have BKgw := m0_; clear m0_; clear BKgs; have BKgs := m1_; clear m1_; clear hb hbox hg; have z_w2gw_4 : w2.cell? ⟨gw, 4, none⟩ = some (.slice AL lost.length cL) := (kC BKgw.1 4).trans rfl) | (go_at_call 72; refine (cipher_had.calls 1001 AL cL lost (k : Int) _ _ (Kd.C_below HR.1 (by repeat (first | (with_reducible first | exact HB.1 ) ))) HC.1 (had_f _ _ HLN.1)).mono ?_; rintro e w4 ⟨rfl, hb⟩; have n0_ := Sd.mk (bT (by repeat (first | (with_reducible first | exact HB.1 ) )) hb); have m0_ := Sd.mk (kB (by (with_reducible repeat (fail)); exact BKgw.1) hb); have m1_ := Sd.mk (kB (by (with_reducible repeat (fail)); exact BKgs.1) hb); have m2_ := Sd.mk (kB (by (with_reducible repeat (fail)); exact BKgr.1) hb); clear HB; have HB := n0_; clear n0_; clear BKgw; have BKgw := m0_; clear m0_; clear BKgs; have BKgs := m1_; clear m1_; clear BKgr; have BKgr := m2_; clear m2_; clear hb; have z_w4gw_5 : w4.cell? ⟨gw, 5, none⟩ = some (.int .i64 most) := (kC BKgw.1 5).trans rfl; have z_w4gs_0 : w4.cell? ⟨gs, 0, none⟩ = some (.int .i64 s.d) := (kC BKgs.1 0).trans rfl; have z_w4gs_1 : w4.cell? ⟨gs, 1, none⟩ = some (.int .i64 s.la) := (kC BKgs.1 1).trans rfl; have z_w4gs_2 : w4.cell? ⟨gs, 2, none⟩ = some (.int .i64 s.u0) := (kC BKgs.1 2).trans rfl; have z_w4gs_3 : w4.cell? ⟨gs, 3, none⟩ = some (.int .i64 s.u1) := (kC BKgs.1 3).trans rfl; have z_w4gs_4 : w4.cell? ⟨gs, 4, none⟩ = some (.int .i64 s.u2) := (kC BKgs.1 4).trans rfl; have z_w4gs_5 : w4.cell? ⟨gs, 5, none⟩ = some (.int .i64 s.u3) := (kC BKgs.1 5).trans rfl; have z_w4gs_6 : w4.cell? ⟨gs, 6, none⟩ = some (.int .i64 s.u4) := (kC BKgs.1 6).trans rfl; have z_w4gr_0 : w4.cell? ⟨gr, 0, none⟩ = some (.int .i64 0) := (kC BKgr.1 0).trans rfl; have hfzw4gr_0 := kF BKgr.1 0; have z_w4gr_1 : w4.cell? ⟨gr, 1, none⟩ = some (.int .i64 0) := (kC BKgr.1 1).trans rfl; have hfzw4gr_1 := kF BKgr.1 1; have z_w4gr_2 : w4.cell? ⟨gr, 2, none⟩ = some (.int .i64 0) := (kC BKgr.1 2).trans rfl; have hfzw4gr_2 := kF BKgr.1 2; have z_w4gr_3 : w4.cell? ⟨gr, 3, none⟩ = some (.int .i64 0) := (kC BKgr.1 3).trans rfl; have hfzw4gr_3 := kF BKgr.1 3; have z_w4gr_4 : w4.cell? ⟨gr, 4, none⟩ = some (.int .i64 0) := (kC BKgr.1 4).trans rfl; have hfzw4gr_4 := kF BKgr.1 4; have z_w4gr_5 : w4.cell? ⟨gr, 5, none⟩ = some (.int .i64 0) := (kC BKgr.1 5).trans rfl; have hfzw4gr_5 := kF BKgr.1 5; have z_w4gr_6 : w4.cell? ⟨gr, 6, none⟩ = some (.int .i64 0) := (kC BKgr.1 6).trans rfl; have hfzw4gr_6 := kF BKgr.1 6))
 have ne1 : ¬ gs = gr := NEgsgr.1
 have ne2 : ¬ gr = gs := fun h => NEgsgr.1 h.symm
 have hcu : w4.cell? ⟨gs, 2 + k, none⟩ = some (.int .i64 (s.u k)) := (kC BKgs.1 (2 + k)).trans (sp_cell s k HK5.1)
 have hfu : w4.frozen? ⟨gs, 2 + k, none⟩ = false := kF BKgs.1 (2 + k)
 go_quiet (fail)
 go_wp2_with (first | ((with_reducible refine gate_store (t := 3) (p := 51) rfl ?_); refine store_event (t := 3) (p := 51) (v := ?vo) (w1 := ((w4.drewN nq).setCell ⟨gs, 2 + k, none⟩ (.int .i64 (s.u k + 1)))) ?hg ?ho ?hn ?hr ?_; (case ho => rfl); (case hg => rfl); (case hn => rfl); (case hr => first | (go_simp; done) ); intro w6 hw6; have m0_ : Sd (w6.heap[gs]? = some (.cells #[.int .i64 s.d, .int .i64 s.la, .int .i64 (s.next k).u0, .int .i64 (s.next k).u1, .int .i64 (s.next k).u2, .int .i64 (s.next k).u3, .int .i64 (s.next k).u4] 121 (0, 0))) := ⟨by rw [hw6]; exact blk_put (kN BKgs.1 nq) (2 + k) _ (sp_next s k HK5.1)⟩; have m1_ : Sd (w6.heap[gr]? = some (.cells #[.int .i64 0, .int .i64 0, .int .i64 0, .int .i64 0, .int .i64 0, .int .i64 0, .int .i64 0] 121 (0, 0))) := ⟨by rw [hw6]; exact blk_far (kN BKgr.1 nq) (p := ⟨gs, 2 + k, none⟩) ne2 _⟩; have m2_ : Sd (Below w.heap.size w w6) := ⟨by rw [hw6]; exact bS (bN HB.1 nq) GEgs.1⟩; clear hw6; clear BKgs BKgr HB; have BKgs := m0_; have BKgr := m1_; have HB := m2_; clear m0_ m1_ m2_; have hczn6s_0 : w6.cell? ⟨gs, 0, none⟩ = some (.int .i64 s.d) := (kC BKgs.1 0).trans rfl; have hczn6s_2 : w6.cell? ⟨gs, 2, none⟩ = some (.int .i64 (s.next k).u0) := (kC BKgs.1 2).trans rfl; have hczn6s_3 : w6.cell? ⟨gs, 3, none⟩ = some (.int .i64 (s.next k).u1) := (kC BKgs.1 3).trans rfl; have hczn6s_4 : w6.cell? ⟨gs, 4, none⟩ = some (.int .i64 (s.next k).u2) := (kC BKgs.1 4).trans rfl; have hczn6s_5 : w6.cell? ⟨gs, 5, none⟩ = some (.int .i64 (s.next k).u3) := (kC BKgs.1 5).trans rfl; have hczn6s_6 : w6.cell? ⟨gs, 6, none⟩ = some (.int .i64 (s.next k).u4) := (kC BKgs.1 6).trans rfl; have hczn6r_0 : w6.cell? ⟨gr, 0, none⟩ = some (.int .i64 0) := (kC BKgr.1 0).trans rfl; have hfzn6r_0 := kF BKgr.1 0; have hczn6r_1 : w6.cell? ⟨gr, 1, none⟩ = some (.int .i64 0) := (kC BKgr.1 1).trans rfl; have hfzn6r_1 := kF BKgr.1 1; have hczn6r_2 : w6.cell? ⟨gr, 2, none⟩ = some (.int .i64 0) := (kC BKgr.1 2).trans rfl; have hfzn6r_2 := kF BKgr.1 2; have hczn6r_3 : w6.cell? ⟨gr, 3, none⟩ = some (.int .i64 0) := (kC BKgr.1 3).trans rfl; have hfzn6r_3 := kF BKgr.1 3; have hczn6r_4 : w6.cell? ⟨gr, 4, none⟩ = some (.int .i64 0) := (kC BKgr.1 4).trans rfl; have hfzn6r_4 := kF BKgr.1 4; have hczn6r_5 : w6.cell? ⟨gr, 5, none⟩ = some (.int .i64 0) := (kC BKgr.1 5).trans rfl; have hfzn6r_5 := kF BKgr.1 5; have hczn6r_6 : w6.cell? ⟨gr, 6, none⟩ = some (.int .i64 0) := (kC BKgr.1 6).trans rfl; have hfzn6r_6 := kF BKgr.1 6))
 exact bodyPost_ret (results_ctt rfl _ _ gr 121 #[.int .i64 (s.d + 1), .int .i64 (k : Int), .int .i64 (s.next k).u0, .int .i64 (s.next k).u1, .int .i64 (s.next k).u2, .int .i64 (s.next k).u3, .int .i64 (s.next k).u4] (0, 0) _ rfl (blk_set (blk_set (blk_set (blk_set (blk_set (blk_set (blk_set (BKgr.1) 0 (.int .i64 (s.d + 1))) 1 (.int .i64 (k : Int))) 2 (.int .i64 (s.next k).u0)) 3 (.int .i64 (s.next k).u1)) 4 (.int .i64 (s.next k).u2)) 5 (.int .i64 (s.next k).u3)) 6 (.int .i64 (s.next k).u4)) Try.underlying121 rfl (by kernel_rfl)) rfl ⟨rfl, bS (bS (bS (bS (bS (bS (bS (HB.1) GEgr.1) GEgr.1) GEgr.1) GEgr.1) GEgr.1) GEgr.1) GEgr.1⟩
set_option maxHeartbeats 4000000 in
set_option maxRecDepth 100000 in
theorem may_chga (sz wd : Int) (kv dv mv : Value) (AL : Option Addr) (cL : Nat) (lost : List S110) (most : Int) (gw : Nat) (s : Sp) (k : Nat) (w : World) (hk : k < 5) (hr : Kd.C k110 w AL lost.length lost) (hcl : lost.length ≤ cL) (hlen : lost.length ≤ 1000) (hw : w.heap[gw]? = some (.cells #[.int .i64 sz, .int .i64 wd, kv, dv, .slice AL lost.length cL, .int .i64 most, mv] 116 (0, 0))) (hs : s.fit) (hf : hadV lost k = -1) (hu : ¬ most ≤ s.u k) (hc : 0 < s.d) (hc2 : ¬ (k : Int) = s.la) :
  Calls Try.prog 77 #[.pointer (some ⟨gw, 0, none⟩), .agg #[.int .i64 s.d, .int .i64 s.la, .int .i64 s.u0, .int .i64 s.u1, .int .i64 s.u2, .int .i64 s.u3, .int .i64 s.u4], .int .i64 (k : Int)] w fun e w' => e = .returned (.tuple #[.agg #[.int .i64 (s.d + 1), .int .i64 (k : Int), .int .i64 (s.next k).u0, .int .i64 (s.next k).u1, .int .i64 (s.next k).u2, .int .i64 (s.next k).u3, .int .i64 (s.next k).u4], .int .i64 1, .bool true]) ∧ Below w.heap.size w w' := by
 have hu116 := Try.underlying116
 have hu121 := Try.underlying121
 have hu119 := Try.underlying119
 have HR := Sd.mk hr
 have HC := Sd.mk hcl
 have HLN := Sd.mk hlen
 have HK5 := Sd.mk hk
 have BKgw := Sd.mk hw
 have hs2 := Sd.mk (Sp.fit.u s hs (k : Int))
 clear hr hcl hlen hw
 have HB := Sd.mk (Below.refl w.heap.size w)
 have hs0 := hs.d0
 have hs1 := hs.d1
 have hs3 := hs2.out.1
 have hs4 := hs2.out.2
 clear hs hs2
 have f1 : (hadV lost k == -1) = true := beq_iff_eq.2 hf
 have f1b : (hadV lost k != -1) = false := bne_eq_false_iff_eq.2 hf
 clear hf
 have f3 : decide (most ≤ s.u k) = false := decide_eq_false hu
 clear hu
 have f4 : decide (0 < s.d) = true := decide_eq_true hc
 have f5 : ((k : Int) == s.la) = false := beq_eq_false_iff_ne.2 hc2
 have f5b : ((k : Int) != s.la) = true := bne_iff_ne.2 hc2
 clear hc hc2
 go_enter Try.func77, Try.ntmps77
 go_wp2_with (first | ((with_reducible refine gD (N := 4) rfl ?_); (try (refine gG (by rfl) ?_; dsimp only)); refine xE ?hg (N := 4) ?hd (cs := #[.int .i64 s.d, .int .i64 s.la, .int .i64 s.u0, .int .i64 s.u1, .int .i64 s.u2, .int .i64 s.u3, .int .i64 s.u4]) (t := 121) ?hr ?_; (case hd => rfl); (case hg => rfl); (case hr => first | (go_simp; done) ); intro gs hg w1 hbox hb; have n0_ := Sd.mk (bT (by repeat (first | (with_reducible first | exact HB.1 ) )) hb); have n1_ := Sd.mk hbox; have n2_ := Sd.mk ((by rw [hg]; exact (bZ (by repeat (first | (with_reducible first | exact HB.1 ) )))) : w.heap.size ≤ gs); have m0_ := Sd.mk (kB (by (with_reducible repeat (fail)); exact BKgw.1) hb); clear HB; have HB := n0_; have BKgs := n1_; have GEgs := n2_; clear n0_ n1_ n2_; clear BKgw; have BKgw := m0_; clear m0_; clear hb hbox hg) | ((with_reducible refine gD (N := 6) rfl ?_); (try (refine gG (by rfl) ?_; dsimp only)); refine xE ?hg (N := 6) ?hd (cs := #[.int .i64 0, .int .i64 0, .int .i64 0, .int .i64 0, .int .i64 0, .int .i64 0, .int .i64 0]) (t := 121) ?hr ?_; (case hd => rfl); (case hg => rfl); (case hr => first | (go_simp; done) ); intro gr hg w2 hbox hb; have n0_ := Sd.mk (bT (by repeat (first | (with_reducible first | exact HB.1 ) )) hb); have n1_ := Sd.mk hbox; have n2_ := Sd.mk ((by rw [hg]; exact (bZ (by repeat (first | (with_reducible first | exact HB.1 ) )))) : w.heap.size ≤ gr); have m0_ := Sd.mk (kB (by (with_reducible repeat (fail)); exact BKgw.1) hb); have m1_ := Sd.mk (kB (by (with_reducible repeat (fail)); exact BKgs.1) hb); have NEgsgr := Sd.mk (by rw [hg]; exact Nat.ne_of_lt (blk_lt (by (with_reducible repeat (fail)); exact BKgs.1)) : gs ≠ gr); clear HB; have HB := n0_; have BKgr := n1_; have GEgr := n2_; clear n0_ n1_ n2_; clear BKgw; have BKgw := m0_; clear m0_; clear BKgs; have BKgs := m1_; clear m1_; clear hb hbox hg; have z_w2gw_4 : w2.cell? ⟨gw, 4, none⟩ = some (.slice AL lost.length cL) := (kC BKgw.1 4).trans rfl) | (go_at_call 72; refine (cipher_had.calls 1001 AL cL lost (k : Int) _ _ (Kd.C_below HR.1 (by repeat (first | (with_reducible first | exact HB.1 ) ))) HC.1 (had_f _ _ HLN.1)).mono ?_; rintro e w4 ⟨rfl, hb⟩; have n0_ := Sd.mk (bT (by repeat (first | (with_reducible first | exact HB.1 ) )) hb); have m0_ := Sd.mk (kB (by (with_reducible repeat (fail)); exact BKgw.1) hb); have m1_ := Sd.mk (kB (by (with_reducible repeat (fail)); exact BKgs.1) hb); have m2_ := Sd.mk (kB (by (with_reducible repeat (fail)); exact BKgr.1) hb); clear HB; have HB := n0_; clear n0_; clear BKgw; have BKgw := m0_; clear m0_; clear BKgs; have BKgs := m1_; clear m1_; clear BKgr; have BKgr := m2_; clear m2_; clear hb; have z_w4gw_5 : w4.cell? ⟨gw, 5, none⟩ = some (.int .i64 most) := (kC BKgw.1 5).trans rfl; have z_w4gs_0 : w4.cell? ⟨gs, 0, none⟩ = some (.int .i64 s.d) := (kC BKgs.1 0).trans rfl; have z_w4gs_1 : w4.cell? ⟨gs, 1, none⟩ = some (.int .i64 s.la) := (kC BKgs.1 1).trans rfl; have z_w4gs_2 : w4.cell? ⟨gs, 2, none⟩ = some (.int .i64 s.u0) := (kC BKgs.1 2).trans rfl; have z_w4gs_3 : w4.cell? ⟨gs, 3, none⟩ = some (.int .i64 s.u1) := (kC BKgs.1 3).trans rfl; have z_w4gs_4 : w4.cell? ⟨gs, 4, none⟩ = some (.int .i64 s.u2) := (kC BKgs.1 4).trans rfl; have z_w4gs_5 : w4.cell? ⟨gs, 5, none⟩ = some (.int .i64 s.u3) := (kC BKgs.1 5).trans rfl; have z_w4gs_6 : w4.cell? ⟨gs, 6, none⟩ = some (.int .i64 s.u4) := (kC BKgs.1 6).trans rfl; have z_w4gr_0 : w4.cell? ⟨gr, 0, none⟩ = some (.int .i64 0) := (kC BKgr.1 0).trans rfl; have hfzw4gr_0 := kF BKgr.1 0; have z_w4gr_1 : w4.cell? ⟨gr, 1, none⟩ = some (.int .i64 0) := (kC BKgr.1 1).trans rfl; have hfzw4gr_1 := kF BKgr.1 1; have z_w4gr_2 : w4.cell? ⟨gr, 2, none⟩ = some (.int .i64 0) := (kC BKgr.1 2).trans rfl; have hfzw4gr_2 := kF BKgr.1 2; have z_w4gr_3 : w4.cell? ⟨gr, 3, none⟩ = some (.int .i64 0) := (kC BKgr.1 3).trans rfl; have hfzw4gr_3 := kF BKgr.1 3; have z_w4gr_4 : w4.cell? ⟨gr, 4, none⟩ = some (.int .i64 0) := (kC BKgr.1 4).trans rfl; have hfzw4gr_4 := kF BKgr.1 4; have z_w4gr_5 : w4.cell? ⟨gr, 5, none⟩ = some (.int .i64 0) := (kC BKgr.1 5).trans rfl; have hfzw4gr_5 := kF BKgr.1 5; have z_w4gr_6 : w4.cell? ⟨gr, 6, none⟩ = some (.int .i64 0) := (kC BKgr.1 6).trans rfl; have hfzw4gr_6 := kF BKgr.1 6))
 have ne1 : ¬ gs = gr := NEgsgr.1
 have ne2 : ¬ gr = gs := fun h => NEgsgr.1 h.symm
 have hcu : w4.cell? ⟨gs, 2 + k, none⟩ = some (.int .i64 (s.u k)) := (kC BKgs.1 (2 + k)).trans (sp_cell s k HK5.1)
 have hfu : w4.frozen? ⟨gs, 2 + k, none⟩ = false := kF BKgs.1 (2 + k)
 go_quiet (fail)
 go_wp2_with (first | ((with_reducible refine gate_store (t := 3) (p := 51) rfl ?_); refine store_event (t := 3) (p := 51) (v := ?vo) (w1 := ((w4.drewN nq).setCell ⟨gs, 2 + k, none⟩ (.int .i64 (s.u k + 1)))) ?hg ?ho ?hn ?hr ?_; (case ho => rfl); (case hg => rfl); (case hn => rfl); (case hr => first | (go_simp; done) ); intro w6 hw6; have m0_ : Sd (w6.heap[gs]? = some (.cells #[.int .i64 s.d, .int .i64 s.la, .int .i64 (s.next k).u0, .int .i64 (s.next k).u1, .int .i64 (s.next k).u2, .int .i64 (s.next k).u3, .int .i64 (s.next k).u4] 121 (0, 0))) := ⟨by rw [hw6]; exact blk_put (kN BKgs.1 nq) (2 + k) _ (sp_next s k HK5.1)⟩; have m1_ : Sd (w6.heap[gr]? = some (.cells #[.int .i64 0, .int .i64 0, .int .i64 0, .int .i64 0, .int .i64 0, .int .i64 0, .int .i64 0] 121 (0, 0))) := ⟨by rw [hw6]; exact blk_far (kN BKgr.1 nq) (p := ⟨gs, 2 + k, none⟩) ne2 _⟩; have m2_ : Sd (Below w.heap.size w w6) := ⟨by rw [hw6]; exact bS (bN HB.1 nq) GEgs.1⟩; clear hw6; clear BKgs BKgr HB; have BKgs := m0_; have BKgr := m1_; have HB := m2_; clear m0_ m1_ m2_; have hczn6s_0 : w6.cell? ⟨gs, 0, none⟩ = some (.int .i64 s.d) := (kC BKgs.1 0).trans rfl; have hczn6s_2 : w6.cell? ⟨gs, 2, none⟩ = some (.int .i64 (s.next k).u0) := (kC BKgs.1 2).trans rfl; have hczn6s_3 : w6.cell? ⟨gs, 3, none⟩ = some (.int .i64 (s.next k).u1) := (kC BKgs.1 3).trans rfl; have hczn6s_4 : w6.cell? ⟨gs, 4, none⟩ = some (.int .i64 (s.next k).u2) := (kC BKgs.1 4).trans rfl; have hczn6s_5 : w6.cell? ⟨gs, 5, none⟩ = some (.int .i64 (s.next k).u3) := (kC BKgs.1 5).trans rfl; have hczn6s_6 : w6.cell? ⟨gs, 6, none⟩ = some (.int .i64 (s.next k).u4) := (kC BKgs.1 6).trans rfl; have hczn6r_0 : w6.cell? ⟨gr, 0, none⟩ = some (.int .i64 0) := (kC BKgr.1 0).trans rfl; have hfzn6r_0 := kF BKgr.1 0; have hczn6r_1 : w6.cell? ⟨gr, 1, none⟩ = some (.int .i64 0) := (kC BKgr.1 1).trans rfl; have hfzn6r_1 := kF BKgr.1 1; have hczn6r_2 : w6.cell? ⟨gr, 2, none⟩ = some (.int .i64 0) := (kC BKgr.1 2).trans rfl; have hfzn6r_2 := kF BKgr.1 2; have hczn6r_3 : w6.cell? ⟨gr, 3, none⟩ = some (.int .i64 0) := (kC BKgr.1 3).trans rfl; have hfzn6r_3 := kF BKgr.1 3; have hczn6r_4 : w6.cell? ⟨gr, 4, none⟩ = some (.int .i64 0) := (kC BKgr.1 4).trans rfl; have hfzn6r_4 := kF BKgr.1 4; have hczn6r_5 : w6.cell? ⟨gr, 5, none⟩ = some (.int .i64 0) := (kC BKgr.1 5).trans rfl; have hfzn6r_5 := kF BKgr.1 5; have hczn6r_6 : w6.cell? ⟨gr, 6, none⟩ = some (.int .i64 0) := (kC BKgr.1 6).trans rfl; have hfzn6r_6 := kF BKgr.1 6))
 exact bodyPost_ret (results_ctt rfl _ _ gr 121 #[.int .i64 (s.d + 1), .int .i64 (k : Int), .int .i64 (s.next k).u0, .int .i64 (s.next k).u1, .int .i64 (s.next k).u2, .int .i64 (s.next k).u3, .int .i64 (s.next k).u4] (0, 0) _ rfl (blk_set (blk_set (blk_set (blk_set (blk_set (blk_set (blk_set (BKgr.1) 0 (.int .i64 (s.d + 1))) 1 (.int .i64 (k : Int))) 2 (.int .i64 (s.next k).u0)) 3 (.int .i64 (s.next k).u1)) 4 (.int .i64 (s.next k).u2)) 5 (.int .i64 (s.next k).u3)) 6 (.int .i64 (s.next k).u4)) Try.underlying121 rfl (by kernel_rfl)) rfl ⟨rfl, bS (bS (bS (bS (bS (bS (bS (HB.1) GEgr.1) GEgr.1) GEgr.1) GEgr.1) GEgr.1) GEgr.1) GEgr.1⟩
set_option maxHeartbeats 4000000 in
set_option maxRecDepth 100000 in
theorem may_usesb (sz wd : Int) (kv dv mv : Value) (AL : Option Addr) (cL : Nat) (lost : List S110) (most : Int) (gw : Nat) (s : Sp) (k : Nat) (w : World) (hk : k < 5) (hr : Kd.C k110 w AL lost.length lost) (hcl : lost.length ≤ cL) (hlen : lost.length ≤ 1000) (hw : w.heap[gw]? = some (.cells #[.int .i64 sz, .int .i64 wd, kv, dv, .slice AL lost.length cL, .int .i64 most, mv] 116 (0, 0))) (hs : s.fit) (hf0 : ¬ hadV lost k = -1) (hf : ¬ hadV lost k ≤ s.d) (hu : most ≤ s.u k) :
  Calls Try.prog 77 #[.pointer (some ⟨gw, 0, none⟩), .agg #[.int .i64 s.d, .int .i64 s.la, .int .i64 s.u0, .int .i64 s.u1, .int .i64 s.u2, .int .i64 s.u3, .int .i64 s.u4], .int .i64 (k : Int)] w fun e w' => e = .returned (.tuple #[.agg #[.int .i64 s.d, .int .i64 s.la, .int .i64 s.u0, .int .i64 s.u1, .int .i64 s.u2, .int .i64 s.u3, .int .i64 s.u4], .int .i64 0, .bool false]) ∧ Below w.heap.size w w' := by
 have hu116 := Try.underlying116
 have hu121 := Try.underlying121
 have hu119 := Try.underlying119
 have HR := Sd.mk hr
 have HC := Sd.mk hcl
 have HLN := Sd.mk hlen
 have HK5 := Sd.mk hk
 have BKgw := Sd.mk hw
 have hs2 := Sd.mk (Sp.fit.u s hs (k : Int))
 clear hr hcl hlen hw
 have HB := Sd.mk (Below.refl w.heap.size w)
 have hs0 := hs.d0
 have hs1 := hs.d1
 have hs3 := hs2.out.1
 have hs4 := hs2.out.2
 clear hs hs2
 have f1 : (hadV lost k == -1) = false := beq_eq_false_iff_ne.2 hf0
 have f1b : (hadV lost k != -1) = true := bne_iff_ne.2 hf0
 have f2 : decide (hadV lost k ≤ s.d) = false := decide_eq_false hf
 clear hf hf0
 have f3 : decide (most ≤ s.u k) = true := decide_eq_true hu
 clear hu
 go_enter Try.func77, Try.ntmps77
 go_wp2_with (first | ((with_reducible refine gD (N := 4) rfl ?_); (try (refine gG (by rfl) ?_; dsimp only)); refine xE ?hg (N := 4) ?hd (cs := #[.int .i64 s.d, .int .i64 s.la, .int .i64 s.u0, .int .i64 s.u1, .int .i64 s.u2, .int .i64 s.u3, .int .i64 s.u4]) (t := 121) ?hr ?_; (case hd => rfl); (case hg => rfl); (case hr => first | (go_simp; done) ); intro gs hg w1 hbox hb; have n0_ := Sd.mk (bT (by repeat (first | (with_reducible first | exact HB.1 ) )) hb); have n1_ := Sd.mk hbox; have n2_ := Sd.mk ((by rw [hg]; exact (bZ (by repeat (first | (with_reducible first | exact HB.1 ) )))) : w.heap.size ≤ gs); have m0_ := Sd.mk (kB (by (with_reducible repeat (fail)); exact BKgw.1) hb); clear HB; have HB := n0_; have BKgs := n1_; have GEgs := n2_; clear n0_ n1_ n2_; clear BKgw; have BKgw := m0_; clear m0_; clear hb hbox hg) | ((with_reducible refine gD (N := 6) rfl ?_); (try (refine gG (by rfl) ?_; dsimp only)); refine xE ?hg (N := 6) ?hd (cs := #[.int .i64 0, .int .i64 0, .int .i64 0, .int .i64 0, .int .i64 0, .int .i64 0, .int .i64 0]) (t := 121) ?hr ?_; (case hd => rfl); (case hg => rfl); (case hr => first | (go_simp; done) ); intro gr hg w2 hbox hb; have n0_ := Sd.mk (bT (by repeat (first | (with_reducible first | exact HB.1 ) )) hb); have n1_ := Sd.mk hbox; have n2_ := Sd.mk ((by rw [hg]; exact (bZ (by repeat (first | (with_reducible first | exact HB.1 ) )))) : w.heap.size ≤ gr); have m0_ := Sd.mk (kB (by (with_reducible repeat (fail)); exact BKgw.1) hb); have m1_ := Sd.mk (kB (by (with_reducible repeat (fail)); exact BKgs.1) hb); have NEgsgr := Sd.mk (by rw [hg]; exact Nat.ne_of_lt (blk_lt (by (with_reducible repeat (fail)); exact BKgs.1)) : gs ≠ gr); clear HB; have HB := n0_; have BKgr := n1_; have GEgr := n2_; clear n0_ n1_ n2_; clear BKgw; have BKgw := m0_; clear m0_; clear BKgs; have BKgs := m1_; clear m1_; clear hb hbox hg; have z_w2gw_4 : w2.cell? ⟨gw, 4, none⟩ = some (.slice AL lost.length cL) := (kC BKgw.1 4).trans rfl) | (go_at_call 72; refine (cipher_had.calls 1001 AL cL lost (k : Int) _ _ (Kd.C_below HR.1 (by repeat (first | (with_reducible first | exact HB.1 ) ))) HC.1 (had_f _ _ HLN.1)).mono ?_; rintro e w4 ⟨rfl, hb⟩; have n0_ := Sd.mk (bT (by repeat (first | (with_reducible first | exact HB.1 ) )) hb); have m0_ := Sd.mk (kB (by (with_reducible repeat (fail)); exact BKgw.1) hb); have m1_ := Sd.mk (kB (by (with_reducible repeat (fail)); exact BKgs.1) hb); have m2_ := Sd.mk (kB (by (with_reducible repeat (fail)); exact BKgr.1) hb); clear HB; have HB := n0_; clear n0_; clear BKgw; have BKgw := m0_; clear m0_; clear BKgs; have BKgs := m1_; clear m1_; clear BKgr; have BKgr := m2_; clear m2_; clear hb; have z_w4gw_5 : w4.cell? ⟨gw, 5, none⟩ = some (.int .i64 most) := (kC BKgw.1 5).trans rfl; have z_w4gs_0 : w4.cell? ⟨gs, 0, none⟩ = some (.int .i64 s.d) := (kC BKgs.1 0).trans rfl; have z_w4gs_1 : w4.cell? ⟨gs, 1, none⟩ = some (.int .i64 s.la) := (kC BKgs.1 1).trans rfl; have z_w4gs_2 : w4.cell? ⟨gs, 2, none⟩ = some (.int .i64 s.u0) := (kC BKgs.1 2).trans rfl; have z_w4gs_3 : w4.cell? ⟨gs, 3, none⟩ = some (.int .i64 s.u1) := (kC BKgs.1 3).trans rfl; have z_w4gs_4 : w4.cell? ⟨gs, 4, none⟩ = some (.int .i64 s.u2) := (kC BKgs.1 4).trans rfl; have z_w4gs_5 : w4.cell? ⟨gs, 5, none⟩ = some (.int .i64 s.u3) := (kC BKgs.1 5).trans rfl; have z_w4gs_6 : w4.cell? ⟨gs, 6, none⟩ = some (.int .i64 s.u4) := (kC BKgs.1 6).trans rfl; have z_w4gr_0 : w4.cell? ⟨gr, 0, none⟩ = some (.int .i64 0) := (kC BKgr.1 0).trans rfl; have hfzw4gr_0 := kF BKgr.1 0; have z_w4gr_1 : w4.cell? ⟨gr, 1, none⟩ = some (.int .i64 0) := (kC BKgr.1 1).trans rfl; have hfzw4gr_1 := kF BKgr.1 1; have z_w4gr_2 : w4.cell? ⟨gr, 2, none⟩ = some (.int .i64 0) := (kC BKgr.1 2).trans rfl; have hfzw4gr_2 := kF BKgr.1 2; have z_w4gr_3 : w4.cell? ⟨gr, 3, none⟩ = some (.int .i64 0) := (kC BKgr.1 3).trans rfl; have hfzw4gr_3 := kF BKgr.1 3; have z_w4gr_4 : w4.cell? ⟨gr, 4, none⟩ = some (.int .i64 0) := (kC BKgr.1 4).trans rfl; have hfzw4gr_4 := kF BKgr.1 4; have z_w4gr_5 : w4.cell? ⟨gr, 5, none⟩ = some (.int .i64 0) := (kC BKgr.1 5).trans rfl; have hfzw4gr_5 := kF BKgr.1 5; have z_w4gr_6 : w4.cell? ⟨gr, 6, none⟩ = some (.int .i64 0) := (kC BKgr.1 6).trans rfl; have hfzw4gr_6 := kF BKgr.1 6))
 have ne1 : ¬ gs = gr := NEgsgr.1
 have ne2 : ¬ gr = gs := fun h => NEgsgr.1 h.symm
 have hcu : w4.cell? ⟨gs, 2 + k, none⟩ = some (.int .i64 (s.u k)) := (kC BKgs.1 (2 + k)).trans (sp_cell s k HK5.1)
 have hfu : w4.frozen? ⟨gs, 2 + k, none⟩ = false := kF BKgs.1 (2 + k)
 go_quiet (fail)
 go_wp2
 exact bodyPost_ret (results_ctt rfl _ _ gr 121 #[.int .i64 s.d, .int .i64 s.la, .int .i64 s.u0, .int .i64 s.u1, .int .i64 s.u2, .int .i64 s.u3, .int .i64 s.u4] (0, 0) _ rfl (blk_set (blk_set (blk_set (blk_set (blk_set (blk_set (blk_set (kN BKgr.1 nq) 0 (.int .i64 s.d)) 1 (.int .i64 s.la)) 2 (.int .i64 s.u0)) 3 (.int .i64 s.u1)) 4 (.int .i64 s.u2)) 5 (.int .i64 s.u3)) 6 (.int .i64 s.u4)) Try.underlying121 rfl (by kernel_rfl)) rfl ⟨rfl, bS (bS (bS (bS (bS (bS (bS (bN HB.1 nq) GEgr.1) GEgr.1) GEgr.1) GEgr.1) GEgr.1) GEgr.1) GEgr.1⟩
set_option maxHeartbeats 4000000 in
set_option maxRecDepth 100000 in
theorem may_same0b (sz wd : Int) (kv dv mv : Value) (AL : Option Addr) (cL : Nat) (lost : List S110) (most : Int) (gw : Nat) (s : Sp) (k : Nat) (w : World) (hk : k < 5) (hr : Kd.C k110 w AL lost.length lost) (hcl : lost.length ≤ cL) (hlen : lost.length ≤ 1000) (hw : w.heap[gw]? = some (.cells #[.int .i64 sz, .int .i64 wd, kv, dv, .slice AL lost.length cL, .int .i64 most, mv] 116 (0, 0))) (hs : s.fit) (hf0 : ¬ hadV lost k = -1) (hf : ¬ hadV lost k ≤ s.d) (hu : ¬ most ≤ s.u k) (hc : ¬ 0 < s.d) :
  Calls Try.prog 77 #[.pointer (some ⟨gw, 0, none⟩), .agg #[.int .i64 s.d, .int .i64 s.la, .int .i64 s.u0, .int .i64 s.u1, .int .i64 s.u2, .int .i64 s.u3, .int .i64 s.u4], .int .i64 (k : Int)] w fun e w' => e = .returned (.tuple #[.agg #[.int .i64 (s.d + 1), .int .i64 (k : Int), .int .i64 (s.next k).u0, .int .i64 (s.next k).u1, .int .i64 (s.next k).u2, .int .i64 (s.next k).u3, .int .i64 (s.next k).u4], .int .i64 0, .bool true]) ∧ Below w.heap.size w w' := by
 have hu116 := Try.underlying116
 have hu121 := Try.underlying121
 have hu119 := Try.underlying119
 have HR := Sd.mk hr
 have HC := Sd.mk hcl
 have HLN := Sd.mk hlen
 have HK5 := Sd.mk hk
 have BKgw := Sd.mk hw
 have hs2 := Sd.mk (Sp.fit.u s hs (k : Int))
 clear hr hcl hlen hw
 have HB := Sd.mk (Below.refl w.heap.size w)
 have hs0 := hs.d0
 have hs1 := hs.d1
 have hs3 := hs2.out.1
 have hs4 := hs2.out.2
 clear hs hs2
 have f1 : (hadV lost k == -1) = false := beq_eq_false_iff_ne.2 hf0
 have f1b : (hadV lost k != -1) = true := bne_iff_ne.2 hf0
 have f2 : decide (hadV lost k ≤ s.d) = false := decide_eq_false hf
 clear hf hf0
 have f3 : decide (most ≤ s.u k) = false := decide_eq_false hu
 clear hu
 have f4 : decide (0 < s.d) = false := decide_eq_false hc
 clear hc
 go_enter Try.func77, Try.ntmps77
 go_wp2_with (first | ((with_reducible refine gD (N := 4) rfl ?_); (try (refine gG (by rfl) ?_; dsimp only)); refine xE ?hg (N := 4) ?hd (cs := #[.int .i64 s.d, .int .i64 s.la, .int .i64 s.u0, .int .i64 s.u1, .int .i64 s.u2, .int .i64 s.u3, .int .i64 s.u4]) (t := 121) ?hr ?_; (case hd => rfl); (case hg => rfl); (case hr => first | (go_simp; done) ); intro gs hg w1 hbox hb; have n0_ := Sd.mk (bT (by repeat (first | (with_reducible first | exact HB.1 ) )) hb); have n1_ := Sd.mk hbox; have n2_ := Sd.mk ((by rw [hg]; exact (bZ (by repeat (first | (with_reducible first | exact HB.1 ) )))) : w.heap.size ≤ gs); have m0_ := Sd.mk (kB (by (with_reducible repeat (fail)); exact BKgw.1) hb); clear HB; have HB := n0_; have BKgs := n1_; have GEgs := n2_; clear n0_ n1_ n2_; clear BKgw; have BKgw := m0_; clear m0_; clear hb hbox hg) | ((with_reducible refine gD (N := 6) rfl ?_); (try (refine gG (by rfl) ?_; dsimp only)); refine xE ?hg (N := 6) ?hd (cs := #[.int .i64 0, .int .i64 0, .int .i64 0, .int .i64 0, .int .i64 0, .int .i64 0, .int .i64 0]) (t := 121) ?hr ?_; (case hd => rfl); (case hg => rfl); (case hr => first | (go_simp; done) ); intro gr hg w2 hbox hb; have n0_ := Sd.mk (bT (by repeat (first | (with_reducible first | exact HB.1 ) )) hb); have n1_ := Sd.mk hbox; have n2_ := Sd.mk ((by rw [hg]; exact (bZ (by repeat (first | (with_reducible first | exact HB.1 ) )))) : w.heap.size ≤ gr); have m0_ := Sd.mk (kB (by (with_reducible repeat (fail)); exact BKgw.1) hb); have m1_ := Sd.mk (kB (by (with_reducible repeat (fail)); exact BKgs.1) hb); have NEgsgr := Sd.mk (by rw [hg]; exact Nat.ne_of_lt (blk_lt (by (with_reducible repeat (fail)); exact BKgs.1)) : gs ≠ gr); clear HB; have HB := n0_; have BKgr := n1_; have GEgr := n2_; clear n0_ n1_ n2_; clear BKgw; have BKgw := m0_; clear m0_; clear BKgs; have BKgs := m1_; clear m1_; clear hb hbox hg; have z_w2gw_4 : w2.cell? ⟨gw, 4, none⟩ = some (.slice AL lost.length cL) := (kC BKgw.1 4).trans rfl) | (go_at_call 72; refine (cipher_had.calls 1001 AL cL lost (k : Int) _ _ (Kd.C_below HR.1 (by repeat (first | (with_reducible first | exact HB.1 ) ))) HC.1 (had_f _ _ HLN.1)).mono ?_; rintro e w4 ⟨rfl, hb⟩; have n0_ := Sd.mk (bT (by repeat (first | (with_reducible first | exact HB.1 ) )) hb); have m0_ := Sd.mk (kB (by (with_reducible repeat (fail)); exact BKgw.1) hb); have m1_ := Sd.mk (kB (by (with_reducible repeat (fail)); exact BKgs.1) hb); have m2_ := Sd.mk (kB (by (with_reducible repeat (fail)); exact BKgr.1) hb); clear HB; have HB := n0_; clear n0_; clear BKgw; have BKgw := m0_; clear m0_; clear BKgs; have BKgs := m1_; clear m1_; clear BKgr; have BKgr := m2_; clear m2_; clear hb; have z_w4gw_5 : w4.cell? ⟨gw, 5, none⟩ = some (.int .i64 most) := (kC BKgw.1 5).trans rfl; have z_w4gs_0 : w4.cell? ⟨gs, 0, none⟩ = some (.int .i64 s.d) := (kC BKgs.1 0).trans rfl; have z_w4gs_1 : w4.cell? ⟨gs, 1, none⟩ = some (.int .i64 s.la) := (kC BKgs.1 1).trans rfl; have z_w4gs_2 : w4.cell? ⟨gs, 2, none⟩ = some (.int .i64 s.u0) := (kC BKgs.1 2).trans rfl; have z_w4gs_3 : w4.cell? ⟨gs, 3, none⟩ = some (.int .i64 s.u1) := (kC BKgs.1 3).trans rfl; have z_w4gs_4 : w4.cell? ⟨gs, 4, none⟩ = some (.int .i64 s.u2) := (kC BKgs.1 4).trans rfl; have z_w4gs_5 : w4.cell? ⟨gs, 5, none⟩ = some (.int .i64 s.u3) := (kC BKgs.1 5).trans rfl; have z_w4gs_6 : w4.cell? ⟨gs, 6, none⟩ = some (.int .i64 s.u4) := (kC BKgs.1 6).trans rfl; have z_w4gr_0 : w4.cell? ⟨gr, 0, none⟩ = some (.int .i64 0) := (kC BKgr.1 0).trans rfl; have hfzw4gr_0 := kF BKgr.1 0; have z_w4gr_1 : w4.cell? ⟨gr, 1, none⟩ = some (.int .i64 0) := (kC BKgr.1 1).trans rfl; have hfzw4gr_1 := kF BKgr.1 1; have z_w4gr_2 : w4.cell? ⟨gr, 2, none⟩ = some (.int .i64 0) := (kC BKgr.1 2).trans rfl; have hfzw4gr_2 := kF BKgr.1 2; have z_w4gr_3 : w4.cell? ⟨gr, 3, none⟩ = some (.int .i64 0) := (kC BKgr.1 3).trans rfl; have hfzw4gr_3 := kF BKgr.1 3; have z_w4gr_4 : w4.cell? ⟨gr, 4, none⟩ = some (.int .i64 0) := (kC BKgr.1 4).trans rfl; have hfzw4gr_4 := kF BKgr.1 4; have z_w4gr_5 : w4.cell? ⟨gr, 5, none⟩ = some (.int .i64 0) := (kC BKgr.1 5).trans rfl; have hfzw4gr_5 := kF BKgr.1 5; have z_w4gr_6 : w4.cell? ⟨gr, 6, none⟩ = some (.int .i64 0) := (kC BKgr.1 6).trans rfl; have hfzw4gr_6 := kF BKgr.1 6))
 have ne1 : ¬ gs = gr := NEgsgr.1
 have ne2 : ¬ gr = gs := fun h => NEgsgr.1 h.symm
 have hcu : w4.cell? ⟨gs, 2 + k, none⟩ = some (.int .i64 (s.u k)) := (kC BKgs.1 (2 + k)).trans (sp_cell s k HK5.1)
 have hfu : w4.frozen? ⟨gs, 2 + k, none⟩ = false := kF BKgs.1 (2 + k)
 go_quiet (fail)
 go_wp2_with (first | ((with_reducible refine gate_store (t := 3) (p := 51) rfl ?_); refine store_event (t := 3) (p := 51) (v := ?vo) (w1 := ((w4.drewN nq).setCell ⟨gs, 2 + k, none⟩ (.int .i64 (s.u k + 1)))) ?hg ?ho ?hn ?hr ?_; (case ho => rfl); (case hg => rfl); (case hn => rfl); (case hr => first | (go_simp; done) ); intro w6 hw6; have m0_ : Sd (w6.heap[gs]? = some (.cells #[.int .i64 s.d, .int .i64 s.la, .int .i64 (s.next k).u0, .int .i64 (s.next k).u1, .int .i64 (s.next k).u2, .int .i64 (s.next k).u3, .int .i64 (s.next k).u4] 121 (0, 0))) := ⟨by rw [hw6]; exact blk_put (kN BKgs.1 nq) (2 + k) _ (sp_next s k HK5.1)⟩; have m1_ : Sd (w6.heap[gr]? = some (.cells #[.int .i64 0, .int .i64 0, .int .i64 0, .int .i64 0, .int .i64 0, .int .i64 0, .int .i64 0] 121 (0, 0))) := ⟨by rw [hw6]; exact blk_far (kN BKgr.1 nq) (p := ⟨gs, 2 + k, none⟩) ne2 _⟩; have m2_ : Sd (Below w.heap.size w w6) := ⟨by rw [hw6]; exact bS (bN HB.1 nq) GEgs.1⟩; clear hw6; clear BKgs BKgr HB; have BKgs := m0_; have BKgr := m1_; have HB := m2_; clear m0_ m1_ m2_; have hczn6s_0 : w6.cell? ⟨gs, 0, none⟩ = some (.int .i64 s.d) := (kC BKgs.1 0).trans rfl; have hczn6s_2 : w6.cell? ⟨gs, 2, none⟩ = some (.int .i64 (s.next k).u0) := (kC BKgs.1 2).trans rfl; have hczn6s_3 : w6.cell? ⟨gs, 3, none⟩ = some (.int .i64 (s.next k).u1) := (kC BKgs.1 3).trans rfl; have hczn6s_4 : w6.cell? ⟨gs, 4, none⟩ = some (.int .i64 (s.next k).u2) := (kC BKgs.1 4).trans rfl; have hczn6s_5 : w6.cell? ⟨gs, 5, none⟩ = some (.int .i64 (s.next k).u3) := (kC BKgs.1 5).trans rfl; have hczn6s_6 : w6.cell? ⟨gs, 6, none⟩ = some (.int .i64 (s.next k).u4) := (kC BKgs.1 6).trans rfl; have hczn6r_0 : w6.cell? ⟨gr, 0, none⟩ = some (.int .i64 0) := (kC BKgr.1 0).trans rfl; have hfzn6r_0 := kF BKgr.1 0; have hczn6r_1 : w6.cell? ⟨gr, 1, none⟩ = some (.int .i64 0) := (kC BKgr.1 1).trans rfl; have hfzn6r_1 := kF BKgr.1 1; have hczn6r_2 : w6.cell? ⟨gr, 2, none⟩ = some (.int .i64 0) := (kC BKgr.1 2).trans rfl; have hfzn6r_2 := kF BKgr.1 2; have hczn6r_3 : w6.cell? ⟨gr, 3, none⟩ = some (.int .i64 0) := (kC BKgr.1 3).trans rfl; have hfzn6r_3 := kF BKgr.1 3; have hczn6r_4 : w6.cell? ⟨gr, 4, none⟩ = some (.int .i64 0) := (kC BKgr.1 4).trans rfl; have hfzn6r_4 := kF BKgr.1 4; have hczn6r_5 : w6.cell? ⟨gr, 5, none⟩ = some (.int .i64 0) := (kC BKgr.1 5).trans rfl; have hfzn6r_5 := kF BKgr.1 5; have hczn6r_6 : w6.cell? ⟨gr, 6, none⟩ = some (.int .i64 0) := (kC BKgr.1 6).trans rfl; have hfzn6r_6 := kF BKgr.1 6))
 exact bodyPost_ret (results_ctt rfl _ _ gr 121 #[.int .i64 (s.d + 1), .int .i64 (k : Int), .int .i64 (s.next k).u0, .int .i64 (s.next k).u1, .int .i64 (s.next k).u2, .int .i64 (s.next k).u3, .int .i64 (s.next k).u4] (0, 0) _ rfl (blk_set (blk_set (blk_set (blk_set (blk_set (blk_set (blk_set (BKgr.1) 0 (.int .i64 (s.d + 1))) 1 (.int .i64 (k : Int))) 2 (.int .i64 (s.next k).u0)) 3 (.int .i64 (s.next k).u1)) 4 (.int .i64 (s.next k).u2)) 5 (.int .i64 (s.next k).u3)) 6 (.int .i64 (s.next k).u4)) Try.underlying121 rfl (by kernel_rfl)) rfl ⟨rfl, bS (bS (bS (bS (bS (bS (bS (HB.1) GEgr.1) GEgr.1) GEgr.1) GEgr.1) GEgr.1) GEgr.1) GEgr.1⟩
set_option maxHeartbeats 4000000 in
set_option maxRecDepth 100000 in
theorem may_same1b (sz wd : Int) (kv dv mv : Value) (AL : Option Addr) (cL : Nat) (lost : List S110) (most : Int) (gw : Nat) (s : Sp) (k : Nat) (w : World) (hk : k < 5) (hr : Kd.C k110 w AL lost.length lost) (hcl : lost.length ≤ cL) (hlen : lost.length ≤ 1000) (hw : w.heap[gw]? = some (.cells #[.int .i64 sz, .int .i64 wd, kv, dv, .slice AL lost.length cL, .int .i64 most, mv] 116 (0, 0))) (hs : s.fit) (hf0 : ¬ hadV lost k = -1) (hf : ¬ hadV lost k ≤ s.d) (hu : ¬ most ≤ s.u k) (hc : 0 < s.d) (hc2 : (k : Int) = s.la) :
  Calls Try.prog 77 #[.pointer (some ⟨gw, 0, none⟩), .agg #[.int .i64 s.d, .int .i64 s.la, .int .i64 s.u0, .int .i64 s.u1, .int .i64 s.u2, .int .i64 s.u3, .int .i64 s.u4], .int .i64 (k : Int)] w fun e w' => e = .returned (.tuple #[.agg #[.int .i64 (s.d + 1), .int .i64 (k : Int), .int .i64 (s.next k).u0, .int .i64 (s.next k).u1, .int .i64 (s.next k).u2, .int .i64 (s.next k).u3, .int .i64 (s.next k).u4], .int .i64 0, .bool true]) ∧ Below w.heap.size w w' := by
 have hu116 := Try.underlying116
 have hu121 := Try.underlying121
 have hu119 := Try.underlying119
 have HR := Sd.mk hr
 have HC := Sd.mk hcl
 have HLN := Sd.mk hlen
 have HK5 := Sd.mk hk
 have BKgw := Sd.mk hw
 have hs2 := Sd.mk (Sp.fit.u s hs (k : Int))
 clear hr hcl hlen hw
 have HB := Sd.mk (Below.refl w.heap.size w)
 have hs0 := hs.d0
 have hs1 := hs.d1
 have hs3 := hs2.out.1
 have hs4 := hs2.out.2
 clear hs hs2
 have f1 : (hadV lost k == -1) = false := beq_eq_false_iff_ne.2 hf0
 have f1b : (hadV lost k != -1) = true := bne_iff_ne.2 hf0
 have f2 : decide (hadV lost k ≤ s.d) = false := decide_eq_false hf
 clear hf hf0
 have f3 : decide (most ≤ s.u k) = false := decide_eq_false hu
 clear hu
 have f4 : decide (0 < s.d) = true := decide_eq_true hc
 have f5 : ((k : Int) == s.la) = true := beq_iff_eq.2 hc2
 have f5b : ((k : Int) != s.la) = false := bne_eq_false_iff_eq.2 hc2
 clear hc hc2
 go_enter Try.func77, Try.ntmps77
 go_wp2_with (first | ((with_reducible refine gD (N := 4) rfl ?_); (try (refine gG (by rfl) ?_; dsimp only)); refine xE ?hg (N := 4) ?hd (cs := #[.int .i64 s.d, .int .i64 s.la, .int .i64 s.u0, .int .i64 s.u1, .int .i64 s.u2, .int .i64 s.u3, .int .i64 s.u4]) (t := 121) ?hr ?_; (case hd => rfl); (case hg => rfl); (case hr => first | (go_simp; done) ); intro gs hg w1 hbox hb; have n0_ := Sd.mk (bT (by repeat (first | (with_reducible first | exact HB.1 ) )) hb); have n1_ := Sd.mk hbox; have n2_ := Sd.mk ((by rw [hg]; exact (bZ (by repeat (first | (with_reducible first | exact HB.1 ) )))) : w.heap.size ≤ gs); have m0_ := Sd.mk (kB (by (with_reducible repeat (fail)); exact BKgw.1) hb); clear HB; have HB := n0_; have BKgs := n1_; have GEgs := n2_; clear n0_ n1_ n2_; clear BKgw; have BKgw := m0_; clear m0_; clear hb hbox hg) | ((with_reducible refine gD (N := 6) rfl ?_); (try (refine gG (by rfl) ?_; dsimp only)); refine xE ?hg (N := 6) ?hd (cs := #[.int .i64 0, .int .i64 0, .int .i64 0, .int .i64 0, .int .i64 0, .int .i64 0, .int .i64 0]) (t := 121) ?hr ?_; (case hd => rfl); (case hg => rfl); (case hr => first | (go_simp; done) ); intro gr hg w2 hbox hb; have n0_ := Sd.mk (bT (by repeat (first | (with_reducible first | exact HB.1 ) )) hb); have n1_ := Sd.mk hbox; have n2_ := Sd.mk ((by rw [hg]; exact (bZ (by repeat (first | (with_reducible first | exact HB.1 ) )))) : w.heap.size ≤ gr); have m0_ := Sd.mk (kB (by (with_reducible repeat (fail)); exact BKgw.1) hb); have m1_ := Sd.mk (kB (by (with_reducible repeat (fail)); exact BKgs.1) hb); have NEgsgr := Sd.mk (by rw [hg]; exact Nat.ne_of_lt (blk_lt (by (with_reducible repeat (fail)); exact BKgs.1)) : gs ≠ gr); clear HB; have HB := n0_; have BKgr := n1_; have GEgr := n2_; clear n0_ n1_ n2_; clear BKgw; have BKgw := m0_; clear m0_; clear BKgs; have BKgs := m1_; clear m1_; clear hb hbox hg; have z_w2gw_4 : w2.cell? ⟨gw, 4, none⟩ = some (.slice AL lost.length cL) := (kC BKgw.1 4).trans rfl) | (go_at_call 72; refine (cipher_had.calls 1001 AL cL lost (k : Int) _ _ (Kd.C_below HR.1 (by repeat (first | (with_reducible first | exact HB.1 ) ))) HC.1 (had_f _ _ HLN.1)).mono ?_; rintro e w4 ⟨rfl, hb⟩; have n0_ := Sd.mk (bT (by repeat (first | (with_reducible first | exact HB.1 ) )) hb); have m0_ := Sd.mk (kB (by (with_reducible repeat (fail)); exact BKgw.1) hb); have m1_ := Sd.mk (kB (by (with_reducible repeat (fail)); exact BKgs.1) hb); have m2_ := Sd.mk (kB (by (with_reducible repeat (fail)); exact BKgr.1) hb); clear HB; have HB := n0_; clear n0_; clear BKgw; have BKgw := m0_; clear m0_; clear BKgs; have BKgs := m1_; clear m1_; clear BKgr; have BKgr := m2_; clear m2_; clear hb; have z_w4gw_5 : w4.cell? ⟨gw, 5, none⟩ = some (.int .i64 most) := (kC BKgw.1 5).trans rfl; have z_w4gs_0 : w4.cell? ⟨gs, 0, none⟩ = some (.int .i64 s.d) := (kC BKgs.1 0).trans rfl; have z_w4gs_1 : w4.cell? ⟨gs, 1, none⟩ = some (.int .i64 s.la) := (kC BKgs.1 1).trans rfl; have z_w4gs_2 : w4.cell? ⟨gs, 2, none⟩ = some (.int .i64 s.u0) := (kC BKgs.1 2).trans rfl; have z_w4gs_3 : w4.cell? ⟨gs, 3, none⟩ = some (.int .i64 s.u1) := (kC BKgs.1 3).trans rfl; have z_w4gs_4 : w4.cell? ⟨gs, 4, none⟩ = some (.int .i64 s.u2) := (kC BKgs.1 4).trans rfl; have z_w4gs_5 : w4.cell? ⟨gs, 5, none⟩ = some (.int .i64 s.u3) := (kC BKgs.1 5).trans rfl; have z_w4gs_6 : w4.cell? ⟨gs, 6, none⟩ = some (.int .i64 s.u4) := (kC BKgs.1 6).trans rfl; have z_w4gr_0 : w4.cell? ⟨gr, 0, none⟩ = some (.int .i64 0) := (kC BKgr.1 0).trans rfl; have hfzw4gr_0 := kF BKgr.1 0; have z_w4gr_1 : w4.cell? ⟨gr, 1, none⟩ = some (.int .i64 0) := (kC BKgr.1 1).trans rfl; have hfzw4gr_1 := kF BKgr.1 1; have z_w4gr_2 : w4.cell? ⟨gr, 2, none⟩ = some (.int .i64 0) := (kC BKgr.1 2).trans rfl; have hfzw4gr_2 := kF BKgr.1 2; have z_w4gr_3 : w4.cell? ⟨gr, 3, none⟩ = some (.int .i64 0) := (kC BKgr.1 3).trans rfl; have hfzw4gr_3 := kF BKgr.1 3; have z_w4gr_4 : w4.cell? ⟨gr, 4, none⟩ = some (.int .i64 0) := (kC BKgr.1 4).trans rfl; have hfzw4gr_4 := kF BKgr.1 4; have z_w4gr_5 : w4.cell? ⟨gr, 5, none⟩ = some (.int .i64 0) := (kC BKgr.1 5).trans rfl; have hfzw4gr_5 := kF BKgr.1 5; have z_w4gr_6 : w4.cell? ⟨gr, 6, none⟩ = some (.int .i64 0) := (kC BKgr.1 6).trans rfl; have hfzw4gr_6 := kF BKgr.1 6))
 have ne1 : ¬ gs = gr := NEgsgr.1
 have ne2 : ¬ gr = gs := fun h => NEgsgr.1 h.symm
 have hcu : w4.cell? ⟨gs, 2 + k, none⟩ = some (.int .i64 (s.u k)) := (kC BKgs.1 (2 + k)).trans (sp_cell s k HK5.1)
 have hfu : w4.frozen? ⟨gs, 2 + k, none⟩ = false := kF BKgs.1 (2 + k)
 go_quiet (fail)
 go_wp2_with (first | ((with_reducible refine gate_store (t := 3) (p := 51) rfl ?_); refine store_event (t := 3) (p := 51) (v := ?vo) (w1 := ((w4.drewN nq).setCell ⟨gs, 2 + k, none⟩ (.int .i64 (s.u k + 1)))) ?hg ?ho ?hn ?hr ?_; (case ho => rfl); (case hg => rfl); (case hn => rfl); (case hr => first | (go_simp; done) ); intro w6 hw6; have m0_ : Sd (w6.heap[gs]? = some (.cells #[.int .i64 s.d, .int .i64 s.la, .int .i64 (s.next k).u0, .int .i64 (s.next k).u1, .int .i64 (s.next k).u2, .int .i64 (s.next k).u3, .int .i64 (s.next k).u4] 121 (0, 0))) := ⟨by rw [hw6]; exact blk_put (kN BKgs.1 nq) (2 + k) _ (sp_next s k HK5.1)⟩; have m1_ : Sd (w6.heap[gr]? = some (.cells #[.int .i64 0, .int .i64 0, .int .i64 0, .int .i64 0, .int .i64 0, .int .i64 0, .int .i64 0] 121 (0, 0))) := ⟨by rw [hw6]; exact blk_far (kN BKgr.1 nq) (p := ⟨gs, 2 + k, none⟩) ne2 _⟩; have m2_ : Sd (Below w.heap.size w w6) := ⟨by rw [hw6]; exact bS (bN HB.1 nq) GEgs.1⟩; clear hw6; clear BKgs BKgr HB; have BKgs := m0_; have BKgr := m1_; have HB := m2_; clear m0_ m1_ m2_; have hczn6s_0 : w6.cell? ⟨gs, 0, none⟩ = some (.int .i64 s.d) := (kC BKgs.1 0).trans rfl; have hczn6s_2 : w6.cell? ⟨gs, 2, none⟩ = some (.int .i64 (s.next k).u0) := (kC BKgs.1 2).trans rfl; have hczn6s_3 : w6.cell? ⟨gs, 3, none⟩ = some (.int .i64 (s.next k).u1) := (kC BKgs.1 3).trans rfl; have hczn6s_4 : w6.cell? ⟨gs, 4, none⟩ = some (.int .i64 (s.next k).u2) := (kC BKgs.1 4).trans rfl; have hczn6s_5 : w6.cell? ⟨gs, 5, none⟩ = some (.int .i64 (s.next k).u3) := (kC BKgs.1 5).trans rfl; have hczn6s_6 : w6.cell? ⟨gs, 6, none⟩ = some (.int .i64 (s.next k).u4) := (kC BKgs.1 6).trans rfl; have hczn6r_0 : w6.cell? ⟨gr, 0, none⟩ = some (.int .i64 0) := (kC BKgr.1 0).trans rfl; have hfzn6r_0 := kF BKgr.1 0; have hczn6r_1 : w6.cell? ⟨gr, 1, none⟩ = some (.int .i64 0) := (kC BKgr.1 1).trans rfl; have hfzn6r_1 := kF BKgr.1 1; have hczn6r_2 : w6.cell? ⟨gr, 2, none⟩ = some (.int .i64 0) := (kC BKgr.1 2).trans rfl; have hfzn6r_2 := kF BKgr.1 2; have hczn6r_3 : w6.cell? ⟨gr, 3, none⟩ = some (.int .i64 0) := (kC BKgr.1 3).trans rfl; have hfzn6r_3 := kF BKgr.1 3; have hczn6r_4 : w6.cell? ⟨gr, 4, none⟩ = some (.int .i64 0) := (kC BKgr.1 4).trans rfl; have hfzn6r_4 := kF BKgr.1 4; have hczn6r_5 : w6.cell? ⟨gr, 5, none⟩ = some (.int .i64 0) := (kC BKgr.1 5).trans rfl; have hfzn6r_5 := kF BKgr.1 5; have hczn6r_6 : w6.cell? ⟨gr, 6, none⟩ = some (.int .i64 0) := (kC BKgr.1 6).trans rfl; have hfzn6r_6 := kF BKgr.1 6))
 exact bodyPost_ret (results_ctt rfl _ _ gr 121 #[.int .i64 (s.d + 1), .int .i64 (k : Int), .int .i64 (s.next k).u0, .int .i64 (s.next k).u1, .int .i64 (s.next k).u2, .int .i64 (s.next k).u3, .int .i64 (s.next k).u4] (0, 0) _ rfl (blk_set (blk_set (blk_set (blk_set (blk_set (blk_set (blk_set (BKgr.1) 0 (.int .i64 (s.d + 1))) 1 (.int .i64 (k : Int))) 2 (.int .i64 (s.next k).u0)) 3 (.int .i64 (s.next k).u1)) 4 (.int .i64 (s.next k).u2)) 5 (.int .i64 (s.next k).u3)) 6 (.int .i64 (s.next k).u4)) Try.underlying121 rfl (by kernel_rfl)) rfl ⟨rfl, bS (bS (bS (bS (bS (bS (bS (HB.1) GEgr.1) GEgr.1) GEgr.1) GEgr.1) GEgr.1) GEgr.1) GEgr.1⟩
set_option maxHeartbeats 4000000 in
set_option maxRecDepth 100000 in
theorem may_chgb (sz wd : Int) (kv dv mv : Value) (AL : Option Addr) (cL : Nat) (lost : List S110) (most : Int) (gw : Nat) (s : Sp) (k : Nat) (w : World) (hk : k < 5) (hr : Kd.C k110 w AL lost.length lost) (hcl : lost.length ≤ cL) (hlen : lost.length ≤ 1000) (hw : w.heap[gw]? = some (.cells #[.int .i64 sz, .int .i64 wd, kv, dv, .slice AL lost.length cL, .int .i64 most, mv] 116 (0, 0))) (hs : s.fit) (hf0 : ¬ hadV lost k = -1) (hf : ¬ hadV lost k ≤ s.d) (hu : ¬ most ≤ s.u k) (hc : 0 < s.d) (hc2 : ¬ (k : Int) = s.la) :
  Calls Try.prog 77 #[.pointer (some ⟨gw, 0, none⟩), .agg #[.int .i64 s.d, .int .i64 s.la, .int .i64 s.u0, .int .i64 s.u1, .int .i64 s.u2, .int .i64 s.u3, .int .i64 s.u4], .int .i64 (k : Int)] w fun e w' => e = .returned (.tuple #[.agg #[.int .i64 (s.d + 1), .int .i64 (k : Int), .int .i64 (s.next k).u0, .int .i64 (s.next k).u1, .int .i64 (s.next k).u2, .int .i64 (s.next k).u3, .int .i64 (s.next k).u4], .int .i64 1, .bool true]) ∧ Below w.heap.size w w' := by
 have hu116 := Try.underlying116
 have hu121 := Try.underlying121
 have hu119 := Try.underlying119
 have HR := Sd.mk hr
 have HC := Sd.mk hcl
 have HLN := Sd.mk hlen
 have HK5 := Sd.mk hk
 have BKgw := Sd.mk hw
 have hs2 := Sd.mk (Sp.fit.u s hs (k : Int))
 clear hr hcl hlen hw
 have HB := Sd.mk (Below.refl w.heap.size w)
 have hs0 := hs.d0
 have hs1 := hs.d1
 have hs3 := hs2.out.1
 have hs4 := hs2.out.2
 clear hs hs2
 have f1 : (hadV lost k == -1) = false := beq_eq_false_iff_ne.2 hf0
 have f1b : (hadV lost k != -1) = true := bne_iff_ne.2 hf0
 have f2 : decide (hadV lost k ≤ s.d) = false := decide_eq_false hf
 clear hf hf0
 have f3 : decide (most ≤ s.u k) = false := decide_eq_false hu
 clear hu
 have f4 : decide (0 < s.d) = true := decide_eq_true hc
 have f5 : ((k : Int) == s.la) = false := beq_eq_false_iff_ne.2 hc2
 have f5b : ((k : Int) != s.la) = true := bne_iff_ne.2 hc2
 clear hc hc2
 go_enter Try.func77, Try.ntmps77
 go_wp2_with (first | ((with_reducible refine gD (N := 4) rfl ?_); (try (refine gG (by rfl) ?_; dsimp only)); refine xE ?hg (N := 4) ?hd (cs := #[.int .i64 s.d, .int .i64 s.la, .int .i64 s.u0, .int .i64 s.u1, .int .i64 s.u2, .int .i64 s.u3, .int .i64 s.u4]) (t := 121) ?hr ?_; (case hd => rfl); (case hg => rfl); (case hr => first | (go_simp; done) ); intro gs hg w1 hbox hb; have n0_ := Sd.mk (bT (by repeat (first | (with_reducible first | exact HB.1 ) )) hb); have n1_ := Sd.mk hbox; have n2_ := Sd.mk ((by rw [hg]; exact (bZ (by repeat (first | (with_reducible first | exact HB.1 ) )))) : w.heap.size ≤ gs); have m0_ := Sd.mk (kB (by (with_reducible repeat (fail)); exact BKgw.1) hb); clear HB; have HB := n0_; have BKgs := n1_; have GEgs := n2_; clear n0_ n1_ n2_; clear BKgw; have BKgw := m0_; clear m0_; clear hb hbox hg) | ((with_reducible refine gD (N := 6) rfl ?_); (try (refine gG (by rfl) ?_; dsimp only)); refine xE ?hg (N := 6) ?hd (cs := #[.int .i64 0, .int .i64 0, .int .i64 0, .int .i64 0, .int .i64 0, .int .i64 0, .int .i64 0]) (t := 121) ?hr ?_; (case hd => rfl); (case hg => rfl); (case hr => first | (go_simp; done) ); intro gr hg w2 hbox hb; have n0_ := Sd.mk (bT (by repeat (first | (with_reducible first | exact HB.1 ) )) hb); have n1_ := Sd.mk hbox; have n2_ := Sd.mk ((by rw [hg]; exact (bZ (by repeat (first | (with_reducible first | exact HB.1 ) )))) : w.heap.size ≤ gr); have m0_ := Sd.mk (kB (by (with_reducible repeat (fail)); exact BKgw.1) hb); have m1_ := Sd.mk (kB (by (with_reducible repeat (fail)); exact BKgs.1) hb); have NEgsgr := Sd.mk (by rw [hg]; exact Nat.ne_of_lt (blk_lt (by (with_reducible repeat (fail)); exact BKgs.1)) : gs ≠ gr); clear HB; have HB := n0_; have BKgr := n1_; have GEgr := n2_; clear n0_ n1_ n2_; clear BKgw; have BKgw := m0_; clear m0_; clear BKgs; have BKgs := m1_; clear m1_; clear hb hbox hg; have z_w2gw_4 : w2.cell? ⟨gw, 4, none⟩ = some (.slice AL lost.length cL) := (kC BKgw.1 4).trans rfl) | (go_at_call 72; refine (cipher_had.calls 1001 AL cL lost (k : Int) _ _ (Kd.C_below HR.1 (by repeat (first | (with_reducible first | exact HB.1 ) ))) HC.1 (had_f _ _ HLN.1)).mono ?_; rintro e w4 ⟨rfl, hb⟩; have n0_ := Sd.mk (bT (by repeat (first | (with_reducible first | exact HB.1 ) )) hb); have m0_ := Sd.mk (kB (by (with_reducible repeat (fail)); exact BKgw.1) hb); have m1_ := Sd.mk (kB (by (with_reducible repeat (fail)); exact BKgs.1) hb); have m2_ := Sd.mk (kB (by (with_reducible repeat (fail)); exact BKgr.1) hb); clear HB; have HB := n0_; clear n0_; clear BKgw; have BKgw := m0_; clear m0_; clear BKgs; have BKgs := m1_; clear m1_; clear BKgr; have BKgr := m2_; clear m2_; clear hb; have z_w4gw_5 : w4.cell? ⟨gw, 5, none⟩ = some (.int .i64 most) := (kC BKgw.1 5).trans rfl; have z_w4gs_0 : w4.cell? ⟨gs, 0, none⟩ = some (.int .i64 s.d) := (kC BKgs.1 0).trans rfl; have z_w4gs_1 : w4.cell? ⟨gs, 1, none⟩ = some (.int .i64 s.la) := (kC BKgs.1 1).trans rfl; have z_w4gs_2 : w4.cell? ⟨gs, 2, none⟩ = some (.int .i64 s.u0) := (kC BKgs.1 2).trans rfl; have z_w4gs_3 : w4.cell? ⟨gs, 3, none⟩ = some (.int .i64 s.u1) := (kC BKgs.1 3).trans rfl; have z_w4gs_4 : w4.cell? ⟨gs, 4, none⟩ = some (.int .i64 s.u2) := (kC BKgs.1 4).trans rfl; have z_w4gs_5 : w4.cell? ⟨gs, 5, none⟩ = some (.int .i64 s.u3) := (kC BKgs.1 5).trans rfl; have z_w4gs_6 : w4.cell? ⟨gs, 6, none⟩ = some (.int .i64 s.u4) := (kC BKgs.1 6).trans rfl; have z_w4gr_0 : w4.cell? ⟨gr, 0, none⟩ = some (.int .i64 0) := (kC BKgr.1 0).trans rfl; have hfzw4gr_0 := kF BKgr.1 0; have z_w4gr_1 : w4.cell? ⟨gr, 1, none⟩ = some (.int .i64 0) := (kC BKgr.1 1).trans rfl; have hfzw4gr_1 := kF BKgr.1 1; have z_w4gr_2 : w4.cell? ⟨gr, 2, none⟩ = some (.int .i64 0) := (kC BKgr.1 2).trans rfl; have hfzw4gr_2 := kF BKgr.1 2; have z_w4gr_3 : w4.cell? ⟨gr, 3, none⟩ = some (.int .i64 0) := (kC BKgr.1 3).trans rfl; have hfzw4gr_3 := kF BKgr.1 3; have z_w4gr_4 : w4.cell? ⟨gr, 4, none⟩ = some (.int .i64 0) := (kC BKgr.1 4).trans rfl; have hfzw4gr_4 := kF BKgr.1 4; have z_w4gr_5 : w4.cell? ⟨gr, 5, none⟩ = some (.int .i64 0) := (kC BKgr.1 5).trans rfl; have hfzw4gr_5 := kF BKgr.1 5; have z_w4gr_6 : w4.cell? ⟨gr, 6, none⟩ = some (.int .i64 0) := (kC BKgr.1 6).trans rfl; have hfzw4gr_6 := kF BKgr.1 6))
 have ne1 : ¬ gs = gr := NEgsgr.1
 have ne2 : ¬ gr = gs := fun h => NEgsgr.1 h.symm
 have hcu : w4.cell? ⟨gs, 2 + k, none⟩ = some (.int .i64 (s.u k)) := (kC BKgs.1 (2 + k)).trans (sp_cell s k HK5.1)
 have hfu : w4.frozen? ⟨gs, 2 + k, none⟩ = false := kF BKgs.1 (2 + k)
 go_quiet (fail)
 go_wp2_with (first | ((with_reducible refine gate_store (t := 3) (p := 51) rfl ?_); refine store_event (t := 3) (p := 51) (v := ?vo) (w1 := ((w4.drewN nq).setCell ⟨gs, 2 + k, none⟩ (.int .i64 (s.u k + 1)))) ?hg ?ho ?hn ?hr ?_; (case ho => rfl); (case hg => rfl); (case hn => rfl); (case hr => first | (go_simp; done) ); intro w6 hw6; have m0_ : Sd (w6.heap[gs]? = some (.cells #[.int .i64 s.d, .int .i64 s.la, .int .i64 (s.next k).u0, .int .i64 (s.next k).u1, .int .i64 (s.next k).u2, .int .i64 (s.next k).u3, .int .i64 (s.next k).u4] 121 (0, 0))) := ⟨by rw [hw6]; exact blk_put (kN BKgs.1 nq) (2 + k) _ (sp_next s k HK5.1)⟩; have m1_ : Sd (w6.heap[gr]? = some (.cells #[.int .i64 0, .int .i64 0, .int .i64 0, .int .i64 0, .int .i64 0, .int .i64 0, .int .i64 0] 121 (0, 0))) := ⟨by rw [hw6]; exact blk_far (kN BKgr.1 nq) (p := ⟨gs, 2 + k, none⟩) ne2 _⟩; have m2_ : Sd (Below w.heap.size w w6) := ⟨by rw [hw6]; exact bS (bN HB.1 nq) GEgs.1⟩; clear hw6; clear BKgs BKgr HB; have BKgs := m0_; have BKgr := m1_; have HB := m2_; clear m0_ m1_ m2_; have hczn6s_0 : w6.cell? ⟨gs, 0, none⟩ = some (.int .i64 s.d) := (kC BKgs.1 0).trans rfl; have hczn6s_2 : w6.cell? ⟨gs, 2, none⟩ = some (.int .i64 (s.next k).u0) := (kC BKgs.1 2).trans rfl; have hczn6s_3 : w6.cell? ⟨gs, 3, none⟩ = some (.int .i64 (s.next k).u1) := (kC BKgs.1 3).trans rfl; have hczn6s_4 : w6.cell? ⟨gs, 4, none⟩ = some (.int .i64 (s.next k).u2) := (kC BKgs.1 4).trans rfl; have hczn6s_5 : w6.cell? ⟨gs, 5, none⟩ = some (.int .i64 (s.next k).u3) := (kC BKgs.1 5).trans rfl; have hczn6s_6 : w6.cell? ⟨gs, 6, none⟩ = some (.int .i64 (s.next k).u4) := (kC BKgs.1 6).trans rfl; have hczn6r_0 : w6.cell? ⟨gr, 0, none⟩ = some (.int .i64 0) := (kC BKgr.1 0).trans rfl; have hfzn6r_0 := kF BKgr.1 0; have hczn6r_1 : w6.cell? ⟨gr, 1, none⟩ = some (.int .i64 0) := (kC BKgr.1 1).trans rfl; have hfzn6r_1 := kF BKgr.1 1; have hczn6r_2 : w6.cell? ⟨gr, 2, none⟩ = some (.int .i64 0) := (kC BKgr.1 2).trans rfl; have hfzn6r_2 := kF BKgr.1 2; have hczn6r_3 : w6.cell? ⟨gr, 3, none⟩ = some (.int .i64 0) := (kC BKgr.1 3).trans rfl; have hfzn6r_3 := kF BKgr.1 3; have hczn6r_4 : w6.cell? ⟨gr, 4, none⟩ = some (.int .i64 0) := (kC BKgr.1 4).trans rfl; have hfzn6r_4 := kF BKgr.1 4; have hczn6r_5 : w6.cell? ⟨gr, 5, none⟩ = some (.int .i64 0) := (kC BKgr.1 5).trans rfl; have hfzn6r_5 := kF BKgr.1 5; have hczn6r_6 : w6.cell? ⟨gr, 6, none⟩ = some (.int .i64 0) := (kC BKgr.1 6).trans rfl; have hfzn6r_6 := kF BKgr.1 6))
 exact bodyPost_ret (results_ctt rfl _ _ gr 121 #[.int .i64 (s.d + 1), .int .i64 (k : Int), .int .i64 (s.next k).u0, .int .i64 (s.next k).u1, .int .i64 (s.next k).u2, .int .i64 (s.next k).u3, .int .i64 (s.next k).u4] (0, 0) _ rfl (blk_set (blk_set (blk_set (blk_set (blk_set (blk_set (blk_set (BKgr.1) 0 (.int .i64 (s.d + 1))) 1 (.int .i64 (k : Int))) 2 (.int .i64 (s.next k).u0)) 3 (.int .i64 (s.next k).u1)) 4 (.int .i64 (s.next k).u2)) 5 (.int .i64 (s.next k).u3)) 6 (.int .i64 (s.next k).u4)) Try.underlying121 rfl (by kernel_rfl)) rfl ⟨rfl, bS (bS (bS (bS (bS (bS (bS (HB.1) GEgr.1) GEgr.1) GEgr.1) GEgr.1) GEgr.1) GEgr.1) GEgr.1⟩
theorem may_any (sz wd : Int) (kv dv mv : Value) (AL : Option Addr) (cL : Nat) (lost : List S110) (most : Int) (gw : Nat) (s : Sp) (k : Nat) (w : World) (hk : k < 5) (hr : Kd.C k110 w AL lost.length lost) (hcl : lost.length ≤ cL) (hlen : lost.length ≤ 1000) (hw : w.heap[gw]? = some (.cells (WorkC sz wd kv dv (.slice AL lost.length cL) most mv) 116 (0, 0))) (hs : s.fit) :
  Calls Try.prog 77 #[.pointer (some ⟨gw, 0, none⟩), spV s, .int .i64 (k : Int)] w fun e w' => e = .returned (mayV lost most s k) ∧ Below w.heap.size w w' := by
 unfold WorkC at hw
 unfold mayV mayB chgV spV
 have hyes0 : ∀ (c : Int), (Value.tuple #[.agg #[.int .i64 (s.next k).d, .int .i64 (s.next k).la, .int .i64 (s.next k).u0, .int .i64 (s.next k).u1, .int .i64 (s.next k).u2, .int .i64 (s.next k).u3, .int .i64 (s.next k).u4], .int .i64 c, .bool true]) = .tuple #[.agg #[.int .i64 (s.d + 1), .int .i64 (k : Int), .int .i64 (s.next k).u0, .int .i64 (s.next k).u1, .int .i64 (s.next k).u2, .int .i64 (s.next k).u3, .int .i64 (s.next k).u4], .int .i64 c, .bool true] := fun c => rfl
 by_cases hf0 : hadV lost k = -1
 ·by_cases hu : most ≤ s.u k
  ·rw [if_neg (by simp [hf0, hu])]; exact may_usesa sz wd kv dv mv AL cL lost most gw s k w hk hr hcl hlen hw hs hf0 hu
  ·rw [if_pos (by simp [hf0, hu]), hyes0]
   by_cases hc : 0 < s.d
   ·by_cases hc2 : (k : Int) = s.la
    ·rw [if_neg (fun h => h.2 hc2)]; exact may_same1a sz wd kv dv mv AL cL lost most gw s k w hk hr hcl hlen hw hs hf0 hu hc hc2
    ·rw [if_pos ⟨hc, hc2⟩]; exact may_chga sz wd kv dv mv AL cL lost most gw s k w hk hr hcl hlen hw hs hf0 hu hc hc2
   ·rw [if_neg (fun h => hc h.1)]; exact may_same0a sz wd kv dv mv AL cL lost most gw s k w hk hr hcl hlen hw hs hf0 hu hc
 ·by_cases hf : hadV lost k ≤ s.d
  ·rw [if_neg (by simp [hf0, hf])]; exact may_lost sz wd kv dv mv AL cL lost most gw s k w hk hr hcl hlen hw hs hf0 hf
  ·by_cases hu : most ≤ s.u k
   ·rw [if_neg (by simp [hf0, hf, hu])]; exact may_usesb sz wd kv dv mv AL cL lost most gw s k w hk hr hcl hlen hw hs hf0 hf hu
   ·rw [if_pos (by simp [hf0, hf, hu]), hyes0]
    by_cases hc : 0 < s.d
    ·by_cases hc2 : (k : Int) = s.la
     ·rw [if_neg (fun h => h.2 hc2)]; exact may_same1b sz wd kv dv mv AL cL lost most gw s k w hk hr hcl hlen hw hs hf0 hf hu hc hc2
     ·rw [if_pos ⟨hc, hc2⟩]; exact may_chgb sz wd kv dv mv AL cL lost most gw s k w hk hr hcl hlen hw hs hf0 hf hu hc hc2
    ·rw [if_neg (fun h => hc h.1)]; exact may_same0b sz wd kv dv mv AL cL lost most gw s k w hk hr hcl hlen hw hs hf0 hf hu hc
end Go.Proofs.Ytnidgkmopocdkaa.P
