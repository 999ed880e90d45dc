import Derived.Test.YtnidgkmopocdkaaA13HPoss
import Derived.Test.YtnidgkmopocdkaaA13HGuess
import Derived.Test.YtnidgkmopocdkaaA13P11
import Derived.Test.YtnidgkmopocdkaaA13HLoss
import Derived.Test.YtnidgkmopocdkaaA13HFew
import Derived.Test.YtnidgkmopocdkaaA13HAwake
import Derived.Deep.RegionHeld3
namespace Go.Proofs.Ytnidgkmopocdkaa.P
open Go.RowKit Go.Proofs.YtnidgkmopocdkaaW.PrintWords Go.Proofs.YtnidgkmopocdkaaW.PrintLast Go.Proofs.YtnidgkmopocdkaaW.PrintMore
set_option linter.unusedVariables false
set_option linter.unusedSimpArgs false
theorem Agrees_l0 {sz wd : Int} {keys : List S82} {days codes : List Int} {gs : List S85} (h : AskG sz codes (gs.map toG)) (hl : gs.length ≤ 100) (y : S82) : ∀ (d k i : Nat), i + d = gs.length → d < k → glisterref04_Agrees.l0 k codes gs (i : Int) sz wd keys days y.f0 y.f1 y.f2 = some (((gs.drop i).map toG).all (agreeB sz codes (toK y)))
 | 0, k, i, hd, hk => by
  obtain ⟨k, rfl, _⟩ := succ_of hk
  simp only [glisterref04_Agrees.l0]
  rw [if_neg (by omega), List.drop_eq_nil_of_le (by omega)]
  rfl
 | d + 1, k, i, hd, hk => by
  obtain ⟨k, rfl, _⟩ := succ_of hk
  have hi : i < gs.length := by omega
  have hz := h.sz
  have hg := h.gf (toG gs[i]) (List.mem_map_of_mem (List.getElem_mem hi))
  have ih := Agrees_l0 (wd := wd) (keys := keys) (days := days) h hl y d k (i + 1) (by omega) (by omega)
  rw [show (((i + 1 : Nat)) : Int) = (i : Int) + 1 by omega] at ih
  simp only [toG] at hg
  simp only [glisterref04_Agrees.l0]
  rw [if_pos (by omega), if_pos (by omega), rd85_at hi, codeOf_f _ _ _ _ _ _ _ (by omega), Option.bind_some, if_pos hg.1.1, if_pos hg.1.2, wrap_of (show -9223372036854775808 ≤ (i : Int) + 1 by omega) (by omega), ih, drop_at hi, List.map_cons, List.all_cons]
  by_cases e : codeV sz y.f0 y.f1 y.f2 gs[i].f1 gs[i].f0 = rd codes gs[i].f0
  ·rw [if_pos e, show agreeB sz codes (toK y) (toG gs[i]) = true from beq_iff_eq.2 e, Bool.true_and]
  ·rw [if_neg e, show agreeB sz codes (toK y) (toG gs[i]) = false from beq_eq_false_iff_ne.2 e, Bool.false_and]
theorem Agrees_f {k : Nat} {sz wd : Int} {keys : List S82} {days codes : List Int} {gs : List S85} (h : AskG sz codes (gs.map toG)) (hl : gs.length ≤ 100) (y : S82) (hk : 150 < k) : glisterref04_Agrees.f k sz wd keys days y.f0 y.f1 y.f2 codes gs = some ((gs.map toG).all (agreeB sz codes (toK y))) := by
 unfold glisterref04_Agrees.f
 have := Agrees_l0 (wd := wd) (keys := keys) (days := days) h hl y gs.length k 0 (by omega) (by omega)
 rw [List.drop_zero, show ((0 : Nat) : Int) = 0 from rfl] at this
 exact this
def rowR (sz : Int) (m a : Nat) : List S91 := (List.range sz.toNat).map fun s : Nat => ⟨(m : Int) + 1, (a : Int), (s : Int)⟩
def colR (sz : Int) (m : Nat) : List S91 := (List.range sz.toNat).flatMap (rowR sz m)
def allR (sz : Int) : List S91 := (List.range (sz - 1).toNat).flatMap (colR sz)
def preR (sz : Int) (m a s : Nat) : List S91 := (List.range m).flatMap (colR sz) ++ ((List.range a).flatMap (rowR sz m) ++ (List.range s).map fun s : Nat => ⟨(m : Int) + 1, (a : Int), (s : Int)⟩)
theorem preR_zero (sz : Int) : preR sz 0 0 0 = [] := rfl
theorem preR_next (sz : Int) (m a s : Nat) : preR sz m a (s + 1) = preR sz m a s ++ [⟨(m : Int) + 1, (a : Int), (s : Int)⟩] := by
 unfold preR
 rw [List.range_succ (n := s), List.map_append, List.append_assoc, List.append_assoc]
 rfl
theorem preR_row {sz : Int} (m a s : Nat) (h : s = sz.toNat) : preR sz m a s = preR sz m (a + 1) 0 := by
 subst h
 unfold preR
 rw [List.range_succ (n := a), List.flatMap_append]
 simp [rowR]
theorem preR_col {sz : Int} (m a : Nat) (h : a = sz.toNat) : preR sz m a 0 = preR sz (m + 1) 0 0 := by
 subst h
 unfold preR
 rw [List.range_succ (n := m), List.flatMap_append]
 simp [colR]
theorem preR_end {sz : Int} (m : Nat) (h : m = (sz - 1).toNat) : preR sz m 0 0 = allR sz := by
 subst h
 unfold preR allR
 simp
def agrR (sz : Int) (codes : List Int) (gs : List S88) (ks : List S91) : List S91 := ks.filter fun k => gs.all (agreeB sz codes k)
def seenR (sz : Int) (codes : List Int) (at_ : Int) (ks : List S91) : List Bool := ks.foldl (fun bs k => bs.set (decodeV sz k.f0 k.f1 k.f2 (rd codes at_) at_).toNat true) (List.replicate 41 false)
def stR (sz : Int) (codes : List Int) (gs : List S88) (at_ : Int) (ks : List S91) : List Bool := if inB at_ 0 ((codes.length : Int) - 1) = true then seenR sz codes at_ (agrR sz codes gs ks) else List.replicate 41 false
theorem seenR_len (sz : Int) (codes : List Int) (at_ : Int) (ks : List S91) : (seenR sz codes at_ ks).length = 41 := by
 unfold seenR
 have : ∀ (l : List S91) (bs : List Bool), (l.foldl (fun bs k => bs.set (decodeV sz k.f0 k.f1 k.f2 (rd codes at_) at_).toNat true) bs).length = bs.length := by
  intro l
  induction l with
  | nil => intro bs; rfl
  | cons k l ih => intro bs; rw [List.foldl_cons, ih, List.length_set]
 rw [this, List.length_replicate]
theorem stR_len (sz : Int) (codes : List Int) (gs : List S88) (at_ : Int) (ks : List S91) : (stR sz codes gs at_ ks).length = 41 := by
 unfold stR
 split
 ·exact seenR_len _ _ _ _
 ·exact List.length_replicate
theorem agr_yes {sz : Int} {codes : List Int} {gs : List S88} {ks : List S91} {k : S91} (h : gs.all (agreeB sz codes k) = true) : agrR sz codes gs (ks ++ [k]) = agrR sz codes gs ks ++ [k] := by
 unfold agrR
 rw [List.filter_append]
 simp [List.filter_cons, h]
theorem agr_no {sz : Int} {codes : List Int} {gs : List S88} {ks : List S91} {k : S91} (h : gs.all (agreeB sz codes k) = false) : agrR sz codes gs (ks ++ [k]) = agrR sz codes gs ks := by
 unfold agrR
 rw [List.filter_append]
 simp [List.filter_cons, h]
theorem stR_yes {sz : Int} {codes : List Int} {gs : List S88} {at_ : Int} {ks : List S91} {k : S91} (h : gs.all (agreeB sz codes k) = true) (ha : inB at_ 0 ((codes.length : Int) - 1) = true) : stR sz codes gs at_ (ks ++ [k]) = (stR sz codes gs at_ ks).set (decodeV sz k.f0 k.f1 k.f2 (rd codes at_) at_).toNat true := by
 unfold stR
 rw [if_pos ha, if_pos ha, agr_yes h]
 unfold seenR
 rw [List.foldl_append]
 rfl
theorem stR_out {sz : Int} {codes : List Int} {gs : List S88} {at_ : Int} {ks : List S91} {k : S91} (ha : inB at_ 0 ((codes.length : Int) - 1) = false) : stR sz codes gs at_ (ks ++ [k]) = stR sz codes gs at_ ks := by
 unfold stR
 rw [if_neg (by rw [ha]; decide), if_neg (by rw [ha]; decide)]
theorem stR_no {sz : Int} {codes : List Int} {gs : List S88} {at_ : Int} {ks : List S91} {k : S91} (h : gs.all (agreeB sz codes k) = false) : stR sz codes gs at_ (ks ++ [k]) = stR sz codes gs at_ ks := by
 unfold stR
 rw [agr_no h]
theorem pre_len (sz : Int) (m a s : Nat) : (preR sz m a s).length = m * (sz.toNat * sz.toNat) + (a * sz.toNat + s) := by
 have c : ∀ (n k : Nat) (f : Nat → List S91), (∀ i, (f i).length = k) → ((List.range n).flatMap f).length = n * k := by
  intro n k f hf
  induction n with
  | zero => simp
  | succ n ih => rw [List.range_succ, List.flatMap_append, List.length_append, ih, Nat.succ_mul]; simp [hf]
 have r : ∀ i j, (rowR sz i j).length = sz.toNat := by intro i j; simp [rowR]
 have l : ∀ i, (colR sz i).length = sz.toNat * sz.toNat := by intro i; unfold colR; exact c _ _ _ (r i)
 unfold preR
 rw [List.length_append, List.length_append, c _ _ _ l, c _ _ _ (r m), List.length_map, List.length_range]
theorem agr_bound {sz : Int} {codes : List Int} {gs : List S88} {m a s : Nat} (h : sz ≤ 41) (hm : (m : Int) ≤ 41) (ha : (a : Int) ≤ 41) (hs : (s : Int) ≤ 41) : ((agrR sz codes gs (preR sz m a s)).length : Int) ≤ 100000 := by
 have h1 : (agrR sz codes gs (preR sz m a s)).length ≤ (preR sz m a s).length := List.length_filter_le _ _
 rw [pre_len] at h1
 have h0 : sz.toNat ≤ 41 := by omega
 have h2 : sz.toNat * sz.toNat ≤ 41 * 41 := Nat.mul_le_mul h0 h0
 have h3 : m * (sz.toNat * sz.toNat) ≤ 41 * (41 * 41) := Nat.mul_le_mul (by omega) h2
 have h4 : a * sz.toNat ≤ 41 * 41 := Nat.mul_le_mul (by omega) h0
 omega
def refV (sz : Int) (codes : List Int) (gs : List S88) (at_ : Int) : Int × List Int := ((agrR sz codes gs (allR sz)).length, outTo (stR sz codes gs at_ (allR sz)) 41)
def glisterref04_Fits.f (a0_0 : Int) (a0_1 : Int) (l0_2 : List (S82)) (l0_3 : List Int) (l1 : List Int) (l2 : List (S85)) (a3 : Int) : Option (Int × List Int) := if askedV a0_0 a0_1 (l0_2.map toK) l0_3 l1 (l2.map toG) = 0 then some (refV a0_0 l1 (l2.map toG) a3) else none
theorem stR_nil (sz : Int) (codes : List Int) (gs : List S88) (at_ : Int) : stR sz codes gs at_ [] = List.replicate 41 false := by
 unfold stR
 split <;> rfl
theorem zeros41 : bcells (List.replicate 41 false) = #[.bool false, .bool false, .bool false, .bool false, .bool false, .bool false, .bool false, .bool false, .bool false, .bool false, .bool false, .bool false, .bool false, .bool false, .bool false, .bool false, .bool false, .bool false, .bool false, .bool false, .bool false, .bool false, .bool false, .bool false, .bool false, .bool false, .bool false, .bool false, .bool false, .bool false, .bool false, .bool false, .bool false, .bool false, .bool false, .bool false, .bool false, .bool false, .bool false, .bool false, .bool false] := rfl
set_option maxHeartbeats 8000000 in
set_option maxRecDepth 100000 in
theorem ref_run (a0_0 : Int) (a0_1 : Int) (A0_2 : Option Addr) (c0_2 : Nat) (l0_2 : List (S82)) (A0_3 : Option Addr) (c0_3 : Nat) (l0_3 : List Int) (A1 : Option Addr) (c1 : Nat) (l1 : List Int) (A2 : Option Addr) (c2 : Nat) (l2 : List (S85)) (a3 : Int) (w : World) (hr0_2 : Kd.C k82 w A0_2 l0_2.length l0_2) (hc0_2 : l0_2.length ≤ c0_2) (hr0_3 : Kd.C (Kd.int .i64) w A0_3 l0_3.length l0_3) (hc0_3 : l0_3.length ≤ c0_3) (hr1 : Kd.C (Kd.int .i64) w A1 l1.length l1) (hc1 : l1.length ≤ c1) (hr2 : Kd.C k85 w A2 l2.length l2) (hc2 : l2.length ≤ c2) (hA : askedV a0_0 a0_1 (l0_2.map toK) l0_3 l1 (l2.map toG) = 0) :
  Calls Try.prog 44 #[.agg #[.int .i64 a0_0, .int .i64 a0_1, .slice A0_2 l0_2.length c0_2, .slice A0_3 l0_3.length c0_3], .slice A1 l1.length c1, .slice A2 l2.length c2, .int .i64 a3] w fun e w' => ∃ v0_ : Value, e = .returned (.tuple #[.int .i64 (refV a0_0 l1 (l2.map toG) a3).1, v0_]) ∧ Kd.R (Kd.int .i64) 3 w' w.heap.size (fun _ => True) v0_ (refV a0_0 l1 (l2.map toG) a3).2 ∧ Below w.heap.size w w' := by
 have hu25 := Try.underlying25
 have hu131 := Try.underlying131
 have hu82 := Try.underlying82
 have HR0_2 := Sd.mk hr0_2
 have HC0_2 := Sd.mk hc0_2
 have HR0_3 := Sd.mk hr0_3
 have HC0_3 := Sd.mk hc0_3
 have HR1 := Sd.mk hr1
 have HC1 := Sd.mk hc1
 have HR2 := Sd.mk hr2
 have HC2 := Sd.mk hc2
 clear hr0_2 hc0_2 hr0_3 hc0_3 hr1 hc1 hr2 hc2
 have HB := Sd.mk (Below.refl w.heap.size w)
 have HAG := Sd.mk (ask_of hA).1
 have HGL := Sd.mk (show l2.length ≤ 6 from by have := (ask_of hA).2; rw [List.length_map] at this; exact this)
 have HSZ := Sd.mk HAG.1.sz
 have HCL := Sd.mk HAG.1.cl
 clear hA
 go_enter Try.func44, Try.ntmps44
 go_wp2_with (first | ((with_reducible refine gD (N := 4) rfl ?_); (try (refine gG (by rfl) ?_; dsimp only)); refine xE ?hg (N := 4) ?hd (cs := #[.int .i64 a0_0, .int .i64 a0_1, .slice A0_2 l0_2.length c0_2, .slice A0_3 l0_3.length c0_3]) (t := 25) ?hr ?_; (case hd => rfl); (case hg => rfl); (case hr => first | (go_simp; done) ); intro gb hg w1 hbox hb; have BKgb := Sd.mk hbox; have GEgb := Sd.mk ((by rw [hg]; exact (bZ (by repeat (first | (with_reducible first | exact HB.1 ) )))) : w.heap.size ≤ gb); replace HB := Sd.mk (bT (by repeat (first | (with_reducible first | exact HB.1 ) )) hb); clear hb hbox hg) | ((with_reducible refine gD (N := 11) rfl ?_); (try (refine gG (by rfl) ?_; dsimp only)); refine xE ?hg (N := 11) ?hd (cs := #[.bool false, .bool false, .bool false, .bool false, .bool false, .bool false, .bool false, .bool false, .bool false, .bool false, .bool false, .bool false, .bool false, .bool false, .bool false, .bool false, .bool false, .bool false, .bool false, .bool false, .bool false, .bool false, .bool false, .bool false, .bool false, .bool false, .bool false, .bool false, .bool false, .bool false, .bool false, .bool false, .bool false, .bool false, .bool false, .bool false, .bool false, .bool false, .bool false, .bool false, .bool false]) (t := 131) ?hr ?_; (case hd => rfl); (case hg => rfl); (case hr => first | (go_simp; done) ); intro gs hg w2 hbox hb; have n0_ := Sd.mk (bT (by repeat (first | (with_reducible first | exact HB.1 ) )) hb); have n1_ := Sd.mk hbox; have n2_ := Sd.mk ((by rw [hg]; exact (bZ (by repeat (first | (with_reducible first | exact HB.1 ) )))) : w.heap.size ≤ gs); have m0_ := Sd.mk (kB (by (with_reducible repeat (fail)); exact BKgb.1) hb); have NEgbgs := Sd.mk (by rw [hg]; exact Nat.ne_of_lt (blk_lt (by (with_reducible repeat (fail)); exact BKgb.1)) : gb ≠ gs); clear HB; have HB := n0_; have BKgs := n1_; have GEgs := n2_; clear n0_ n1_ n2_; clear BKgb; have BKgb := m0_; clear m0_; clear hb hbox hg) | ((with_reducible refine gD (N := 12) rfl ?_); (try (refine gG (by rfl) ?_; dsimp only)); refine xE ?hg (N := 12) ?hd (cs := #[.int .i64 0, .int .i64 0, .int .i64 0]) (t := 82) ?hr ?_; (case hd => rfl); (case hg => rfl); (case hr => first | (go_simp; done) ); intro gy hg w3 hbox hb; have n0_ := Sd.mk (bT (by repeat (first | (with_reducible first | exact HB.1 ) )) hb); have n1_ := Sd.mk hbox; have n2_ := Sd.mk ((by rw [hg]; exact (bZ (by repeat (first | (with_reducible first | exact HB.1 ) )))) : w.heap.size ≤ gy); have m0_ := Sd.mk (kB (by (with_reducible repeat (fail)); exact BKgb.1) hb); have m1_ := Sd.mk (kB (by (with_reducible repeat (fail)); exact BKgs.1) hb); have NEgbgy := Sd.mk (by rw [hg]; exact Nat.ne_of_lt (blk_lt (by (with_reducible repeat (fail)); exact BKgb.1)) : gb ≠ gy); have NEgsgy := Sd.mk (by rw [hg]; exact Nat.ne_of_lt (blk_lt (by (with_reducible repeat (fail)); exact BKgs.1)) : gs ≠ gy); clear HB; have HB := n0_; have BKgy := n1_; have GEgy := n2_; clear n0_ n1_ n2_; clear BKgb; have BKgb := m0_; clear m0_; clear BKgs; have BKgs := m1_; clear m1_; clear hb hbox hg; have z_w3gy_0 : w3.cell? ⟨gy, 0, none⟩ = some (.int .i64 0) := (kC BKgy.1 0).trans rfl; have hfzw3gy_0 := kF BKgy.1 0) | ((with_reducible refine gate_store (t := 3) (p := 15) rfl ?_); refine store_event (t := 3) (p := 15) (v := ?vo) (w1 := ?w1) ?hg ?ho ?hn ?hr ?_; (case ho => rfl); (case hg => rfl); (case hn => rfl); (case hr => first | (go_simp; rfl)); intro w11 hw_; have m0_ : Sd (w11.heap[gy]? = some (.cells #[.int .i64 1, .int .i64 0, .int .i64 0] 82 (0, 0))) := ⟨by rw [hw_]; exact blk_put (by (with_reducible repeat (fail)); exact BKgy.1) 0 _ rfl⟩; have m1_ : Sd (w11.heap[gb]? = some (.cells #[.int .i64 a0_0, .int .i64 a0_1, .slice A0_2 l0_2.length c0_2, .slice A0_3 l0_3.length c0_3] 25 (0, 0))) := ⟨by rw [hw_]; exact blk_far (p := ⟨gy, 0, none⟩) (by (with_reducible repeat (fail)); exact BKgb.1) NEgbgy.1 _⟩; have m2_ : Sd (w11.heap[gs]? = some (.cells (#[.bool false, .bool false, .bool false, .bool false, .bool false, .bool false, .bool false, .bool false, .bool false, .bool false, .bool false, .bool false, .bool false, .bool false, .bool false, .bool false, .bool false, .bool false, .bool false, .bool false, .bool false, .bool false, .bool false, .bool false, .bool false, .bool false, .bool false, .bool false, .bool false, .bool false, .bool false, .bool false, .bool false, .bool false, .bool false, .bool false, .bool false, .bool false, .bool false, .bool false, .bool false]) 131 (0, 0))) := ⟨by rw [hw_]; exact blk_far (p := ⟨gy, 0, none⟩) (by (with_reducible repeat (fail)); exact BKgs.1) NEgsgy.1 _⟩; have m9_ : Sd (Below w.heap.size w w11) := ⟨by rw [hw_]; exact bS (by repeat (first | (with_reducible first | exact HB.1 ) )) GEgy.1⟩; clear hw_; clear BKgy BKgb BKgs HB; have BKgy := m0_; have BKgb := m1_; have BKgs := m2_; have HB := m9_; clear m0_ m1_ m2_ m9_))
 have ez0 : bcells (stR a0_0 l1 (l2.map toG) a3 (preR a0_0 0 0 0)) = #[.bool false, .bool false, .bool false, .bool false, .bool false, .bool false, .bool false, .bool false, .bool false, .bool false, .bool false, .bool false, .bool false, .bool false, .bool false, .bool false, .bool false, .bool false, .bool false, .bool false, .bool false, .bool false, .bool false, .bool false, .bool false, .bool false, .bool false, .bool false, .bool false, .bool false, .bool false, .bool false, .bool false, .bool false, .bool false, .bool false, .bool false, .bool false, .bool false, .bool false, .bool false] := by rw [preR_zero, stR_nil, zeros41]
 rw [← ez0] at BKgs
 clear ez0
 go_loopg [10] (a0_0.toNat) (fun kq v10 wr => ∃ (m : Nat) (u1 u2 : Value), kq = a0_0.toNat - m ∧ (m : Int) ≤ a0_0 - 1 ∧ v10 = .int .i64 ((agrR a0_0 l1 (l2.map toG) (preR a0_0 m 0 0)).length : Int) ∧ Sd (wr.heap[gy]? = some (.cells #[.int .i64 ((m : Int) + 1), u1, u2] 82 (0, 0))) ∧ Sd (wr.heap[gs]? = some (.cells (bcells (stR a0_0 l1 (l2.map toG) a3 (preR a0_0 m 0 0))) 131 (0, 0))) ∧ Sd (wr.heap[gb]? = some (.cells #[.int .i64 a0_0, .int .i64 a0_1, .slice A0_2 l0_2.length c0_2, .slice A0_3 l0_3.length c0_3] 25 (0, 0))) ∧ Sd (Below w.heap.size w wr))
 case atStart => exact ⟨0, _, _, by omega, by have := HSZ.1; omega, rfl, BKgy, BKgs, BKgb, HB⟩
 case round =>
  clear BKgy BKgs BKgb HB
  obtain ⟨m, u1, u2, hq1, hm, rfl, BKgy, BKgs, BKgb, HB⟩ := hrel
  have hz0 := HSZ.1.1
  have hz1 := HSZ.1.2
  by_cases c1 : (m : Int) + 1 < a0_0
  ·have hczrb_0 : wr.cell? ⟨gb, 0, none⟩ = some (.int .i64 a0_0) := (kC BKgb.1 0).trans rfl
   have hczrb_1 : wr.cell? ⟨gb, 1, none⟩ = some (.int .i64 a0_1) := (kC BKgb.1 1).trans rfl
   have hczrb_2 : wr.cell? ⟨gb, 2, none⟩ = some (.slice A0_2 l0_2.length c0_2) := (kC BKgb.1 2).trans rfl
   have hczrb_3 : wr.cell? ⟨gb, 3, none⟩ = some (.slice A0_3 l0_3.length c0_3) := (kC BKgb.1 3).trans rfl
   have hczry_0 : wr.cell? ⟨gy, 0, none⟩ = some (.int .i64 ((m : Int) + 1)) := (kC BKgy.1 0).trans rfl
   have hfzry_0 := kF BKgy.1 0
   have hczry_1 : wr.cell? ⟨gy, 1, none⟩ = some (u1) := (kC BKgy.1 1).trans rfl
   have hfzry_1 := kF BKgy.1 1
   have hczry_2 : wr.cell? ⟨gy, 2, none⟩ = some (u2) := (kC BKgy.1 2).trans rfl
   have hfzry_2 := kF BKgy.1 2
   go_wp2
   go_loopg [10] (a0_0.toNat) (fun kq v10 wr => ∃ (a : Nat) (u2 : Value), kq = a0_0.toNat - a ∧ (a : Int) ≤ a0_0 ∧ v10 = .int .i64 ((agrR a0_0 l1 (l2.map toG) (preR a0_0 m a 0)).length : Int) ∧ Sd (wr.heap[gy]? = some (.cells #[.int .i64 ((m : Int) + 1), .int .i64 (a : Int), u2] 82 (0, 0))) ∧ Sd (wr.heap[gs]? = some (.cells (bcells (stR a0_0 l1 (l2.map toG) a3 (preR a0_0 m a 0))) 131 (0, 0))) ∧ Sd (wr.heap[gb]? = some (.cells #[.int .i64 a0_0, .int .i64 a0_1, .slice A0_2 l0_2.length c0_2, .slice A0_3 l0_3.length c0_3] 25 (0, 0))) ∧ Sd (Below w.heap.size w wr))
   case atStart => exact ⟨0, _, by omega, by omega, rfl, ⟨blk_put BKgy.1 1 _ rfl⟩, ⟨blk_far (p := ⟨gy, 1, none⟩) BKgs.1 NEgsgy.1 _⟩, ⟨blk_far (p := ⟨gy, 1, none⟩) BKgb.1 NEgbgy.1 _⟩, ⟨bS HB.1 GEgy.1⟩⟩
   case round =>
    clear BKgy BKgs BKgb HB
    obtain ⟨a, u2, hq2, ha, rfl, BKgy, BKgs, BKgb, HB⟩ := hrel
    by_cases c2 : (a : Int) < a0_0
    ·have hczrb_0 : wr.cell? ⟨gb, 0, none⟩ = some (.int .i64 a0_0) := (kC BKgb.1 0).trans rfl
     have hczrb_1 : wr.cell? ⟨gb, 1, none⟩ = some (.int .i64 a0_1) := (kC BKgb.1 1).trans rfl
     have hczrb_2 : wr.cell? ⟨gb, 2, none⟩ = some (.slice A0_2 l0_2.length c0_2) := (kC BKgb.1 2).trans rfl
     have hczrb_3 : wr.cell? ⟨gb, 3, none⟩ = some (.slice A0_3 l0_3.length c0_3) := (kC BKgb.1 3).trans rfl
     have hczry_0 : wr.cell? ⟨gy, 0, none⟩ = some (.int .i64 ((m : Int) + 1)) := (kC BKgy.1 0).trans rfl
     have hfzry_0 := kF BKgy.1 0
     have hczry_1 : wr.cell? ⟨gy, 1, none⟩ = some (.int .i64 (a : Int)) := (kC BKgy.1 1).trans rfl
     have hfzry_1 := kF BKgy.1 1
     have hczry_2 : wr.cell? ⟨gy, 2, none⟩ = some (u2) := (kC BKgy.1 2).trans rfl
     have hfzry_2 := kF BKgy.1 2
     go_wp2
     go_loopg [10] (a0_0.toNat) (fun kq v10 wr => ∃ (s : Nat), kq = a0_0.toNat - s ∧ (s : Int) ≤ a0_0 ∧ v10 = .int .i64 ((agrR a0_0 l1 (l2.map toG) (preR a0_0 m a s)).length : Int) ∧ Sd (wr.heap[gy]? = some (.cells #[.int .i64 ((m : Int) + 1), .int .i64 (a : Int), .int .i64 (s : Int)] 82 (0, 0))) ∧ Sd (wr.heap[gs]? = some (.cells (bcells (stR a0_0 l1 (l2.map toG) a3 (preR a0_0 m a s))) 131 (0, 0))) ∧ Sd (wr.heap[gb]? = some (.cells #[.int .i64 a0_0, .int .i64 a0_1, .slice A0_2 l0_2.length c0_2, .slice A0_3 l0_3.length c0_3] 25 (0, 0))) ∧ Sd (Below w.heap.size w wr))
     case atStart => exact ⟨0, by omega, by omega, rfl, ⟨blk_put BKgy.1 2 _ rfl⟩, ⟨blk_far (p := ⟨gy, 2, none⟩) BKgs.1 NEgsgy.1 _⟩, ⟨blk_far (p := ⟨gy, 2, none⟩) BKgb.1 NEgbgy.1 _⟩, ⟨bS HB.1 GEgy.1⟩⟩
     case round =>
      clear BKgy BKgs BKgb HB
      obtain ⟨s, hq3, hs, rfl, BKgy, BKgs, BKgb, HB⟩ := hrel
      by_cases c3 : (s : Int) < a0_0
      ·have hczrb_0 : wr.cell? ⟨gb, 0, none⟩ = some (.int .i64 a0_0) := (kC BKgb.1 0).trans rfl
       have hczrb_1 : wr.cell? ⟨gb, 1, none⟩ = some (.int .i64 a0_1) := (kC BKgb.1 1).trans rfl
       have hczrb_2 : wr.cell? ⟨gb, 2, none⟩ = some (.slice A0_2 l0_2.length c0_2) := (kC BKgb.1 2).trans rfl
       have hczrb_3 : wr.cell? ⟨gb, 3, none⟩ = some (.slice A0_3 l0_3.length c0_3) := (kC BKgb.1 3).trans rfl
       have hczry_0 : wr.cell? ⟨gy, 0, none⟩ = some (.int .i64 ((m : Int) + 1)) := (kC BKgy.1 0).trans rfl
       have hfzry_0 := kF BKgy.1 0
       have hczry_1 : wr.cell? ⟨gy, 1, none⟩ = some (.int .i64 (a : Int)) := (kC BKgy.1 1).trans rfl
       have hfzry_1 := kF BKgy.1 1
       have hczry_2 : wr.cell? ⟨gy, 2, none⟩ = some (.int .i64 (s : Int)) := (kC BKgy.1 2).trans rfl
       have hfzry_2 := kF BKgy.1 2
       have HAG0 := Sd.mk (Agrees_f (k := 200) (wd := a0_1) (keys := l0_2) (days := l0_3) HAG.1 (by have := HGL.1; omega) (⟨(m : Int) + 1, (a : Int), (s : Int)⟩ : S82) (by omega))
       have HE := Sd.mk (preR_next a0_0 m a s)
       have hl1 := HCL.1
       cases hB : (l2.map toG).all (agreeB a0_0 l1 (⟨(m : Int) + 1, (a : Int), (s : Int)⟩ : S91)) with
       | false =>
        have HBB := Sd.mk hB
        have HAF := Sd.mk (show glisterref04_Agrees.f 200 a0_0 a0_1 l0_2 l0_3 ((m : Int) + 1) (a : Int) (s : Int) l1 l2 = some false from HAG0.1.trans (congrArg some hB))
        clear hB
        go_wp2_with (first | (go_at_call 82; refine (glisterref04_Agrees.calls 200 a0_0 a0_1 _ _ l0_2 _ _ l0_3 ((m : Int) + 1) (a : Int) (s : Int) _ _ l1 _ _ l2 _ _ (Kd.C_below HR0_2.1 (by repeat (first | (with_reducible first | exact HB.1 ) ))) HC0_2.1 (Kd.C_below HR0_3.1 (by repeat (first | (with_reducible first | exact HB.1 ) ))) HC0_3.1 (Kd.C_below HR1.1 (by repeat (first | (with_reducible first | exact HB.1 ) ))) HC1.1 (Kd.C_below HR2.1 (by repeat (first | (with_reducible first | exact HB.1 ) ))) HC2.1 HAF.1).mono ?_; rintro e w8 ⟨rfl, hb⟩; have n0_ := Sd.mk (bT (by repeat (first | (with_reducible first | exact HB.1 ) )) hb); have m0_ := Sd.mk (kB (by (with_reducible repeat (fail)); exact BKgb.1) hb); have m1_ := Sd.mk (kB (by (with_reducible repeat (fail)); exact BKgs.1) hb); have m2_ := Sd.mk (kB (by (with_reducible repeat (fail)); exact BKgy.1) hb); clear HB; have HB := n0_; clear n0_; clear BKgb; have BKgb := m0_; clear m0_; clear BKgs; have BKgs := m1_; clear m1_; clear BKgy; have BKgy := m2_; clear m2_; clear hb; have z_w8gy_2 : w8.cell? ⟨gy, 2, none⟩ = some (.int .i64 (s : Int)) := (kC BKgy.1 2).trans rfl; have hfzw8gy_2 := kF BKgy.1 2))
        go_roundg (a0_0.toNat - (s + 1))
        case measure => omega
        case rel => exact ⟨s + 1, rfl, by omega, by rw [HE.1, agr_no HBB.1], ⟨blk_put BKgy.1 2 _ rfl⟩, ⟨by rw [HE.1, stR_no HBB.1]; exact blk_far (p := ⟨gy, 2, none⟩) BKgs.1 NEgsgy.1 _⟩, ⟨blk_far (p := ⟨gy, 2, none⟩) BKgb.1 NEgbgy.1 _⟩, ⟨bS HB.1 GEgy.1⟩⟩
       | true =>
        have HBB := Sd.mk hB
        have HAF := Sd.mk (show glisterref04_Agrees.f 200 a0_0 a0_1 l0_2 l0_3 ((m : Int) + 1) (a : Int) (s : Int) l1 l2 = some true from HAG0.1.trans (congrArg some hB))
        clear hB
        have hmb := agr_bound (sz := a0_0) (codes := l1) (gs := (l2.map toG)) (m := m) (a := a) (s := s) hz1 (by omega) (by omega) (by omega)
        cases hI : inB a3 0 ((l1.length : Int) - 1) with
        | false =>
         have HII := Sd.mk hI
         have HIF := Sd.mk (show glisterref04_In.f a3 0 ((l1.length : Int) - 1) = some false from (In_f _ _ _).trans (congrArg some hI))
         clear hI
         go_wp2_with (first | (go_at_call 82; refine (glisterref04_Agrees.calls 200 a0_0 a0_1 _ _ l0_2 _ _ l0_3 ((m : Int) + 1) (a : Int) (s : Int) _ _ l1 _ _ l2 _ _ (Kd.C_below HR0_2.1 (by repeat (first | (with_reducible first | exact HB.1 ) ))) HC0_2.1 (Kd.C_below HR0_3.1 (by repeat (first | (with_reducible first | exact HB.1 ) ))) HC0_3.1 (Kd.C_below HR1.1 (by repeat (first | (with_reducible first | exact HB.1 ) ))) HC1.1 (Kd.C_below HR2.1 (by repeat (first | (with_reducible first | exact HB.1 ) ))) HC2.1 HAF.1).mono ?_; rintro e w8 ⟨rfl, hb⟩; have n0_ := Sd.mk (bT (by repeat (first | (with_reducible first | exact HB.1 ) )) hb); have m0_ := Sd.mk (kB (by (with_reducible repeat (fail)); exact BKgb.1) hb); have m1_ := Sd.mk (kB (by (with_reducible repeat (fail)); exact BKgs.1) hb); have m2_ := Sd.mk (kB (by (with_reducible repeat (fail)); exact BKgy.1) hb); clear HB; have HB := n0_; clear n0_; clear BKgb; have BKgb := m0_; clear m0_; clear BKgs; have BKgs := m1_; clear m1_; clear BKgy; have BKgy := m2_; clear m2_; clear hb; have z_w8gy_2 : w8.cell? ⟨gy, 2, none⟩ = some (.int .i64 (s : Int)) := (kC BKgy.1 2).trans rfl; have hfzw8gy_2 := kF BKgy.1 2) | (go_at_call 23; (with_reducible refine (glisterref04_In.calls _ _ _ _ _ HIF.1).mono ?_); rintro e w9 ⟨rfl, hd9⟩; have hb : Below w8.heap.size w8 w9 := (by (obtain ⟨nd, e_⟩ := hd9; rw [e_]; exact bN (Below.refl _ _) _)); clear hd9; have n0_ := Sd.mk (bT (by repeat (first | (with_reducible first | exact HB.1 ) )) hb); have m0_ := Sd.mk (kB (by (with_reducible repeat (fail)); exact BKgb.1) hb); have m1_ := Sd.mk (kB (by (with_reducible repeat (fail)); exact BKgs.1) hb); have m2_ := Sd.mk (kB (by (with_reducible repeat (fail)); exact BKgy.1) hb); clear HB; have HB := n0_; clear n0_; clear BKgb; have BKgb := m0_; clear m0_; clear BKgs; have BKgs := m1_; clear m1_; clear BKgy; have BKgy := m2_; clear m2_; clear hb; have z_w9gy_2 : w9.cell? ⟨gy, 2, none⟩ = some (.int .i64 (s : Int)) := (kC BKgy.1 2).trans rfl; have hfzw9gy_2 := kF BKgy.1 2))
         go_roundg (a0_0.toNat - (s + 1))
         case measure => omega
         case rel => exact ⟨s + 1, rfl, by omega, by rw [HE.1, agr_yes HBB.1, List.length_append]; go_num, ⟨blk_put BKgy.1 2 _ rfl⟩, ⟨by rw [HE.1, stR_out HII.1]; exact blk_far (p := ⟨gy, 2, none⟩) BKgs.1 NEgsgy.1 _⟩, ⟨blk_far (p := ⟨gy, 2, none⟩) BKgb.1 NEgbgy.1 _⟩, ⟨bS HB.1 GEgy.1⟩⟩
        | true =>
         have HII := Sd.mk hI
         have HIF := Sd.mk (show glisterref04_In.f a3 0 ((l1.length : Int) - 1) = some true from (In_f _ _ _).trans (congrArg some hI))
         have HAT := Sd.mk (show 0 ≤ a3 ∧ a3 < (l1.length : Int) from by have := inB_iff.1 hI; omega)
         clear hI
         obtain ⟨ad, e', hx⟩ := Kd.at_int HR1.1 a3 HAT.1.1 HAT.1.2
         cases e'
         have HX := Sd.mk hx
         clear hx
         have HPL := Sd.mk (show 0 ≤ rd l1 a3 ∧ rd l1 a3 < a0_0 from HAG.1.cp _ (by
          obtain ⟨k, rfl⟩ : ∃ k : Nat, a3 = (k : Int) := ⟨a3.toNat, by have := HAT.1; omega⟩
          rw [show rd l1 (k : Int) = l1[k]'(by have := HAT.1; omega) from getD_at l1 _ k (by have := HAT.1; omega)]
          exact List.getElem_mem _))
         have HMF := Sd.mk (Means_f (k := 100) (wd := a0_1) (keys := l0_2) (days := l0_3) (y := (⟨(m : Int) + 1, (a : Int), (s : Int)⟩ : S82)) HAG.1.pr (show KeyOk a0_0 (⟨(m : Int) + 1, (a : Int), (s : Int)⟩ : S91) from ⟨by show 1 ≤ (m : Int) + 1; omega, by show (m : Int) + 1 ≤ a0_0 - 1; omega, by show 0 ≤ (a : Int); omega, by show (a : Int) ≤ a0_0 - 1; omega, by show 0 ≤ (s : Int); omega, by show (s : Int) ≤ a0_0 - 1; omega⟩) HPL.1 (show 0 ≤ a3 ∧ a3 ≤ 1000 from by have := HAT.1; omega) (by omega))
         have HDV := Sd.mk (show 0 ≤ (decodeV a0_0 ((m : Int) + 1) (a : Int) (s : Int) (rd l1 a3) a3) ∧ (decodeV a0_0 ((m : Int) + 1) (a : Int) (s : Int) (rd l1 a3) a3) < 41 from by
          have := (decodeV_eq (y := (⟨(m : Int) + 1, (a : Int), (s : Int)⟩ : S91)) HAG.1.pr (show KeyOk a0_0 (⟨(m : Int) + 1, (a : Int), (s : Int)⟩ : S91) from ⟨by show 1 ≤ (m : Int) + 1; omega, by show (m : Int) + 1 ≤ a0_0 - 1; omega, by show 0 ≤ (a : Int); omega, by show (a : Int) ≤ a0_0 - 1; omega, by show 0 ≤ (s : Int); omega, by show (s : Int) ≤ a0_0 - 1; omega⟩) HPL.1 (show 0 ≤ a3 ∧ a3 ≤ 1000 from by have := HAT.1; omega)).2
          exact ⟨this.1, Int.lt_of_lt_of_le (show (decodeV a0_0 ((m : Int) + 1) (a : Int) (s : Int) (rd l1 a3) a3) < a0_0 from this.2) hz1⟩)
         go_wp2_with (first | (go_at_call 82; refine (glisterref04_Agrees.calls 200 a0_0 a0_1 _ _ l0_2 _ _ l0_3 ((m : Int) + 1) (a : Int) (s : Int) _ _ l1 _ _ l2 _ _ (Kd.C_below HR0_2.1 (by repeat (first | (with_reducible first | exact HB.1 ) ))) HC0_2.1 (Kd.C_below HR0_3.1 (by repeat (first | (with_reducible first | exact HB.1 ) ))) HC0_3.1 (Kd.C_below HR1.1 (by repeat (first | (with_reducible first | exact HB.1 ) ))) HC1.1 (Kd.C_below HR2.1 (by repeat (first | (with_reducible first | exact HB.1 ) ))) HC2.1 HAF.1).mono ?_; rintro e w8 ⟨rfl, hb⟩; have n0_ := Sd.mk (bT (by repeat (first | (with_reducible first | exact HB.1 ) )) hb); have m0_ := Sd.mk (kB (by (with_reducible repeat (fail)); exact BKgb.1) hb); have m1_ := Sd.mk (kB (by (with_reducible repeat (fail)); exact BKgs.1) hb); have m2_ := Sd.mk (kB (by (with_reducible repeat (fail)); exact BKgy.1) hb); clear HB; have HB := n0_; clear n0_; clear BKgb; have BKgb := m0_; clear m0_; clear BKgs; have BKgs := m1_; clear m1_; clear BKgy; have BKgy := m2_; clear m2_; clear hb; have z_w8gy_2 : w8.cell? ⟨gy, 2, none⟩ = some (.int .i64 (s : Int)) := (kC BKgy.1 2).trans rfl; have hfzw8gy_2 := kF BKgy.1 2) | (go_at_call 23; (with_reducible refine (glisterref04_In.calls _ _ _ _ _ HIF.1).mono ?_); rintro e w9 ⟨rfl, hd9⟩; have hb : Below w8.heap.size w8 w9 := (by (obtain ⟨nd, e_⟩ := hd9; rw [e_]; exact bN (Below.refl _ _) _)); clear hd9; have n0_ := Sd.mk (bT (by repeat (first | (with_reducible first | exact HB.1 ) )) hb); have m0_ := Sd.mk (kB (by (with_reducible repeat (fail)); exact BKgb.1) hb); have m1_ := Sd.mk (kB (by (with_reducible repeat (fail)); exact BKgs.1) hb); have m2_ := Sd.mk (kB (by (with_reducible repeat (fail)); exact BKgy.1) hb); clear HB; have HB := n0_; clear n0_; clear BKgb; have BKgb := m0_; clear m0_; clear BKgs; have BKgs := m1_; clear m1_; clear BKgy; have BKgy := m2_; clear m2_; clear hb; have z_w9gy_2 : w9.cell? ⟨gy, 2, none⟩ = some (.int .i64 (s : Int)) := (kC BKgy.1 2).trans rfl; have hfzw9gy_2 := kF BKgy.1 2))
         have j0 := kD BKgs.1
         have j1 := kD BKgb.1
         have j4 := kD BKgy.1
         have j5 := below_drew HB.1
         have p1 := eq_true HDV.1.1
         have p2 := eq_true HDV.1.2
         have p3 := eq_true HAT.1.1
         have p4 := eq_true HAT.1.2
         refine start_ (n := 10) (S := fun w' => w'.cell? ⟨gb, 0, none⟩ = some (.int .i64 a0_0) ∧ w'.cell? ⟨gb, 1, none⟩ = some (.int .i64 a0_1) ∧ w'.cell? ⟨gb, 2, none⟩ = some (.slice A0_2 l0_2.length c0_2) ∧ w'.cell? ⟨gb, 3, none⟩ = some (.slice A0_3 l0_3.length c0_3) ∧ w'.cell? ⟨gy, 0, none⟩ = some (.int .i64 ((m : Int) + 1)) ∧ w'.cell? ⟨gy, 1, none⟩ = some (.int .i64 (a : Int)) ∧ w'.cell? ⟨gy, 2, none⟩ = some (.int .i64 (s : Int)) ∧ w'.cell? (ad.add a3.toNat) = some (.int .i64 (rd l1 a3))) (ds := [9]) #[false, false, false, false, false, false, false, false, false, false] (by kernel_rfl) rfl rfl ⟨(kC j1 0).trans rfl, (kC j1 1).trans rfl, (kC j1 2).trans rfl, (kC j1 3).trans rfl, (kC j4 0).trans rfl, (kC j4 1).trans rfl, (kC j4 2).trans rfl, (j5.cell (World.block_lt_of_cell? w _ HX.1)).trans HX.1⟩ (fun hHeld => ?_)
         refine take_ (i := 0) (N := some 58) (v := ?_) (a' := ?_) #[true, false, false, false, false, false, false, false, false, false] rfl rfl (by kernel_rfl) (fun _ _ _ h => h) (Or.inl ⟨by rfl, ?_⟩) hHeld ?_ ?_
         rotate_left
         ·rintro w' ⟨s0, s1, s2, s3, s4, s5, s6, s7⟩
          go_simp
          with_reducible rfl
         rotate_left
         ·simp only [Act.put, List.setIfInBounds_toArray, List.set_cons_zero, List.set_cons_succ, i64_w, i32_w]
          rfl
         refine take_ (i := 1) (N := some 59) (v := ?_) (a' := ?_) #[true, true, false, false, false, false, false, false, false, false] rfl rfl (by kernel_rfl) (fun _ _ _ h => h) (Or.inl ⟨by rfl, ?_⟩) hHeld ?_ ?_
         rotate_left
         ·rintro w' ⟨s0, s1, s2, s3, s4, s5, s6, s7⟩
          go_simp
          with_reducible rfl
         rotate_left
         ·simp only [Act.put, List.setIfInBounds_toArray, List.set_cons_zero, List.set_cons_succ, i64_w, i32_w]
          rfl
         refine pure_ (i := 2) (N := some 60) (v := ?_) (a' := ?_) #[true, true, true, false, false, false, false, false, false, false] rfl rfl (by kernel_rfl) (fun _ _ _ h => h) (Or.inl ⟨by rfl, ?_⟩) ?_ ?_
         rotate_left
         ·intro w'
          go_simp
          with_reducible rfl
         rotate_left
         ·simp only [Act.put, List.setIfInBounds_toArray, List.set_cons_zero, List.set_cons_succ, i64_w, i32_w]
          rfl
         refine pure_ (i := 3) (N := some 61) (v := ?_) (a' := ?_) #[true, true, true, true, false, false, false, false, false, false] rfl rfl (by kernel_rfl) (fun _ _ _ h => h) (Or.inl ⟨by rfl, ?_⟩) ?_ ?_
         rotate_left
         ·intro w'
          go_simp
          with_reducible rfl
         rotate_left
         ·simp only [Act.put, List.setIfInBounds_toArray, List.set_cons_zero, List.set_cons_succ, i64_w, i32_w]
          rfl
         refine pure_ (i := 4) (N := some 62) (v := ?_) (a' := ?_) #[true, true, true, true, true, false, false, false, false, false] rfl rfl (by kernel_rfl) (fun _ _ _ h => h) (Or.inl ⟨by rfl, ?_⟩) ?_ ?_
         rotate_left
         ·intro w'
          go_simp
          with_reducible rfl
         rotate_left
         ·simp only [Act.put, List.setIfInBounds_toArray, List.set_cons_zero, List.set_cons_succ, i64_w, i32_w]
          rfl
         refine take_ (i := 5) (N := some 63) (v := ?_) (a' := ?_) #[true, true, true, true, true, true, false, false, false, false] rfl rfl (by kernel_rfl) (fun _ _ _ h => h) (Or.inl ⟨by rfl, ?_⟩) hHeld ?_ ?_
         rotate_left
         ·rintro w' ⟨s0, s1, s2, s3, s4, s5, s6, s7⟩
          go_simp
          with_reducible rfl
         rotate_left
         ·simp only [Act.put, List.setIfInBounds_toArray, List.set_cons_zero, List.set_cons_succ, i64_w, i32_w]
          rfl
         refine pure_ (i := 6) (N := some 64) (v := ?_) (a' := ?_) #[true, true, true, true, true, true, true, false, false, false] rfl rfl (by kernel_rfl) (fun _ _ _ h => h) (Or.inl ⟨by rfl, ?_⟩) ?_ ?_
         rotate_left
         ·intro w'
          go_simp
          with_reducible rfl
         rotate_left
         ·simp only [Act.put, List.setIfInBounds_toArray, List.set_cons_zero, List.set_cons_succ, i64_w, i32_w]
          rfl
         refine one_ (i := 7) (N := some 65) #[true, true, true, true, true, true, true, true, false, false] rfl rfl (by kernel_rfl) (by decide) (fun K hK => ?_)
         refine goes_ Try.func70 (by kernel_rfl) rfl #[.agg #[.int .i64 a0_0, .int .i64 a0_1, .slice A0_2 l0_2.length c0_2, .slice A0_3 l0_3.length c0_3], .agg #[.int .i64 ((m : Int) + 1), .int .i64 (a : Int), .int .i64 (s : Int)], .int .i64 (rd l1 a3), .int .i64 a3] (by rfl) rfl rfl (by (try simp only [List.map_toArray, List.map_cons, List.map_nil]); first | rfl) ?_
         refine (glisterref04_Means.calls 100 a0_0 a0_1 _ _ l0_2 _ _ l0_3 ((m : Int) + 1) (a : Int) (s : Int) (rd l1 a3) a3 _ _ (Kd.C_below HR0_2.1 j5) HC0_2.1 (Kd.C_below HR0_3.1 j5) HC0_3.1 HMF.1).mono ?_
         rintro e w2 ⟨rfl, hb⟩
         refine ⟨_, rfl, ?_⟩
         replace j0 := kB j0 hb
         replace j1 := kB j1 hb
         replace j4 := kB j4 hb
         replace j5 := bT j5 hb
         clear hb
         refine hK.out _ _ ⟨(kC j1 0).trans rfl, (kC j1 1).trans rfl, (kC j1 2).trans rfl, (kC j1 3).trans rfl, (kC j4 0).trans rfl, (kC j4 1).trans rfl, (kC j4 2).trans rfl, (j5.cell (World.block_lt_of_cell? w _ HX.1)).trans HX.1⟩ (fun hHeld => ?_)
         clear hK K
         refine norm_ (a' := ?_) ?_ ?_
         rotate_left
         ·show Act.put _ (some 65) _ = _
          simp only [Act.put, List.setIfInBounds_toArray, List.set_cons_zero, List.set_cons_succ, i64_w, i32_w]
          rfl
         refine pure_ (i := 8) (N := some 66) (v := ?_) (a' := ?_) #[true, true, true, true, true, true, true, true, true, false] rfl rfl (by kernel_rfl) (fun _ _ _ h => h) (Or.inl ⟨by rfl, ?_⟩) ?_ ?_
         rotate_left
         ·intro w'
          go_simp
          with_reducible rfl
         rotate_left
         ·simp only [Act.put, List.setIfInBounds_toArray, List.set_cons_zero, List.set_cons_succ, i64_w, i32_w]
          rfl
         refine last_ (i := 9) (N := none) #[true, true, true, true, true, true, true, true, true, true] rfl rfl (by kernel_rfl) (by decide) (fun K hK => ?_)
         have hsc := (kC j0 (decodeV a0_0 ((m : Int) + 1) (a : Int) (s : Int) (rd l1 a3) a3).toNat).trans (bcells_at (show (decodeV a0_0 ((m : Int) + 1) (a : Int) (s : Int) (rd l1 a3) a3).toNat < _ from by rw [stR_len]; have := HDV.1; omega))
         have hsf := kF j0 (decodeV a0_0 ((m : Int) + 1) (a : Int) (s : Int) (rd l1 a3) a3).toNat
         refine skip_ (w1 := ?_) (by rfl) rfl ?_ ?_
         rotate_left
         ·go_simp
          rfl
         refine hK.out _ _ ?_
         clear hK K
         refine done_ (by kernel_rfl) ?_
         have q0 := blk_put j0 (decodeV a0_0 ((m : Int) + 1) (a : Int) (s : Int) (rd l1 a3) a3).toNat (.bool true) (bcells_set _ _ _)
         have q1 := blk_far (p := ⟨gs, (decodeV a0_0 ((m : Int) + 1) (a : Int) (s : Int) (rd l1 a3) a3).toNat, none⟩) j1 NEgbgs.1 (.bool true)
         have q4 := blk_far (p := ⟨gs, (decodeV a0_0 ((m : Int) + 1) (a : Int) (s : Int) (rd l1 a3) a3).toNat, none⟩) j4 NEgsgy.1.symm (.bool true)
         have q5 := j5.setCell (p := ⟨gs, (decodeV a0_0 ((m : Int) + 1) (a : Int) (s : Int) (rd l1 a3) a3).toNat, none⟩) GEgs.1 (.bool true)
         generalize w2.setCell { block := gs, off := (decodeV a0_0 ((m : Int) + 1) (a : Int) (s : Int) (rd l1 a3) a3).toNat } (.bool true) = w3 at q0 q1 q4 q5 ⊢
         clear BKgs BKgb BKgy HB
         have BKgs := Sd.mk q0
         have BKgb := Sd.mk q1
         have BKgy := Sd.mk q4
         have HB := Sd.mk q5
         clear q0 q1 q4 q5 hsc hsf p1 p2 p3 p4
         have hczxy_2 : w3.cell? ⟨gy, 2, none⟩ = some (.int .i64 (s : Int)) := (kC BKgy.1 2).trans rfl
         have hfzxy_2 := kF BKgy.1 2
         go_wp2
         go_roundg (a0_0.toNat - (s + 1))
         case measure => omega
         case rel => exact ⟨s + 1, rfl, by omega, by rw [HE.1, agr_yes HBB.1, List.length_append]; go_num, ⟨blk_put BKgy.1 2 _ rfl⟩, ⟨by rw [HE.1, stR_yes HBB.1 HII.1]; exact blk_far (p := ⟨gy, 2, none⟩) BKgs.1 NEgsgy.1 _⟩, ⟨blk_far (p := ⟨gy, 2, none⟩) BKgb.1 NEgbgy.1 _⟩, ⟨bS HB.1 GEgy.1⟩⟩
      ·have HE := Sd.mk (preR_row (sz := a0_0) m a s (by omega))
       have hczrb_0 : wr.cell? ⟨gb, 0, none⟩ = some (.int .i64 a0_0) := (kC BKgb.1 0).trans rfl
       have hczrb_1 : wr.cell? ⟨gb, 1, none⟩ = some (.int .i64 a0_1) := (kC BKgb.1 1).trans rfl
       have hczrb_2 : wr.cell? ⟨gb, 2, none⟩ = some (.slice A0_2 l0_2.length c0_2) := (kC BKgb.1 2).trans rfl
       have hczrb_3 : wr.cell? ⟨gb, 3, none⟩ = some (.slice A0_3 l0_3.length c0_3) := (kC BKgb.1 3).trans rfl
       have hczry_0 : wr.cell? ⟨gy, 0, none⟩ = some (.int .i64 ((m : Int) + 1)) := (kC BKgy.1 0).trans rfl
       have hfzry_0 := kF BKgy.1 0
       have hczry_1 : wr.cell? ⟨gy, 1, none⟩ = some (.int .i64 (a : Int)) := (kC BKgy.1 1).trans rfl
       have hfzry_1 := kF BKgy.1 1
       have hczry_2 : wr.cell? ⟨gy, 2, none⟩ = some (.int .i64 (s : Int)) := (kC BKgy.1 2).trans rfl
       have hfzry_2 := kF BKgy.1 2
       go_wp2
       go_roundg (a0_0.toNat - (a + 1))
       case measure => omega
       case rel => exact ⟨a + 1, _, rfl, by omega, by rw [HE.1], ⟨blk_put BKgy.1 1 _ rfl⟩, ⟨by rw [← HE.1]; exact blk_far (p := ⟨gy, 1, none⟩) BKgs.1 NEgsgy.1 _⟩, ⟨blk_far (p := ⟨gy, 1, none⟩) BKgb.1 NEgbgy.1 _⟩, ⟨bS HB.1 GEgy.1⟩⟩
    ·have HE := Sd.mk (preR_col (sz := a0_0) m a (by omega))
     have hczrb_0 : wr.cell? ⟨gb, 0, none⟩ = some (.int .i64 a0_0) := (kC BKgb.1 0).trans rfl
     have hczrb_1 : wr.cell? ⟨gb, 1, none⟩ = some (.int .i64 a0_1) := (kC BKgb.1 1).trans rfl
     have hczrb_2 : wr.cell? ⟨gb, 2, none⟩ = some (.slice A0_2 l0_2.length c0_2) := (kC BKgb.1 2).trans rfl
     have hczrb_3 : wr.cell? ⟨gb, 3, none⟩ = some (.slice A0_3 l0_3.length c0_3) := (kC BKgb.1 3).trans rfl
     have hczry_0 : wr.cell? ⟨gy, 0, none⟩ = some (.int .i64 ((m : Int) + 1)) := (kC BKgy.1 0).trans rfl
     have hfzry_0 := kF BKgy.1 0
     have hczry_1 : wr.cell? ⟨gy, 1, none⟩ = some (.int .i64 (a : Int)) := (kC BKgy.1 1).trans rfl
     have hfzry_1 := kF BKgy.1 1
     have hczry_2 : wr.cell? ⟨gy, 2, none⟩ = some (u2) := (kC BKgy.1 2).trans rfl
     have hfzry_2 := kF BKgy.1 2
     go_wp2
     go_roundg (a0_0.toNat - (m + 1))
     case measure => omega
     case rel => exact ⟨m + 1, _, _, rfl, by omega, by rw [HE.1], ⟨blk_put BKgy.1 0 _ rfl⟩, ⟨by rw [← HE.1]; exact blk_far (p := ⟨gy, 0, none⟩) BKgs.1 NEgsgy.1 _⟩, ⟨blk_far (p := ⟨gy, 0, none⟩) BKgb.1 NEgbgy.1 _⟩, ⟨bS HB.1 GEgy.1⟩⟩
  ·have HE := Sd.mk (preR_end (sz := a0_0) m (by omega))
   have hczrb_0 : wr.cell? ⟨gb, 0, none⟩ = some (.int .i64 a0_0) := (kC BKgb.1 0).trans rfl
   have hczrb_1 : wr.cell? ⟨gb, 1, none⟩ = some (.int .i64 a0_1) := (kC BKgb.1 1).trans rfl
   have hczrb_2 : wr.cell? ⟨gb, 2, none⟩ = some (.slice A0_2 l0_2.length c0_2) := (kC BKgb.1 2).trans rfl
   have hczrb_3 : wr.cell? ⟨gb, 3, none⟩ = some (.slice A0_3 l0_3.length c0_3) := (kC BKgb.1 3).trans rfl
   have hczry_0 : wr.cell? ⟨gy, 0, none⟩ = some (.int .i64 ((m : Int) + 1)) := (kC BKgy.1 0).trans rfl
   have hfzry_0 := kF BKgy.1 0
   have hczry_1 : wr.cell? ⟨gy, 1, none⟩ = some (u1) := (kC BKgy.1 1).trans rfl
   have hfzry_1 := kF BKgy.1 1
   have hczry_2 : wr.cell? ⟨gy, 2, none⟩ = some (u2) := (kC BKgy.1 2).trans rfl
   have hfzry_2 := kF BKgy.1 2
   obtain ⟨bs, hbs⟩ : ∃ bs, bs = (stR a0_0 l1 (l2.map toG) a3 (preR a0_0 m 0 0)) := ⟨_, rfl⟩
   rw [← hbs] at BKgs
   have HLB := Sd.mk (show bs.length = 41 from by rw [hbs]; exact stR_len _ _ _ _ _)
   have HBS := Sd.mk (show bs = stR a0_0 l1 (l2.map toG) a3 (allR a0_0) from by rw [hbs, HE.1])
   have HMN := Sd.mk (show agrR a0_0 l1 (l2.map toG) (preR a0_0 m 0 0) = agrR a0_0 l1 (l2.map toG) (allR a0_0) from by rw [HE.1])
   clear hbs
   go_wp2
   go_loopw [13, 14] (fun v13 v14 wr => ∃ i : Nat, v14 = .int .i64 (i : Int) ∧ i ≤ 41 ∧ Sd (Kd.R (Kd.int .i64) 3 wr w.heap.size (fun _ => True) v13 (outTo bs i)) ∧ Sd (wr.heap[gs]? = some (.cells (bcells bs) 131 (0, 0))) ∧ Sd (Below w.heap.size w wr)) (fun v13 v14 wr => 41 - (intOf v14).toNat)
   case atStart => exact ⟨0, rfl, Nat.zero_le _, ⟨Kd.R_nil _ _ _ _ _⟩, BKgs, HB⟩
   case round =>
    clear HB BKgs BKgb BKgy
    obtain ⟨i, rfl, hle, HO, BKgs, HB⟩ := hrel
    by_cases c4 : (i : Int) < 41
    ·have hil : i < bs.length := by have := HLB.1; omega
     have hsc := (kC BKgs.1 i).trans (bcells_at hil)
     have hsf := kF BKgs.1 i
     have HGI := Sd.mk (show bs.getD i false = bs[i] from by rw [List.getD_eq_getElem?_getD, List.getElem?_eq_getElem hil]; rfl)
     have d4 := decide_eq_true c4
     cases hb : bs[i] with
     | true =>
      rw [hb] at hsc HGI
      have HS := Sd.mk (show outTo bs (i + 1) = outTo bs i ++ [(i : Int)] from by rw [outTo_succ, if_pos HGI.1])
      clear hb hil
      go_wp2_with (first | ((with_reducible refine gate_builtin (b := .append) (xs := #[.tmp 74, .tmp 76]) rfl ?_); at_builtin; refine Kd.R_append (Kd.int .i64) (w0 := w) w.heap.size rfl (.tmp 74) (.tmp 76) 23 3 (.int .i64 0) 8 rfl Try.underlying23 info3 rfl (by decide) (by omega) u13 (outTo bs i) (i : Int) [.int .i64 (i : Int)] (fun _ => True) (fun _ => False) rfl rfl ?aP (fun _ hk => hk.elim) ?aF ?aO ?aB ?aS ?aL ?_; (case aP => exact rfl); (case aB => exact (by repeat (first | (with_reducible first | exact HB.1 ) ))); (case aF => exact (fun _ _ => trivial)); (case aO => exact (by (with_reducible repeat (fail)); exact HO.1)); (case aS => exact (bZ (by repeat (first | (with_reducible first | exact HB.1 ) )))); (case aL => have := outTo_le bs i; omega); intro v1 w2 ho hb2 hg hat; replace BKgs := Sd.mk (blk_grown (g := gs) (by (with_reducible repeat (fail)); exact BKgs.1) hg (Kd.R_ne HO.1 BKgs.1 (by decide))); replace HB := Sd.mk hb2; replace HO := Sd.mk ho; clear ho hb2 hg hat))
      go_roundw
      case rel => exact ⟨i + 1, by go_num, by omega, ⟨by rw [HS.1]; exact HO.1⟩, BKgs, HB⟩
      case measure => simp [intOf]; omega
     | false =>
      rw [hb] at hsc HGI
      have HS := Sd.mk (show outTo bs (i + 1) = outTo bs i from by rw [outTo_succ, HGI.1]; rfl)
      clear hb hil
      go_wp2
      go_roundw
      case rel => exact ⟨i + 1, by go_num, by omega, ⟨by rw [HS.1]; exact HO.1⟩, BKgs, HB⟩
      case measure => simp [intOf]; omega
    ·have d4 := decide_eq_false c4
     have HE2 := Sd.mk (show outTo bs i = outTo bs 41 from by rw [show i = 41 by omega])
     go_wp2
     go_ret2
     exact ⟨u13, by unfold refV; rw [HMN.1]; rfl, by unfold refV; rw [← HBS.1, ← HE2.1]; exact HO.1, HB.1⟩
theorem glisterref04_Fits.calls (a0_0 : Int) (a0_1 : Int) (A0_2 : Option Addr) (c0_2 : Nat) (l0_2 : List (S82)) (A0_3 : Option Addr) (c0_3 : Nat) (l0_3 : List Int) (A1 : Option Addr) (c1 : Nat) (l1 : List Int) (A2 : Option Addr) (c2 : Nat) (l2 : List (S85)) (a3 : Int) (r1 : Int) (r2 : List Int) (w : World) (hr0_2 : Kd.C k82 w A0_2 l0_2.length l0_2) (hc0_2 : l0_2.length ≤ c0_2) (hr0_3 : Kd.C (Kd.int .i64) w A0_3 l0_3.length l0_3) (hc0_3 : l0_3.length ≤ c0_3) (hr1 : Kd.C (Kd.int .i64) w A1 l1.length l1) (hc1 : l1.length ≤ c1) (hr2 : Kd.C k85 w A2 l2.length l2) (hc2 : l2.length ≤ c2) (h : glisterref04_Fits.f a0_0 a0_1 l0_2 l0_3 l1 l2 a3 = some (r1, r2)) :
  Calls Try.prog 44 #[.agg #[.int .i64 a0_0, .int .i64 a0_1, .slice A0_2 l0_2.length c0_2, .slice A0_3 l0_3.length c0_3], .slice A1 l1.length c1, .slice A2 l2.length c2, .int .i64 a3] w fun e w' => ∃ v0_ : Value, e = .returned (.tuple #[.int .i64 r1, v0_]) ∧ Kd.R (Kd.int .i64) 3 w' w.heap.size (fun _ => True) v0_ r2 ∧ Below w.heap.size w w' := by
 unfold glisterref04_Fits.f at h
 split at h
 ·rename_i hA
  have e1 : r1 = (refV a0_0 l1 (l2.map toG) a3).1 := by rw [Option.some.inj h]
  have e2 : r2 = (refV a0_0 l1 (l2.map toG) a3).2 := by rw [Option.some.inj h]
  rw [e1, e2]
  exact ref_run a0_0 a0_1 A0_2 c0_2 l0_2 A0_3 c0_3 l0_3 A1 c1 l1 A2 c2 l2 a3 w hr0_2 hc0_2 hr0_3 hc0_3 hr1 hc1 hr2 hc2 hA
 ·exact absurd h (by simp)
end Go.Proofs.Ytnidgkmopocdkaa.P
