import Derived.Test.YtnidgkmopocdkaaA13HAsked
import Derived.Test.YtnidgkmopocdkaaA13HFew
import Derived.RangeFuncNested
import Derived.RangeFuncBound
import Derived.RangeFuncCalls
import Derived.RangeFuncLeaves
import Derived.Shelf.Abstract
import Derived.Shelf.RegionOpen
import Derived.WalkKit
import Derived.OwnWalkIn
import Derived.TacticsInMore
import Derived.LoopNIn
import Derived.LoopIn
namespace Go.Proofs.Ytnidgkmopocdkaa.P
open Go.RowKit Go.Proofs.YtnidgkmopocdkaaW.PrintWords Go.Proofs.YtnidgkmopocdkaaW.PrintLast Go.Proofs.YtnidgkmopocdkaaW.PrintMore
set_option linter.unusedVariables false
set_option linter.unusedSimpArgs false
def addsV (sz : Int) (codes : List Int) (gs : List S88) (m1 s : Int) : List Int :=
 match gs with
 | [] => (List.range sz.toNat).map fun n : Nat => (n : Int)
 | g :: _ => [Int.tmod (wrap64 ((wrap64 (rd codes g.f0 + sz)) - codeV sz m1 0 s g.f1 g.f0)) sz]
def agreeB (sz : Int) (codes : List Int) (k : S91) (g : S88) : Bool := codeV sz k.f0 k.f1 k.f2 g.f1 g.f0 == rd codes g.f0
def pickL (sz : Int) (codes : List Int) (gs : List S88) (m s : Nat) (l : List Int) : List S91 := (l.map fun a => (⟨(m : Int) + 1, a, (s : Int)⟩ : S91)).filter fun k => gs.all (agreeB sz codes k)
def rowS (sz : Int) (codes : List Int) (gs : List S88) (m s : Nat) : List S91 := pickL sz codes gs m s (addsV sz codes gs ((m : Int) + 1) (s : Int))
def rowM (sz : Int) (codes : List Int) (gs : List S88) (m : Nat) : List S91 := (List.range sz.toNat).flatMap (rowS sz codes gs m)
def keysL (sz : Int) (codes : List Int) (gs : List S88) : List S91 := (List.range (sz - 1).toNat).flatMap (rowM sz codes gs)
def preL (sz : Int) (codes : List Int) (gs : List S88) (m s j : Nat) : List S91 := (List.range m).flatMap (rowM sz codes gs) ++ ((List.range s).flatMap (rowS sz codes gs m) ++ pickL sz codes gs m s ((addsV sz codes gs ((m : Int) + 1) (s : Int)).take j))
theorem flatMap_le {α β : Type} (f : α → List β) (B : Nat) (h : ∀ x, (f x).length ≤ B) : ∀ l : List α, (l.flatMap f).length ≤ l.length * B
 | [] => by simp
 | a :: l => by
  have := flatMap_le f B h l
  have := h a
  rw [List.flatMap_cons, List.length_append, List.length_cons, Nat.add_mul]
  omega
theorem addsV_le {sz : Int} (h1 : sz ≤ 41) (codes : List Int) (gs : List S88) (m1 s : Int) : (addsV sz codes gs m1 s).length ≤ 41 := by
 unfold addsV
 split
 ·rw [List.length_map, List.length_range]; omega
 ·simp
theorem pickL_le {sz : Int} (codes : List Int) (gs : List S88) (m s : Nat) (l : List Int) (h : l.length ≤ 41) : (pickL sz codes gs m s l).length ≤ 41 := by
 unfold pickL
 refine Nat.le_trans (List.length_filter_le _ _) ?_
 rw [List.length_map]; exact h
theorem rowM_le {sz : Int} (h1 : sz ≤ 41) (codes : List Int) (gs : List S88) (m : Nat) : (rowM sz codes gs m).length ≤ 1681 := by
 have := flatMap_le (rowS sz codes gs m) 41 (fun s => pickL_le codes gs m s _ (addsV_le h1 _ _ _ _)) (List.range sz.toNat)
 rw [List.length_range] at this
 unfold rowM
 have h2 : sz.toNat ≤ 41 := by omega
 have := Nat.mul_le_mul_right 41 h2
 omega
theorem preL_le {sz : Int} (h1 : sz ≤ 41) (codes : List Int) (gs : List S88) (m s j : Nat) (hm : m ≤ 41) (hs : s ≤ 41) : (preL sz codes gs m s j).length < 100000 := by
 unfold preL
 have a1 := flatMap_le (rowM sz codes gs) 1681 (fun m => rowM_le h1 codes gs m) (List.range m)
 have a2 := flatMap_le (rowS sz codes gs m) 41 (fun s => pickL_le codes gs m s _ (addsV_le h1 _ _ _ _)) (List.range s)
 have a3 := pickL_le (sz := sz) codes gs m s ((addsV sz codes gs ((m : Int) + 1) (s : Int)).take j) (by rw [List.length_take]; have := addsV_le h1 codes gs ((m : Int) + 1) (s : Int); omega)
 rw [List.length_range] at a1 a2
 rw [List.length_append, List.length_append]
 have := Nat.mul_le_mul_right 1681 hm
 have := Nat.mul_le_mul_right 41 hs
 omega
def GoodK (sz : Int) (x : S91) : Prop := 1 ≤ x.f0 ∧ x.f0 ≤ sz - 1 ∧ -sz < x.f1 ∧ x.f1 < sz ∧ 0 ≤ x.f2 ∧ x.f2 ≤ sz - 1
theorem tmod_abs (a : Int) {b : Int} (h : 0 < b) : -b < Int.tmod a b ∧ Int.tmod a b < b := by
 refine ⟨?_, Int.tmod_lt_of_pos a h⟩
 by_cases ha : 0 ≤ a
 ·have := Int.tmod_nonneg b ha; omega
 ·have := Int.tmod_lt_of_pos (-a) h
  rw [Int.neg_tmod] at this
  omega
theorem adds_bd {sz : Int} (h0 : 0 < sz) (codes : List Int) (gs : List S88) (m1 s : Int) : ∀ a ∈ addsV sz codes gs m1 s, -sz < a ∧ a < sz := by
 intro a ha
 unfold addsV at ha
 split at ha
 ·obtain ⟨n, hn, rfl⟩ := List.mem_map.1 ha
  have := List.mem_range.1 hn
  omega
 ·rw [List.mem_singleton] at ha
  subst ha
  exact tmod_abs _ h0
theorem goodK_at {sz : Int} (h0 : 0 < sz) (codes : List Int) (gs : List S88) (m s j : Nat) (h1 : (m : Int) < sz - 1) (h2 : (s : Int) < sz) (h3 : j < (addsV sz codes gs ((m : Int) + 1) (s : Int)).length) (a : Int) (ha : a = rd (addsV sz codes gs ((m : Int) + 1) (s : Int)) (j : Int)) : GoodK sz ⟨(m : Int) + 1, a, (s : Int)⟩ := by
 have hg : rd (addsV sz codes gs ((m : Int) + 1) (s : Int)) (j : Int) = (addsV sz codes gs ((m : Int) + 1) (s : Int))[j] := getD_at _ _ j h3
 have := adds_bd h0 codes gs ((m : Int) + 1) (s : Int) a (by rw [ha, hg]; exact List.getElem_mem h3)
 exact ⟨by simp only; omega, by simp only; omega, this.1, this.2, by simp only; omega, by simp only; omega⟩
theorem preL_zero (sz : Int) (codes : List Int) (gs : List S88) : preL sz codes gs 0 0 0 = [] := by simp [preL, pickL]
theorem preL_row {sz : Int} (codes : List Int) (gs : List S88) (m s : Nat) : preL sz codes gs m s (addsV sz codes gs ((m : Int) + 1) (s : Int)).length = preL sz codes gs m (s + 1) 0 := by
 unfold preL
 rw [List.take_length, List.range_succ, List.flatMap_append]
 simp [rowS, pickL]
theorem preL_m {sz : Int} (codes : List Int) (gs : List S88) (m s : Nat) (hs : (s : Int) = sz) : preL sz codes gs m s 0 = preL sz codes gs (m + 1) 0 0 := by
 subst hs
 unfold preL
 rw [List.range_succ, List.flatMap_append]
 simp [rowM, pickL]
theorem preL_end {sz : Int} (codes : List Int) (gs : List S88) (m : Nat) (hm : (m : Int) = sz - 1) : preL sz codes gs m 0 0 = keysL sz codes gs := by
 unfold preL keysL
 rw [← hm]
 simp [pickL]
theorem take_next (l : List Int) (j : Nat) (h : j < l.length) : l.take (j + 1) = l.take j ++ [rd l (j : Int)] := by
 rw [List.take_add_one, show l[j]? = some (rd l (j : Int)) from by simp [rd, List.getD, List.getElem?_eq_getElem h]]
 rfl
theorem preL_next {sz : Int} (codes : List Int) (gs : List S88) (m s j : Nat) (h : j < (addsV sz codes gs ((m : Int) + 1) (s : Int)).length) (a : Int) (ha : a = rd (addsV sz codes gs ((m : Int) + 1) (s : Int)) (j : Int)) (hk : gs.all (agreeB sz codes ⟨(m : Int) + 1, a, (s : Int)⟩) = true) :
  preL sz codes gs m s (j + 1) = preL sz codes gs m s j ++ [⟨(m : Int) + 1, a, (s : Int)⟩] := by
 subst ha
 unfold preL pickL
 rw [take_next _ _ h]
 simp [hk]
theorem preL_skip {sz : Int} (codes : List Int) (gs : List S88) (m s j : Nat) (h : j < (addsV sz codes gs ((m : Int) + 1) (s : Int)).length) (a : Int) (ha : a = rd (addsV sz codes gs ((m : Int) + 1) (s : Int)) (j : Int)) (hk : gs.all (agreeB sz codes ⟨(m : Int) + 1, a, (s : Int)⟩) = false) :
  preL sz codes gs m s (j + 1) = preL sz codes gs m s j := by
 subst ha
 unfold preL pickL
 rw [take_next _ _ h]
 simp [hk]
theorem range_next (k : Nat) : (List.range (k + 1)).map (fun n : Nat => (n : Int)) = (List.range k).map (fun n : Nat => (n : Int)) ++ [(k : Int)] := by rw [List.range_succ, List.map_append]; rfl
theorem adds_l0 (sz : Int) (h0 : 0 ≤ sz) (h1 : sz ≤ 41) : ∀ (d k n : Nat), (n : Int) + d = sz → d < k → cipher_Book_adds.l0 k ((List.range n).map fun n : Nat => (n : Int)) sz (n : Int) = some ((List.range sz.toNat).map fun n : Nat => (n : Int))
 | 0, k, n, h, hk => by
  obtain ⟨k, rfl⟩ : ∃ j, k = j + 1 := ⟨k - 1, by omega⟩
  simp only [cipher_Book_adds.l0]
  rw [if_neg (by omega), show sz.toNat = n by omega]
 | d + 1, k, n, h, hk => by
  obtain ⟨k, rfl⟩ : ∃ j, k = j + 1 := ⟨k - 1, by omega⟩
  simp only [cipher_Book_adds.l0]
  rw [if_pos (by omega), if_pos (by rw [List.length_map, List.length_range]; omega), ← range_next, wrap_of (by omega) (by omega)]
  exact adds_l0 sz h0 h1 d k (n + 1) (by omega) (by omega)
theorem fine_at {sz : Int} {n : Nat} {g : S88} (hn : n ≤ 1000) (h : fineB sz n g = true) : 0 ≤ g.f0 ∧ g.f0 < n := by
 unfold fineB at h
 rw [Bool.and_eq_true] at h
 have := inB_iff.1 h.1
 rw [wrap_of (by omega) (by omega)] at this
 omega
theorem adds_f (sz wd : Int) (keys : List S91) (days : List Int) (codes : List Int) (gs : List S88) (m1 s : Int) (h0 : 0 < sz) (h1 : sz ≤ 41) (hn : codes.length ≤ 1000) (hf : gs.all (fineB sz codes.length) = true) : cipher_Book_adds.f 100 sz wd keys days m1 0 s codes gs = some (addsV sz codes gs m1 s) := by
 unfold cipher_Book_adds.f addsV
 cases gs with
 | nil =>
  rw [if_neg (by simp)]
  exact adds_l0 sz (by omega) h1 sz.toNat 100 0 (by omega) (by omega)
 | cons g gs =>
  have hg : fineB sz codes.length g = true := by simp at hf; exact hf.1
  have := fine_at hn hg
  have e : rd_T88 (g :: gs) 0 = g := rfl
  rw [if_pos (by simp), if_pos (by simp), e, if_pos this.1, if_pos this.2]
  unfold cipher_Book_code.f codeV
  rw [if_neg (by omega), Option.bind_some, if_neg (by omega)]
def KpB (n0 : Nat) (bad : Nat → Prop) (A B : World) : Prop := Below n0 A B ∧ ∀ k cs t, ¬ bad k → A.heap[k]? = some (.cells cs t (0, 0)) → B.heap[k]? = some (.cells cs t (0, 0))
theorem KpB_t {n0 : Nat} {bad : Nat → Prop} {A B C : World} (h : KpB n0 bad A B) (k : KpB n0 bad B C) : KpB n0 bad A C := ⟨h.1.trans k.1, fun j cs t hb hc => k.2 j cs t hb (h.2 j cs t hb hc)⟩
theorem KpB_b {n0 : Nat} {bad : Nat → Prop} {w : World} (hn : n0 ≤ w.heap.size) (W : World) (l : Nat) (o o' : Obj) (hl : w.heap.size ≤ l) (h : W.heap[l]? = some o) (hc : o.isCells = false) (hw : o.isWalk = false) : KpB n0 bad W (W.putObj l o') :=
 ⟨belowK_b hn W l o o' hl h hc hw, fun k cs t _ hk => by
  have : k ≠ l := by rintro rfl; rw [h] at hk; cases hk; cases hc
  rw [World.putObj_heap_other this]; exact hk⟩
theorem R_kp {n0 base : Nat} {bad : Nat → Prop} {A B : World} {v : Value} {xs : List Int} (h : Kd.R (Kd.int .i64) 3 A base (fun _ => True) v xs) (kp : KpB n0 bad A B) (hb : ∀ k, bad k → k < base) : Kd.R (Kd.int .i64) 3 B base (fun _ => True) v xs :=
 Kd.R_mono (Kd.R_step (Kd.R_bound h) (fun k hk _ => by
  obtain ⟨_, hle, _, q, _, cs, hc⟩ := hk
  rw [hc]
  exact kp.2 k cs q (fun hb' => by have := hb k hb'; omega) hc)) (fun _ _ => trivial)
theorem abides_below {J : List S91 → World → Prop} {B : Nat} (h : AbidesFrom B J) {pre : List S91} {A A' : World} (hj : J pre A) (hb : Below A.heap.size A A') : J pre A' :=
 h pre A A' none hj (grown_below (World.grownBy.refl A none) hb) (fun r e => by cases e)
theorem gate_region11 {n : Nat} {P : Program} {ops : Array Oper} {c : Code} {Q : Exit → Act → World → Prop} {a : Act} {w : World} (h : Sd ((Code.region 11 ops false).wpIn Fence.wide n P (Exit.then (fun a w => c.wp P Q a w) Q) a w)) : ((Code.region 11 ops false).seq c).wp P Q a w := wp_seq (wpIn_wide.1 h.out)
theorem hide_goal {p : Prop} (h : Sd p) : p := h.out
def KeysPost (J Jx : List S91 → World → Prop) (xs : List S91) (e : Ending) (W' : World) : Prop := (∃ v, e = .returned v) ∧ ((∃ ys, ys = xs ∧ J ys W') ∨ (∃ pre : List S91, True ∧ Jx pre W'))
set_option maxHeartbeats 8000000 in
set_option maxRecDepth 100000 in
theorem keys1_calls (a0_0 : Int) (a0_1 : Int) (A0_2 : Option Addr) (c0_2 : Nat) (l0_2 : List (S91)) (A0_3 : Option Addr) (c0_3 : Nat) (l0_3 : List Int) (AC : Option Addr) (cC : Nat) (codes : List Int) (AG : Option Addr) (cG : Nat) (gs : List S88) (n l g1 g2 g3 : Nat) (bad : Nat → Prop) (J Jx : List S91 → World → Prop) (w W : World) (hr0_2 : Kd.C k91 w A0_2 l0_2.length l0_2) (hc0_2 : l0_2.length ≤ c0_2) (hr0_3 : Kd.C (Kd.int .i64) w A0_3 l0_3.length l0_3) (hc0_3 : l0_3.length ≤ c0_3) (hrc : Kd.C (Kd.int .i64) w AC codes.length codes) (hcc : codes.length ≤ cC) (hrg : Kd.C k88 w AG gs.length gs) (hcg : gs.length ≤ cG) (hz0 : 0 < a0_0) (hz1 : a0_0 ≤ 41) (hn : codes.length ≤ 1000) (hfi : gs.all (fineB a0_0 codes.length) = true) (hbW : Below w.heap.size w W)
  (h1 : W.heap[g1]? = some (.cells #[.int .i64 a0_0, .int .i64 a0_1, .slice A0_2 l0_2.length c0_2, .slice A0_3 l0_3.length c0_3] 32 (0, 0))) (h2 : W.heap[g2]? = some (.cells #[.slice AC codes.length cC] 23 (0, 0))) (h3 : W.heap[g3]? = some (.cells #[.slice AG gs.length cG] 71 (0, 0))) (hbad : ∀ k, bad k → k < W.heap.size ∧ k ≠ g1 ∧ k ≠ g2 ∧ k ≠ g3) (hJ : AbidesFrom W.heap.size J)
  (hY : ∀ pre x W1, J pre W1 → pre.length < 100000 → GoodK a0_0 x → YieldAt Fence.wide (n - 1) Try.prog l #[encS91 x] W1 fun e W' => (e = .returned (.bool true) ∧ J (pre ++ [x]) W' ∧ KpB w.heap.size bad W1 W') ∨ (e = .returned (.bool false) ∧ Jx (pre ++ [x]) W')) (hj : J [] W) :
  Calls Try.prog 96 #[.func (.yield l) #[] #[], .pointer (some ⟨g1, 0, none⟩), .pointer (some ⟨g2, 0, none⟩), .pointer (some ⟨g3, 0, none⟩)] W (KeysPost J Jx (keysL a0_0 codes gs)) := by
 have hu32 := Try.underlying32
 have hu88 := Try.underlying88
 have hu91 := Try.underlying91
 have HR0_2 := Sd.mk hr0_2
 have HC0_2 := Sd.mk hc0_2
 have HR0_3 := Sd.mk hr0_3
 have HC0_3 := Sd.mk hc0_3
 have HRC := Sd.mk hrc
 have HCC := Sd.mk hcc
 have HRG := Sd.mk hrg
 have HCG := Sd.mk hcg
 have HN := Sd.mk hn
 have HFI := Sd.mk hfi
 have HZ0 := Sd.mk hz0
 have HZ1 := Sd.mk hz1
 have HBW := Sd.mk hbW
 have BKg1 := Sd.mk h1
 have BKg2 := Sd.mk h2
 have BKg3 := Sd.mk h3
 have HBAD := Sd.mk hbad
 have HAB := Sd.mk hJ
 have HY := Sd.mk hY
 have HJ := Sd.mk hj
 have HSZ := Sd.mk (Nat.le_refl W.heap.size)
 clear hr0_2 hc0_2 hr0_3 hc0_3 hrc hcc hrg hcg hn hfi hbW h1 h2 h3 hbad hJ hY hj
 have hczWg1_0 : W.cell? ⟨g1, 0, none⟩ = some (.int .i64 a0_0) := (kC BKg1.1 0).trans rfl
 go_enter Try.func96, Try.ntmps96
 go_wp2_with fail
 go_loopw [14] (fun v14 wr => ∃ m : Nat, v14 = .int .i64 (m : Int) ∧ (m : Int) ≤ a0_0 - 1 ∧ Sd (J (preL a0_0 codes gs m 0 0) wr) ∧ Sd (wr.heap[g1]? = some (.cells #[.int .i64 a0_0, .int .i64 a0_1, .slice A0_2 l0_2.length c0_2, .slice A0_3 l0_3.length c0_3] 32 (0, 0))) ∧ Sd (wr.heap[g2]? = some (.cells #[.slice AC codes.length cC] 23 (0, 0))) ∧ Sd (wr.heap[g3]? = some (.cells #[.slice AG gs.length cG] 71 (0, 0))) ∧ Sd (Below w.heap.size w wr) ∧ Sd (W.heap.size ≤ wr.heap.size)) (fun v14 wr => a0_0.toNat - (intOf v14).toNat)
 case atStart => exact ⟨0, rfl, by omega, ⟨by rw [preL_zero]; exact HJ.1⟩, BKg1, BKg2, BKg3, HBW, HSZ⟩
 case round =>
  clear HJ BKg1 BKg2 BKg3 HBW HSZ
  obtain ⟨m, rfl, hle, HJ, BKg1, BKg2, BKg3, HBW, HSZ⟩ := hrel
  by_cases c1 : (m : Int) < a0_0 - 1
  ·have hczrg1_0 : wr.cell? ⟨g1, 0, none⟩ = some (.int .i64 a0_0) := (kC BKg1.1 0).trans rfl
   have hczrg1_1 : wr.cell? ⟨g1, 1, none⟩ = some (.int .i64 a0_1) := (kC BKg1.1 1).trans rfl
   have hczrg1_2 : wr.cell? ⟨g1, 2, none⟩ = some (.slice A0_2 l0_2.length c0_2) := (kC BKg1.1 2).trans rfl
   have hczrg1_3 : wr.cell? ⟨g1, 3, none⟩ = some (.slice A0_3 l0_3.length c0_3) := (kC BKg1.1 3).trans rfl
   have hczrg2_0 : wr.cell? ⟨g2, 0, none⟩ = some (.slice AC codes.length cC) := (kC BKg2.1 0).trans rfl
   have hczrg3_0 : wr.cell? ⟨g3, 0, none⟩ = some (.slice AG gs.length cG) := (kC BKg3.1 0).trans rfl
   go_wp2_with fail
   go_loopw [19] (fun v19 wr => ∃ s : Nat, v19 = .int .i64 (s : Int) ∧ (s : Int) ≤ a0_0 ∧ Sd (J (preL a0_0 codes gs m s 0) wr) ∧ Sd (wr.heap[g1]? = some (.cells #[.int .i64 a0_0, .int .i64 a0_1, .slice A0_2 l0_2.length c0_2, .slice A0_3 l0_3.length c0_3] 32 (0, 0))) ∧ Sd (wr.heap[g2]? = some (.cells #[.slice AC codes.length cC] 23 (0, 0))) ∧ Sd (wr.heap[g3]? = some (.cells #[.slice AG gs.length cG] 71 (0, 0))) ∧ Sd (Below w.heap.size w wr) ∧ Sd (W.heap.size ≤ wr.heap.size)) (fun v19 wr => a0_0.toNat - (intOf v19).toNat)
   case atStart => exact ⟨0, rfl, by omega, HJ, BKg1, BKg2, BKg3, HBW, HSZ⟩
   case round =>
    clear HJ BKg1 BKg2 BKg3 HBW HSZ
    obtain ⟨s, rfl, hle2, HJ, BKg1, BKg2, BKg3, HBW, HSZ⟩ := hrel
    by_cases c2 : (s : Int) < a0_0
    ·have HB := Sd.mk (Below.refl wr.heap.size wr)
     have HAD := Sd.mk (adds_f a0_0 a0_1 l0_2 l0_3 codes gs ((m : Int) + 1) (s : Int) hz0 hz1 HN.1 HFI.1)
     have HAL := Sd.mk (addsV_le hz1 codes gs ((m : Int) + 1) (s : Int))
     obtain ⟨bs, hbs⟩ : ∃ b, b = wr.heap.size := ⟨_, rfl⟩
     have HBS := Sd.mk hbs
     clear hbs
     have hczrg1_0 : wr.cell? ⟨g1, 0, none⟩ = some (.int .i64 a0_0) := (kC BKg1.1 0).trans rfl
     have hczrg1_1 : wr.cell? ⟨g1, 1, none⟩ = some (.int .i64 a0_1) := (kC BKg1.1 1).trans rfl
     have hczrg1_2 : wr.cell? ⟨g1, 2, none⟩ = some (.slice A0_2 l0_2.length c0_2) := (kC BKg1.1 2).trans rfl
     have hczrg1_3 : wr.cell? ⟨g1, 3, none⟩ = some (.slice A0_3 l0_3.length c0_3) := (kC BKg1.1 3).trans rfl
     have hczrg2_0 : wr.cell? ⟨g2, 0, none⟩ = some (.slice AC codes.length cC) := (kC BKg2.1 0).trans rfl
     have hczrg3_0 : wr.cell? ⟨g3, 0, none⟩ = some (.slice AG gs.length cG) := (kC BKg3.1 0).trans rfl
     go_wp2_with (first | (go_at_call 97; refine (cipher_Book_adds.calls 100 a0_0 a0_1 _ _ l0_2 _ _ l0_3 ((m : Int) + 1) 0 (s : Int) AC cC codes AG cG gs (addsV a0_0 codes gs ((m : Int) + 1) (s : Int)) _ (Kd.C_below HR0_2.1 (bT HBW.1 (by repeat (first | (with_reducible first | exact HB.1 ) )))) HC0_2.1 (Kd.C_below HR0_3.1 (bT HBW.1 (by repeat (first | (with_reducible first | exact HB.1 ) )))) HC0_3.1 (Kd.C_below HRC.1 (bT HBW.1 (by repeat (first | (with_reducible first | exact HB.1 ) )))) HCC.1 (Kd.C_below HRG.1 (bT HBW.1 (by repeat (first | (with_reducible first | exact HB.1 ) )))) HCG.1 HAD.1).mono ?_; rintro e w3 ⟨v, rfl, hR, hb⟩; have HRA := Sd.mk (Kd.R_mono hR (fun _ _ => trivial)); clear hR; have n0_ := Sd.mk (bT (by repeat (first | (with_reducible first | exact HB.1 ) )) hb); have m0_ := Sd.mk (kB (by (with_reducible repeat (fail)); exact BKg1.1) hb); have m1_ := Sd.mk (kB (by (with_reducible repeat (fail)); exact BKg2.1) hb); have m2_ := Sd.mk (kB (by (with_reducible repeat (fail)); exact BKg3.1) hb); clear HB; have HB := n0_; clear n0_; clear BKg1; have BKg1 := m0_; clear m0_; clear BKg2; have BKg2 := m1_; clear m1_; clear BKg3; have BKg3 := m2_; clear m2_; clear hb; obtain ⟨Av, cv, rfl, hvc, _⟩ := Kd.R_reads HRA.1; clear hvc; have hal : (addsV a0_0 codes gs ((m : Int) + 1) (s : Int)).length ≤ 41 := HAL.1))
     have HRL := Sd.mk (show Kd.R (Kd.int .i64) 3 w3 bs (fun _ => True) (.slice Av (addsV a0_0 codes gs ((m : Int) + 1) (s : Int)).length cv) (addsV a0_0 codes gs ((m : Int) + 1) (s : Int)) from by rw [HBS.1]; exact HRA.1)
     have HBL := Sd.mk (show ∀ k, bad k → k < bs from fun k hk => by rw [HBS.1]; exact Nat.lt_of_lt_of_le (HBAD.1 k hk).1 HSZ.1)
     have j0_ := Sd.mk (abides_below HAB.1 HJ.1 HB.1)
     have j1_ := Sd.mk (bT HBW.1 HB.1)
     have j2_ := Sd.mk (Nat.le_trans HSZ.1 HB.1.size)
     clear HRA HBS HAD HJ HBW HSZ HB
     have HJ := j0_
     have HBW := j1_
     have HSZ := j2_
     clear j0_ j1_ j2_
     go_loopw [31] (fun v31 wr => ∃ j : Nat, v31 = .int .i64 (j : Int) ∧ j ≤ (addsV a0_0 codes gs ((m : Int) + 1) (s : Int)).length ∧ Sd (J (preL a0_0 codes gs m s j) wr) ∧ Sd (wr.heap[g1]? = some (.cells #[.int .i64 a0_0, .int .i64 a0_1, .slice A0_2 l0_2.length c0_2, .slice A0_3 l0_3.length c0_3] 32 (0, 0))) ∧ Sd (wr.heap[g2]? = some (.cells #[.slice AC codes.length cC] 23 (0, 0))) ∧ Sd (wr.heap[g3]? = some (.cells #[.slice AG gs.length cG] 71 (0, 0))) ∧ Sd (Below w.heap.size w wr) ∧ Sd (W.heap.size ≤ wr.heap.size) ∧ Sd (Kd.R (Kd.int .i64) 3 wr bs (fun _ => True) (.slice Av (addsV a0_0 codes gs ((m : Int) + 1) (s : Int)).length cv) (addsV a0_0 codes gs ((m : Int) + 1) (s : Int)))) (fun v31 wr => (addsV a0_0 codes gs ((m : Int) + 1) (s : Int)).length - (intOf v31).toNat)
     case atStart => exact ⟨0, rfl, Nat.zero_le _, HJ, BKg1, BKg2, BKg3, HBW, HSZ, HRL⟩
     case round =>
      clear HJ BKg1 BKg2 BKg3 HBW HSZ HRL
      obtain ⟨j, rfl, hle3, HJ, BKg1, BKg2, BKg3, HBW, HSZ, HRL⟩ := hrel
      by_cases c3 : j < (addsV a0_0 codes gs ((m : Int) + 1) (s : Int)).length
      ·have HB := Sd.mk (Below.refl wr.heap.size wr)
       obtain ⟨ad, e, hx0⟩ := Kd.at_int (Kd.R_reads' HRL.1).2.2 (j : Int) (by omega) (by omega)
       cases e
       obtain ⟨a, ha⟩ : ∃ a, a = rd (addsV a0_0 codes gs ((m : Int) + 1) (s : Int)) (j : Int) := ⟨_, rfl⟩
       rw [← ha] at hx0
       have HA := Sd.mk ha
       clear ha
       rw [Int.toNat_natCast] at hx0
       have hczrg1_0 : wr.cell? ⟨g1, 0, none⟩ = some (.int .i64 a0_0) := (kC BKg1.1 0).trans rfl
       have hczrg1_1 : wr.cell? ⟨g1, 1, none⟩ = some (.int .i64 a0_1) := (kC BKg1.1 1).trans rfl
       have hczrg1_2 : wr.cell? ⟨g1, 2, none⟩ = some (.slice A0_2 l0_2.length c0_2) := (kC BKg1.1 2).trans rfl
       have hczrg1_3 : wr.cell? ⟨g1, 3, none⟩ = some (.slice A0_3 l0_3.length c0_3) := (kC BKg1.1 3).trans rfl
       have hczrg2_0 : wr.cell? ⟨g2, 0, none⟩ = some (.slice AC codes.length cC) := (kC BKg2.1 0).trans rfl
       have hczrg3_0 : wr.cell? ⟨g3, 0, none⟩ = some (.slice AG gs.length cG) := (kC BKg3.1 0).trans rfl
       cases hag : gs.all (agreeB a0_0 codes ⟨(m : Int) + 1, a, (s : Int)⟩) with
       | false =>
        go_wp2_with (first | ((with_reducible refine gD (N := 9) rfl ?_); (try (refine gG (by rfl) ?_; dsimp only)); refine xE ?hg (N := 9) ?hd (cs := #[.int .i64 0, .int .i64 0, .int .i64 0]) (t := 91) ?hr ?_; (case hd => rfl); (case hg => rfl); (case hr => first | (go_simp; done) ); intro gk hg w4 hbox hb; have n0_ := Sd.mk (bT (by repeat (first | (with_reducible first | exact HB.1 ) )) hb); have n1_ := Sd.mk hbox; have n2_ := Sd.mk ((by rw [hg]; exact (bZ (by repeat (first | (with_reducible first | exact HB.1 ) )))) : wr.heap.size ≤ gk); have m0_ := Sd.mk (kB (by (with_reducible repeat (fail)); exact BKg1.1) hb); have m1_ := Sd.mk (kB (by (with_reducible repeat (fail)); exact BKg2.1) hb); have m2_ := Sd.mk (kB (by (with_reducible repeat (fail)); exact BKg3.1) hb); have NEg1gk := Sd.mk (by rw [hg]; exact Nat.ne_of_lt (blk_lt (by (with_reducible repeat (fail)); exact BKg1.1)) : g1 ≠ gk); have NEg2gk := Sd.mk (by rw [hg]; exact Nat.ne_of_lt (blk_lt (by (with_reducible repeat (fail)); exact BKg2.1)) : g2 ≠ gk); have NEg3gk := Sd.mk (by rw [hg]; exact Nat.ne_of_lt (blk_lt (by (with_reducible repeat (fail)); exact BKg3.1)) : g3 ≠ gk); clear HB; have HB := n0_; have BKgk := n1_; have GEgk := n2_; clear n0_ n1_ n2_; clear BKg1; have BKg1 := m0_; clear m0_; clear BKg2; have BKg2 := m1_; clear m1_; clear BKg3; have BKg3 := m2_; clear m2_; clear hb hbox hg; have z_w4gk_0 : w4.cell? ⟨gk, 0, none⟩ = some (.int .i64 0) := (kC BKgk.1 0).trans rfl; have hfzw4gk_0 := kF BKgk.1 0; have z_w4gk_1 : w4.cell? ⟨gk, 1, none⟩ = some (.int .i64 0) := (kC BKgk.1 1).trans rfl; have hfzw4gk_1 := kF BKgk.1 1; have z_w4gk_2 : w4.cell? ⟨gk, 2, none⟩ = some (.int .i64 0) := (kC BKgk.1 2).trans rfl; have hfzw4gk_2 := kF BKgk.1 2) | ((with_reducible refine gate_store (t := 91) (p := 9) rfl ?_); refine store_event (t := 91) (p := 9) (v := ?vo) (w1 := (((w4.setCell ⟨gk, 0, none⟩ (.int .i64 ((m : Int) + 1))).setCell ⟨gk, 1, none⟩ (.int .i64 a)).setCell ⟨gk, 2, none⟩ (.int .i64 (s : Int)))) ?hg ?ho ?hn ?hr ?_; (case ho => rfl); (case hg => rfl); (case hn => rfl); (case hr => first | (go_simp; done) ); intro w5 hw5; have mg1_ := Sd.mk (show w5.heap[g1]? = some (.cells #[.int .i64 a0_0, .int .i64 a0_1, .slice A0_2 l0_2.length c0_2, .slice A0_3 l0_3.length c0_3] 32 (0, 0)) by rw [hw5]; exact blk_far (p := ⟨gk, 2, none⟩) (blk_far (p := ⟨gk, 1, none⟩) (blk_far (p := ⟨gk, 0, none⟩) BKg1.1 NEg1gk.1 _) NEg1gk.1 _) NEg1gk.1 _); have mg2_ := Sd.mk (show w5.heap[g2]? = some (.cells #[.slice AC codes.length cC] 23 (0, 0)) by rw [hw5]; exact blk_far (p := ⟨gk, 2, none⟩) (blk_far (p := ⟨gk, 1, none⟩) (blk_far (p := ⟨gk, 0, none⟩) BKg2.1 NEg2gk.1 _) NEg2gk.1 _) NEg2gk.1 _); have mg3_ := Sd.mk (show w5.heap[g3]? = some (.cells #[.slice AG gs.length cG] 71 (0, 0)) by rw [hw5]; exact blk_far (p := ⟨gk, 2, none⟩) (blk_far (p := ⟨gk, 1, none⟩) (blk_far (p := ⟨gk, 0, none⟩) BKg3.1 NEg3gk.1 _) NEg3gk.1 _) NEg3gk.1 _); have mk_ := Sd.mk (show w5.heap[gk]? = some (.cells #[.int .i64 ((m : Int) + 1), .int .i64 a, .int .i64 (s : Int)] 91 (0, 0)) by rw [hw5]; exact blk_put (blk_put (blk_put BKgk.1 0 _ rfl) 1 _ rfl) 2 _ rfl); have mb_ := Sd.mk (show Below wr.heap.size wr w5 by rw [hw5]; exact bS (bS (bS HB.1 GEgk.1) GEgk.1) GEgk.1); clear hw5 BKg1 BKg2 BKg3 BKgk HB; have BKg1 := mg1_; have BKg2 := mg2_; have BKg3 := mg3_; have BKgk := mk_; have HB := mb_; clear mg1_ mg2_ mg3_ mk_ mb_; have z_5g3_0 : w5.cell? ⟨g3, 0, none⟩ = some (.slice AG gs.length cG) := (kC BKg3.1 0).trans rfl) | (go_at_call 95; refine (allGuess 98 #[] #[.pointer (some ⟨g1, 0, none⟩), .pointer (some ⟨gk, 0, none⟩), .pointer (some ⟨g2, 0, none⟩)] AG cG gs (agreeB a0_0 codes ⟨(m : Int) + 1, a, (s : Int)⟩) _ (Kd.C_below HRG.1 (bT HBW.1 (by repeat (first | (with_reducible first | exact HB.1 ) )))) ⟨fun args w => by go_simp, fun x hx W2 hW2 => ?ft⟩).mono ?_; (case ft => have hb2 := below_grow (bT HBW.1 (by repeat (first | (with_reducible first | exact HB.1 ) ))) hW2; have hfx := fine_at HN.1 (List.all_eq_true.1 HFI.1 x hx); exact agree_clo a0_0 a0_1 A0_2 c0_2 l0_2 A0_3 c0_3 l0_3 ((m : Int) + 1) a (s : Int) AC cC codes x g1 gk g2 W2 (Kd.C_below HR0_2.1 hb2) HC0_2.1 (Kd.C_below HR0_3.1 hb2) HC0_3.1 (Kd.C_below HRC.1 hb2) (kB (by (with_reducible repeat (fail)); exact BKg1.1) hW2) (kB (by (with_reducible repeat (fail)); exact BKgk.1) hW2) (kB (by (with_reducible repeat (fail)); exact BKg2.1) hW2) (by have := HZ0.1; omega) hfx.1 hfx.2); rintro e w6 ⟨rfl, hb⟩; have n0_ := Sd.mk (bT (by repeat (first | (with_reducible first | exact HB.1 ) )) hb); have m0_ := Sd.mk (kB (by (with_reducible repeat (fail)); exact BKg1.1) hb); have m1_ := Sd.mk (kB (by (with_reducible repeat (fail)); exact BKg2.1) hb); have m2_ := Sd.mk (kB (by (with_reducible repeat (fail)); exact BKg3.1) hb); have m3_ := Sd.mk (kB (by (with_reducible repeat (fail)); exact BKgk.1) hb); clear HB; have HB := n0_; clear n0_; clear BKg1; have BKg1 := m0_; clear m0_; clear BKg2; have BKg2 := m1_; clear m1_; clear BKg3; have BKg3 := m2_; clear m2_; clear BKgk; have BKgk := m3_; clear m3_; clear hb; have z_w6gk_0 : w6.cell? ⟨gk, 0, none⟩ = some (.int .i64 ((m : Int) + 1)) := (kC BKgk.1 0).trans rfl; have z_w6gk_1 : w6.cell? ⟨gk, 1, none⟩ = some (.int .i64 a) := (kC BKgk.1 1).trans rfl; have z_w6gk_2 : w6.cell? ⟨gk, 2, none⟩ = some (.int .i64 (s : Int)) := (kC BKgk.1 2).trans rfl))
        go_roundw
        case rel => exact ⟨j + 1, by go_num, by omega, ⟨by rw [preL_skip codes gs m s j c3 a HA.1 hag]; exact abides_below HAB.1 HJ.1 HB.1⟩, BKg1, BKg2, BKg3, ⟨bT HBW.1 HB.1⟩, ⟨Nat.le_trans HSZ.1 HB.1.size⟩, ⟨Kd.R_below HRL.1 HB.1⟩⟩
        case measure => simp [intOf]; omega
       | true =>
        go_wp2_with (first | ((with_reducible refine gD (N := 9) rfl ?_); (try (refine gG (by rfl) ?_; dsimp only)); refine xE ?hg (N := 9) ?hd (cs := #[.int .i64 0, .int .i64 0, .int .i64 0]) (t := 91) ?hr ?_; (case hd => rfl); (case hg => rfl); (case hr => first | (go_simp; done) ); intro gk hg w4 hbox hb; have n0_ := Sd.mk (bT (by repeat (first | (with_reducible first | exact HB.1 ) )) hb); have n1_ := Sd.mk hbox; have n2_ := Sd.mk ((by rw [hg]; exact (bZ (by repeat (first | (with_reducible first | exact HB.1 ) )))) : wr.heap.size ≤ gk); have m0_ := Sd.mk (kB (by (with_reducible repeat (fail)); exact BKg1.1) hb); have m1_ := Sd.mk (kB (by (with_reducible repeat (fail)); exact BKg2.1) hb); have m2_ := Sd.mk (kB (by (with_reducible repeat (fail)); exact BKg3.1) hb); have NEg1gk := Sd.mk (by rw [hg]; exact Nat.ne_of_lt (blk_lt (by (with_reducible repeat (fail)); exact BKg1.1)) : g1 ≠ gk); have NEg2gk := Sd.mk (by rw [hg]; exact Nat.ne_of_lt (blk_lt (by (with_reducible repeat (fail)); exact BKg2.1)) : g2 ≠ gk); have NEg3gk := Sd.mk (by rw [hg]; exact Nat.ne_of_lt (blk_lt (by (with_reducible repeat (fail)); exact BKg3.1)) : g3 ≠ gk); clear HB; have HB := n0_; have BKgk := n1_; have GEgk := n2_; clear n0_ n1_ n2_; clear BKg1; have BKg1 := m0_; clear m0_; clear BKg2; have BKg2 := m1_; clear m1_; clear BKg3; have BKg3 := m2_; clear m2_; clear hb hbox hg; have z_w4gk_0 : w4.cell? ⟨gk, 0, none⟩ = some (.int .i64 0) := (kC BKgk.1 0).trans rfl; have hfzw4gk_0 := kF BKgk.1 0; have z_w4gk_1 : w4.cell? ⟨gk, 1, none⟩ = some (.int .i64 0) := (kC BKgk.1 1).trans rfl; have hfzw4gk_1 := kF BKgk.1 1; have z_w4gk_2 : w4.cell? ⟨gk, 2, none⟩ = some (.int .i64 0) := (kC BKgk.1 2).trans rfl; have hfzw4gk_2 := kF BKgk.1 2) | ((with_reducible refine gate_store (t := 91) (p := 9) rfl ?_); refine store_event (t := 91) (p := 9) (v := ?vo) (w1 := (((w4.setCell ⟨gk, 0, none⟩ (.int .i64 ((m : Int) + 1))).setCell ⟨gk, 1, none⟩ (.int .i64 a)).setCell ⟨gk, 2, none⟩ (.int .i64 (s : Int)))) ?hg ?ho ?hn ?hr ?_; (case ho => rfl); (case hg => rfl); (case hn => rfl); (case hr => first | (go_simp; done) ); intro w5 hw5; have mg1_ := Sd.mk (show w5.heap[g1]? = some (.cells #[.int .i64 a0_0, .int .i64 a0_1, .slice A0_2 l0_2.length c0_2, .slice A0_3 l0_3.length c0_3] 32 (0, 0)) by rw [hw5]; exact blk_far (p := ⟨gk, 2, none⟩) (blk_far (p := ⟨gk, 1, none⟩) (blk_far (p := ⟨gk, 0, none⟩) BKg1.1 NEg1gk.1 _) NEg1gk.1 _) NEg1gk.1 _); have mg2_ := Sd.mk (show w5.heap[g2]? = some (.cells #[.slice AC codes.length cC] 23 (0, 0)) by rw [hw5]; exact blk_far (p := ⟨gk, 2, none⟩) (blk_far (p := ⟨gk, 1, none⟩) (blk_far (p := ⟨gk, 0, none⟩) BKg2.1 NEg2gk.1 _) NEg2gk.1 _) NEg2gk.1 _); have mg3_ := Sd.mk (show w5.heap[g3]? = some (.cells #[.slice AG gs.length cG] 71 (0, 0)) by rw [hw5]; exact blk_far (p := ⟨gk, 2, none⟩) (blk_far (p := ⟨gk, 1, none⟩) (blk_far (p := ⟨gk, 0, none⟩) BKg3.1 NEg3gk.1 _) NEg3gk.1 _) NEg3gk.1 _); have mk_ := Sd.mk (show w5.heap[gk]? = some (.cells #[.int .i64 ((m : Int) + 1), .int .i64 a, .int .i64 (s : Int)] 91 (0, 0)) by rw [hw5]; exact blk_put (blk_put (blk_put BKgk.1 0 _ rfl) 1 _ rfl) 2 _ rfl); have mb_ := Sd.mk (show Below wr.heap.size wr w5 by rw [hw5]; exact bS (bS (bS HB.1 GEgk.1) GEgk.1) GEgk.1); clear hw5 BKg1 BKg2 BKg3 BKgk HB; have BKg1 := mg1_; have BKg2 := mg2_; have BKg3 := mg3_; have BKgk := mk_; have HB := mb_; clear mg1_ mg2_ mg3_ mk_ mb_; have z_5g3_0 : w5.cell? ⟨g3, 0, none⟩ = some (.slice AG gs.length cG) := (kC BKg3.1 0).trans rfl) | (go_at_call 95; refine (allGuess 98 #[] #[.pointer (some ⟨g1, 0, none⟩), .pointer (some ⟨gk, 0, none⟩), .pointer (some ⟨g2, 0, none⟩)] AG cG gs (agreeB a0_0 codes ⟨(m : Int) + 1, a, (s : Int)⟩) _ (Kd.C_below HRG.1 (bT HBW.1 (by repeat (first | (with_reducible first | exact HB.1 ) )))) ⟨fun args w => by go_simp, fun x hx W2 hW2 => ?ft⟩).mono ?_; (case ft => have hb2 := below_grow (bT HBW.1 (by repeat (first | (with_reducible first | exact HB.1 ) ))) hW2; have hfx := fine_at HN.1 (List.all_eq_true.1 HFI.1 x hx); exact agree_clo a0_0 a0_1 A0_2 c0_2 l0_2 A0_3 c0_3 l0_3 ((m : Int) + 1) a (s : Int) AC cC codes x g1 gk g2 W2 (Kd.C_below HR0_2.1 hb2) HC0_2.1 (Kd.C_below HR0_3.1 hb2) HC0_3.1 (Kd.C_below HRC.1 hb2) (kB (by (with_reducible repeat (fail)); exact BKg1.1) hW2) (kB (by (with_reducible repeat (fail)); exact BKgk.1) hW2) (kB (by (with_reducible repeat (fail)); exact BKg2.1) hW2) (by have := HZ0.1; omega) hfx.1 hfx.2); rintro e w6 ⟨rfl, hb⟩; have n0_ := Sd.mk (bT (by repeat (first | (with_reducible first | exact HB.1 ) )) hb); have m0_ := Sd.mk (kB (by (with_reducible repeat (fail)); exact BKg1.1) hb); have m1_ := Sd.mk (kB (by (with_reducible repeat (fail)); exact BKg2.1) hb); have m2_ := Sd.mk (kB (by (with_reducible repeat (fail)); exact BKg3.1) hb); have m3_ := Sd.mk (kB (by (with_reducible repeat (fail)); exact BKgk.1) hb); clear HB; have HB := n0_; clear n0_; clear BKg1; have BKg1 := m0_; clear m0_; clear BKg2; have BKg2 := m1_; clear m1_; clear BKg3; have BKg3 := m2_; clear m2_; clear BKgk; have BKgk := m3_; clear m3_; clear hb; have z_w6gk_0 : w6.cell? ⟨gk, 0, none⟩ = some (.int .i64 ((m : Int) + 1)) := (kC BKgk.1 0).trans rfl; have z_w6gk_1 : w6.cell? ⟨gk, 1, none⟩ = some (.int .i64 a) := (kC BKgk.1 1).trans rfl; have z_w6gk_2 : w6.cell? ⟨gk, 2, none⟩ = some (.int .i64 (s : Int)) := (kC BKgk.1 2).trans rfl; refine hide_goal ?_))
        refine ⟨?_⟩
        repeat (first | (with_reducible refine gate_region11 (n := n) ?_) | go_step)
        refine ⟨?_⟩
        have hJ6 := abides_below HAB.1 HJ.1 HB.1
        obtain ⟨fn, tmps, assign, body, hy, hR⟩ := HY.1 _ ⟨(m : Int) + 1, a, (s : Int)⟩ w6 hJ6 (preL_le hz1 codes gs m s j (by omega) (by omega)) (goodK_at hz0 codes gs m s j c1 c2 c3 a HA.1)
        dsimp only [encS91] at hy
        gi_wp2
        refine ⟨fun h => (by simp [Fence.wide] at h), hR.mono ?_⟩
        rintro e W3 (⟨rfl, hJ3, hk3⟩ | ⟨rfl, hJx3⟩)
        ·gi_wp2
         go_wp2
         go_roundw
         case rel => exact ⟨j + 1, by go_num, by omega, ⟨by rw [preL_next codes gs m s j c3 a HA.1 hag]; exact hJ3⟩, ⟨hk3.2 g1 _ _ (fun hb => (HBAD.1 g1 hb).2.1 rfl) BKg1.1⟩, ⟨hk3.2 g2 _ _ (fun hb => (HBAD.1 g2 hb).2.2.1 rfl) BKg2.1⟩, ⟨hk3.2 g3 _ _ (fun hb => (HBAD.1 g3 hb).2.2.2 rfl) BKg3.1⟩, ⟨(bT HBW.1 HB.1).trans hk3.1⟩, ⟨Nat.le_trans HSZ.1 (Nat.le_trans HB.1.size hk3.1.size)⟩, ⟨R_kp (Kd.R_below HRL.1 HB.1) hk3 HBL.1⟩⟩
         case measure => simp [intOf]; omega
        ·gi_wp2
         go_wp2
         refine bodyPost_ret (results_none rfl _ _ _) rfl ?_
         exact ⟨⟨_, rfl⟩, .inr ⟨_, trivial, hJx3⟩⟩
      ·go_wp2
       go_roundw
       case rel => exact ⟨s + 1, by go_num, by omega, ⟨by rw [← preL_row, show (addsV a0_0 codes gs ((m : Int) + 1) (s : Int)).length = j by omega]; exact HJ.1⟩, BKg1, BKg2, BKg3, HBW, HSZ⟩
       case measure => simp [intOf]; omega
    ·go_wp2
     go_roundw
     case rel => exact ⟨m + 1, by go_num, by omega, ⟨by rw [← preL_m codes gs m s (by omega)]; exact HJ.1⟩, BKg1, BKg2, BKg3, HBW, HSZ⟩
     case measure => simp [intOf]; omega
  ·go_wp2
   go_end0
   exact ⟨⟨_, rfl⟩, .inl ⟨_, rfl, by rw [← preL_end codes gs m (by omega)]; exact HJ.1⟩⟩
end Go.Proofs.Ytnidgkmopocdkaa.P
