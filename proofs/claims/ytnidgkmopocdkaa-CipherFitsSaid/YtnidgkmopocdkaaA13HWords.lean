import Derived.Test.YtnidgkmopocdkaaA13HTurn
import Derived.Test.YtnidgkmopocdkaaA13P3
import Derived.Lib.SliceRun
import Derived.WalkSpells
namespace Go.Proofs.Ytnidgkmopocdkaa.P
open Go.RowKit Go.Proofs.YtnidgkmopocdkaaW.PrintWords Go.Proofs.YtnidgkmopocdkaaW.PrintLast Go.Proofs.YtnidgkmopocdkaaW.PrintMore
set_option linter.unusedVariables false
set_option linter.unusedSimpArgs false
theorem clone_some (ad : Addr) (c0 : Nat) (l0 : List Int) (w : World) (hr0 : Kd.C (Kd.int .i64) w (some ad) l0.length l0) (hl : l0.length < 1000) :
  Calls Try.prog 68 #[.slice (some ad) l0.length c0] w fun e w' => ∃ v0_ : Value, e = .returned (v0_) ∧ Kd.R (Kd.int .i64) 3 w' w.heap.size (fun _ => True) v0_ l0 ∧ Below w.heap.size w w' := by
 have HR0 := Sd.mk hr0
 have HL := Sd.mk hl
 clear hr0 hl
 have HB := Sd.mk (Below.refl w.heap.size w)
 have hnil := fun (W : World) (n c n' c' : Nat) => Lib.run_eql_slice_nil (P := Try.prog) W 23 3 (some ad) n c n' c' Try.underlying23
 go_enter Try.func68, Try.ntmps68
 go_wp2_with (first | ((with_reducible refine gD (N := 5) rfl ?_); refine Kd.R_lit (Kd.int .i64) _ 3 ?hg (N := 5) ?hd (xs := ([] : List Int)) (inner := []) (ok := fun _ => True) (okp := fun _ => True) ?hr ?hp (fun _ hk => hk) trivial (Below.refl _ _) (Nat.le_refl _) (by simp) ?_; (case hd => rfl); (case hg => rfl); (case hr => first | (go_simp; done) ); (case hp => exact (Reps.none _ _)); intro v184 w3 ho4 hb hg_ hnew_; clear hg_ hnew_; have HO185 := Sd.mk (Kd.R_lower ho4 (bZ (by repeat (first | (with_reducible first | exact HB.1 ) )))); replace HB := Sd.mk (bT (by repeat (first | (with_reducible first | exact HB.1 ) )) hb); clear hb ho4) | ((with_reducible refine gate_builtin (b := .append) (xs := #[.tmp 5, .tmp 6]) rfl ?_); at_builtin; refine Kd.R_append_rows (Kd.int .i64) (w0 := w) w.heap.size rfl (.tmp 5) (.tmp 6) 23 3 (.int .i64 0) 8 rfl Try.underlying23 info3 rfl (by decide) (by omega) v184 [] l0 _ _ _ (fun _ => True) (fun _ => False) rfl rfl ?aO ?aR (fun _ _ h => h) (fun _ h => h.elim) ?aF ?aB ?aS ?aL ?_; (case aR => repeat (first | exact (Kd.C_below HR0.1 HB.1) )); (case aB => exact (by repeat (first | (with_reducible first | exact HB.1 ) ))); (case aF => exact (fun _ _ => trivial)); (case aO => exact (by (with_reducible repeat (fail)); exact HO185.1)); (case aS => exact (bZ (by repeat (first | (with_reducible first | exact HB.1 ) )))); (case aL => have := HL.1; simp only [List.length_nil]; omega); intro v187 w5 ho hb hg hat; replace HB := Sd.mk (hb); have HO188 := Sd.mk (ho); clear HO185; clear ho hb hg hat))
 go_ret
 exact ⟨_, rfl, HO188.1, HB.1⟩
theorem clone_nil (n c0 : Nat) (w : World) :
  Calls Try.prog 68 #[.slice none n c0] w fun e w' => e = .returned (.slice none 0 0) ∧ Below w.heap.size w w' := by
 have HB := Sd.mk (Below.refl w.heap.size w)
 have hnil := fun (W : World) (n c n' c' : Nat) => Lib.run_eql_slice_nil (P := Try.prog) W 23 3 none n c n' c' Try.underlying23
 go_enter Try.func68, Try.ntmps68
 go_wp2
 go_ret
 exact ⟨rfl, HB.1⟩
theorem clone_any (A : Option Addr) (c0 : Nat) (l0 : List Int) (w : World) (hr0 : Kd.C (Kd.int .i64) w A l0.length l0) (hl : l0.length < 1000) :
  Calls Try.prog 68 #[.slice A l0.length c0] w fun e w' => ∃ v0_ : Value, e = .returned (v0_) ∧ Kd.R (Kd.int .i64) 3 w' w.heap.size (fun _ => True) v0_ l0 ∧ Below w.heap.size w w' := by
 cases A with
 | some ad => exact clone_some ad c0 l0 w hr0 hl
 | none =>
  have h0 : l0 = [] := by
   cases l0 with
   | nil => rfl
   | cons x xs =>
    obtain ⟨ad, e, _⟩ := Kd.at_int hr0 0 (by omega) (by simp)
    cases e
  subst h0
  exact (clone_nil _ _ w).mono fun e w' ⟨he, hb⟩ => ⟨_, he, Kd.R_nil _ _ _ _ _, hb⟩
def putAll (xs : List Int) (o : Nat) : List Int → List Int
 | [] => xs
 | v :: vs => putAll (xs.set o v) (o + 1) vs
theorem putAll_take (i : Nat) : ∀ (vs xs : List Int) (o : Nat), i ≤ o → (putAll xs o vs).take i = xs.take i
 | [], _, _, _ => rfl
 | v :: vs, xs, o, h => by
  rw [putAll, putAll_take i vs _ _ (by omega), List.take_set_of_le h]
theorem putAll_length : ∀ (vs xs : List Int) (o : Nat), (putAll xs o vs).length = xs.length
 | [], _, _ => rfl
 | v :: vs, xs, o => by rw [putAll, putAll_length vs, List.length_set]
theorem R_setCells {e base g n cap : Nat} {ok : Nat → Prop} : ∀ (vs : List Int) (o : Nat) {W : World} {xs : List Int}, (Kd.int .i64).R e W base ok (.slice (some ⟨g, 0, none⟩) n cap) xs → (Kd.int .i64).R e (W.setCells g o (vs.map (Value.int .i64))) base ok (.slice (some ⟨g, 0, none⟩) n cap) (putAll xs o vs)
 | [], _, _, _, h => h
 | v :: vs, o, W, xs, h => by
  have h1 := (Kd.R_putg h (o : Int) v).1
  rw [Int.toNat_natCast] at h1
  exact R_setCells vs (o + 1) h1
def keptL (wd : Int) (l : List Int) (j : Nat) : List Int := (l.take j).filter fun n => !decide (wd ≤ n)
theorem keptL_succ (wd : Int) (l : List Int) (j : Nat) (h : j < l.length) : keptL wd l (j + 1) = if wd ≤ l[j] then keptL wd l j else keptL wd l j ++ [l[j]] := by
 unfold keptL
 rw [List.take_succ_eq_append_getElem h, List.filter_append]
 by_cases hw : wd ≤ l[j] <;> simp [hw, List.filter_cons]
theorem belowCells {B : Nat} {a : World} (b : Nat) (hb : B ≤ b) : ∀ (vs : List Value) (o : Nat) {w : World}, Below B a w → Below B a (w.setCells b o vs)
 | [], _, _, h => h
 | v :: r, o, _, h => belowCells b hb r (o + 1) (h.setCell (p := ⟨b, o, none⟩) hb v)
theorem idxP_cases (wd : Int) (l : List Int) : (idxP (fun n => decide (wd ≤ n)) l = -1 ∧ keptL wd l l.length = l) ∨ ∃ i : Nat, idxP (fun n => decide (wd ≤ n)) l = i ∧ i < l.length ∧ keptL wd l (i + 1) = l.take i := by
 unfold idxP
 cases h : l.findIdx? (fun n => decide (wd ≤ n)) with
 | none =>
  left
  refine ⟨rfl, ?_⟩
  rw [List.findIdx?_eq_none_iff] at h
  unfold keptL
  rw [List.take_length, List.filter_eq_self]
  intro x hx
  simp [h x hx]
 | some i =>
  right
  obtain ⟨hi, hp, hb⟩ := List.findIdx?_eq_some_iff_getElem.1 h
  refine ⟨i, rfl, hi, ?_⟩
  rw [keptL_succ wd l i hi, if_pos (by simpa using hp)]
  unfold keptL
  rw [List.filter_eq_self]
  intro x hx
  obtain ⟨j, hj, rfl⟩ := List.mem_iff_getElem.1 hx
  rw [List.length_take] at hj
  have := hb j (by omega)
  rw [List.getElem_take]
  simpa using this
theorem null_any (bs : Array Value) (wd n : Int) (gb : Nat) (w : World) (hk : w.heap[gb]? = some (.cells bs 32 (0, 0))) (hw : bs[1]? = some (.int .i64 wd)) :
  Calls Try.prog 69 #[.int .i64 n, .pointer (some ⟨gb, 0, none⟩)] w fun e w' => e = .returned (.bool (decide (wd ≤ n))) ∧ w = w' := by
 have hu32 := Try.underlying32
 have hc1 : w.cell? ⟨gb, 1, none⟩ = some (.int .i64 wd) := (kC hk 1).trans hw
 clear hk hw
 go_enter Try.func69, Try.ntmps69
 go_wp2
 go_ret
 exact ⟨rfl, rfl⟩
set_option maxHeartbeats 2000000 in
set_option maxRecDepth 100000 in
theorem delete_any (bs : Array Value) (wd : Int) (gb : Nat) (v : Value) (l : List Int) (W0 w : World) (hR : Kd.R (Kd.int .i64) 3 w W0.heap.size (fun _ => True) v l) (hl : l.length < 1000)
  (hb : Below W0.heap.size W0 w) (hk : w.heap[gb]? = some (.cells bs 32 (0, 0))) (hgb : gb < W0.heap.size) (hw : bs[1]? = some (.int .i64 wd)) :
  Calls Try.prog 67 #[v, .func (.func 69) #[] #[.pointer (some ⟨gb, 0, none⟩)]] w fun e w' => ∃ v0_ : Value, e = .returned (v0_) ∧ Kd.R (Kd.int .i64) 3 w' W0.heap.size (fun _ => True) v0_ (keptL wd l l.length) ∧ Below W0.heap.size W0 w' := by
 have HL := Sd.mk hl
 have HK := Sd.mk hk
 have HW := Sd.mk hw
 have HG := Sd.mk hgb
 have HI := Sd.mk (idxP_cases wd l)
 have hB0 := Sd.mk hb
 clear hl hk hw hgb hb
 obtain ⟨A, c, rfl⟩ := Kd.R_slice hR
 have HC := Sd.mk (Kd.R_reads' hR).2.2
 have HO := Sd.mk hR
 clear hR
 go_enter Try.func67, Try.ntmps67
 go_wp2_with fail
 refine (idxInt 69 #[] #[.pointer (some ⟨gb, 0, none⟩)] A c l (fun n => decide (wd ≤ n)) w HC.1 ⟨fun args w => by go_simp, fun x hx W hW => ?_⟩).mono ?_
 ·have h2 := null_any bs wd x gb W ((hW.block gb (blk_lt HK.1)).trans HK.1) HW.1
  exact h2.mono fun e w' ⟨he, hw'⟩ => ⟨he, hw' ▸ Below.refl _ _⟩
 rintro e w1 ⟨rfl, hb1⟩
 have HK1 := Sd.mk ((hb1.block gb (blk_lt HK.1)).trans HK.1)
 have HO1 := Sd.mk (Kd.R_below HO.1 hb1)
 have HB1 := Sd.mk (hB0.out.trans (hb1.mono hB0.out.size))
 clear hb1 HO HC
 rcases HI.1 with ⟨hi, hk⟩ | ⟨i, hi, hil, hk⟩
 ·rw [hi]
  have HKL := Sd.mk hk
  clear hi hk HI
  go_wp2
  go_ret
  exact ⟨_, rfl, by rw [HKL.1]; exact HO1.1, HB1.1⟩
 ·rw [hi]
  have hne : (((i : Nat) : Int) == -1) = false := by simp
  have HKL := Sd.mk hk
  have HIL := Sd.mk hil
  obtain ⟨g0, cap, hA⟩ : ∃ g0 cap, Value.slice A l.length c = .slice (some ⟨g0, 0, none⟩) l.length cap ∧ W0.heap.size ≤ g0 := by
   obtain ⟨g0, cap, he, hb, _⟩ := Kd.R_form HO1.1 (by omega)
   exact ⟨g0, cap, he, hb⟩
  obtain ⟨hA, hg0⟩ := hA
  have HG0 := Sd.mk hg0
  clear hi hk HI hg0 hil
  injection hA with hA1 hA2 hA3
  subst hA1
  subst hA3
  clear hA2
  have hlm := HL.1
  have hil2 := HIL.1
  go_wp2
  go_loopw [5, 6, 7] (fun v5 v6 v7 wr => ∃ (j : Nat) (cur : List Int), v6 = .int .i64 j ∧ v5 = .int .i64 ((keptL wd l j).length : Int) ∧ j ≤ l.length ∧ (keptL wd l j).length < j ∧ Sd (cur.length = l.length ∧ cur.take (keptL wd l j).length = keptL wd l j ∧ cur.drop j = l.drop j) ∧ Sd (Kd.R (Kd.int .i64) 3 wr W0.heap.size (fun _ => True) (.slice (some ⟨g0, 0, none⟩) l.length c) cur) ∧ Sd (wr.heap[gb]? = some (.cells bs 32 (0, 0))) ∧ Sd (Below W0.heap.size W0 wr)) (fun v5 v6 v7 wr => l.length - (intOf v6).toNat)
  case atStart =>
   have hlen : (keptL wd l (i + 1)).length = i := by rw [HKL.1, List.length_take]; omega
   exact ⟨i + 1, l, by go_num, by rw [hlen], by omega, by omega, ⟨rfl, by rw [hlen, HKL.1], rfl⟩, HO1, HK1, HB1⟩
  case round =>
   obtain ⟨j, cur, rfl, rfl, hle, hkj, HCur, HO, HK2, HB⟩ := hrel
   clear HO1 HK1 HB1
   by_cases c4 : j < l.length
   ·obtain ⟨hc0, hz0⟩ := Kd.R_celln (0 : Int) HO.1 (j : Int) (by omega) (by omega)
    rw [Int.toNat_natCast] at hc0 hz0
    have hval : rdOf (0 : Int) cur (j : Int) = l[j] := by
     have h1 := HCur.1.2.2
     have h2 : j < cur.length := by rw [HCur.1.1]; exact c4
     unfold rdOf
     rw [Int.toNat_natCast]
     have h3 : (cur.drop j)[0]? = (l.drop j)[0]? := by rw [h1]
     rw [List.getElem?_drop, List.getElem?_drop] at h3
     simp only [Nat.add_zero] at h3
     rw [List.getD_eq_getElem?_getD, h3, List.getElem?_eq_getElem c4]; rfl
    rw [hval] at hc0
    have hks := keptL_succ wd l j c4
    have HKS := Sd.mk hks
    clear hks hval
    by_cases c5 : wd ≤ l[j]
    ·have hd : decide (wd ≤ l[j]) = true := decide_eq_true c5
     have hkk : keptL wd l (j + 1) = keptL wd l j := by rw [HKS.1, if_pos c5]
     have HKK := Sd.mk hkk
     clear hkk c5
     go_wp2_with (go_at_call 69; refine (null_any bs wd l[j] gb _ HK2.1 HW.1).mono ?_; rintro e w' ⟨rfl, rfl⟩)
     go_roundw
     case rel => exact ⟨j + 1, cur, by go_num, by rw [HKK.1], by omega, by rw [HKK.1]; omega, ⟨HCur.1.1, by rw [HKK.1]; exact HCur.1.2.1, by have := congrArg (List.drop 1) HCur.1.2.2; simpa [List.drop_drop] using this⟩, HO, HK2, HB⟩
     case measure => simp [intOf]; omega
    ·have hd : decide (wd ≤ l[j]) = false := decide_eq_false c5
     have hkk : keptL wd l (j + 1) = keptL wd l j ++ [l[j]] := by rw [HKS.1, if_neg c5]
     have HKK := Sd.mk hkk
     clear hkk c5
     obtain ⟨hc1, hz1⟩ := Kd.R_celln (0 : Int) HO.1 ((keptL wd l j).length : Int) (by omega) (by omega)
     rw [Int.toNat_natCast] at hc1 hz1
     have HP := Sd.mk (Kd.R_putg HO.1 ((keptL wd l j).length : Int) l[j])
     rw [Int.toNat_natCast] at HP
     go_wp2_with (go_at_call 69; refine (null_any bs wd l[j] gb _ HK2.1 HW.1).mono ?_; rintro e w' ⟨rfl, rfl⟩)
     go_roundw
     case rel => exact ⟨j + 1, cur.set (keptL wd l j).length l[j], by go_num, by rw [HKK.1, List.length_append]; go_num, by omega, by rw [HKK.1, List.length_append]; simp only [List.length_cons, List.length_nil]; omega, ⟨by rw [List.length_set]; exact HCur.1.1, by
      rw [HKK.1, List.length_append]
      show List.take ((keptL wd l j).length + 1) _ = _
      have h2 : (keptL wd l j).length < (cur.set (keptL wd l j).length l[j]).length := by rw [List.length_set, HCur.1.1]; omega
      rw [List.take_succ_eq_append_getElem h2, List.getElem_set_self, List.take_set_of_le (Nat.le_refl _), HCur.1.2.1], by
      rw [List.drop_set_of_lt (by omega)]
      have := congrArg (List.drop 1) HCur.1.2.2
      simpa [List.drop_drop] using this⟩, ⟨HP.1.1⟩, ⟨blk_grown HK2.1 HP.1.2 (by have := HG.1; have := HG0.1; intro e_; injection e_; omega)⟩, ⟨HB.1.setCell (p := ⟨g0, _, none⟩) HG0.1 _⟩⟩
     case measure => simp [intOf]; omega
   ·obtain rfl : j = l.length := by omega
    have hcl : ∀ ty, (Builtin.clear_ #[23] ty #[.slice (some ⟨g0, (keptL wd l l.length).length, none⟩) (l.length - (keptL wd l l.length).length) (c - (keptL wd l l.length).length)]).run Try.prog wr = .ok (.tuple #[]) (wr.setCells g0 (keptL wd l l.length).length (List.replicate (l.length - (keptL wd l l.length).length) (.int .i64 0))) :=
     fun ty => Lib.run_clear_slice (P := Try.prog) wr 23 3 ty (.int .i64 0) Try.underlying23 (fun w => by kernel_rfl) rfl rfl g0 (keptL wd l l.length).length _ _ (by omega) (fun t ht => by
      have h := (Kd.R_celln (0 : Int) HO.1 (((keptL wd l l.length).length + t : Nat) : Int) (by omega) (by omega)).1
      rw [Int.toNat_natCast] at h
      rw [h]; rfl) (fun t ht => by
      have h := (Kd.R_celln (0 : Int) HO.1 (((keptL wd l l.length).length + t : Nat) : Int) (by omega) (by omega)).2
      rw [Int.toNat_natCast] at h
      exact h)
    have hcap : l.length ≤ c := (Kd.R_reads' HO.1).2.1
    go_wp2
    go_ret
    refine ⟨_, rfl, ?_, belowCells g0 HG0.1 _ _ HB.1⟩
    have h1 := R_setCells (List.replicate (l.length - (keptL wd l l.length).length) 0) (keptL wd l l.length).length HO.1
    rw [List.map_replicate] at h1
    have h2 := Kd.R_take (m := (keptL wd l l.length).length) h1 (by rw [putAll_length, HCur.1.1]; omega)
    rw [putAll_take _ _ _ _ (Nat.le_refl _), HCur.1.2.1] at h2
    exact h2
def cipher_words.f (l0 : List Int) (a1_0 : Int) (a1_1 : Int) (l1_2 : List (S91)) (l1_3 : List Int) : Option (List Int) := if 1000 ≤ l0.length then none else some (keptL a1_1 l0 l0.length)
theorem words_eq {l r : List Int} {sz wd : Int} {keys : List S91} {days : List Int} (h : cipher_words.f l sz wd keys days = some r) : keptL wd l l.length = r := by
 unfold cipher_words.f at h
 split at h
 ·cases h
 ·exact Option.some.inj h
end Go.Proofs.Ytnidgkmopocdkaa.P
