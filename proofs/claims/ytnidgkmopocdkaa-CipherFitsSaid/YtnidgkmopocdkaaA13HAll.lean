import Derived.Test.YtnidgkmopocdkaaA13P0
namespace Go.Proofs.Ytnidgkmopocdkaa.P
open Go.RowKit Go.Proofs.YtnidgkmopocdkaaW.PrintWords Go.Proofs.YtnidgkmopocdkaaW.PrintLast Go.Proofs.YtnidgkmopocdkaaW.PrintMore
set_option linter.unusedVariables false
set_option linter.unusedSimpArgs false
structure FnTest {α : Type} (w0 : World) (fn : Nat) (first captured : Array Value) (enc : α → Value) (l : List α) (p : α → Bool) : Prop where
 run : ∀ args w, Sem.run Try.prog (callFunc fn args) w = .ok (.enter fn args) w
 call : ∀ x, x ∈ l → ∀ w, Below w0.heap.size w0 w → Calls Try.prog fn (first.push (enc x) ++ captured) w fun e w' => e = .returned (.bool (p x)) ∧ Below w.heap.size w w'
def idxP {α : Type} (p : α → Bool) (l : List α) : Int := match l.findIdx? p with | some i => (i : Int) | none => -1
theorem idxP_any {α : Type} (p : α → Bool) (l : List α) : decide (0 ≤ idxP p l) = l.any p := by
 unfold idxP
 cases h : l.findIdx? p with
 | none =>
  rw [List.findIdx?_eq_none_iff] at h
  have : l.any p = false := by rw [List.any_eq_false]; exact fun x hx => by simp [h x hx]
  rw [this]; simp
 | some i =>
  have h' := List.findIdx?_eq_some_iff_getElem.1 h
  obtain ⟨hi, hp, _⟩ := h'
  have : l.any p = true := List.any_eq_true.2 ⟨l[i], List.getElem_mem hi, hp⟩
  rw [this]; simp
def NoneBefore {α : Type} (p : α → Bool) (l : List α) (i : Nat) : Prop := ∀ j (hj : j < i) (hl : j < l.length), p l[j] = false
theorem NoneBefore.succ {α : Type} {p : α → Bool} {l : List α} {i : Nat} (h : NoneBefore p l i) (hi : i < l.length) (hp : p l[i] = false) : NoneBefore p l (i + 1) := by
 intro j hj hl
 by_cases e : j = i
 ·subst e; exact hp
 ·exact h j (by omega) hl
theorem idxP_at {α : Type} {p : α → Bool} {l : List α} {i : Nat} (hb : NoneBefore p l i) (hi : i < l.length) (hp : p l[i] = true) : idxP p l = i := by
 unfold idxP
 have : l.findIdx? p = some i := List.findIdx?_eq_some_iff_getElem.2 ⟨hi, hp, fun j hj => by simp [hb j hj (by omega)]⟩
 rw [this]
theorem idxP_none {α : Type} {p : α → Bool} {l : List α} {i : Nat} (hb : NoneBefore p l i) (hi : l.length ≤ i) : idxP p l = -1 := by
 unfold idxP
 have : l.findIdx? p = none := List.findIdx?_eq_none_iff.2 (fun x hx => by
  obtain ⟨j, hj, rfl⟩ := List.mem_iff_getElem.1 hx
  exact hb j (by omega) hj)
 rw [this]
theorem ret_int_eq {k : IntKind} {a b : Int} (h : a = b) : Ending.returned (.int k a) = .returned (.int k b) := by rw [h]
theorem ret_bool_eq {a b : Bool} (h : a = b) : Ending.returned (.bool a) = .returned (.bool b) := by rw [h]
theorem below_grow {a b c : World} (h : Below a.heap.size a b) (k : Below b.heap.size b c) : Below a.heap.size a c := h.trans (k.mono h.size)
theorem getD_at {α : Type} (l : List α) (d : α) (i : Nat) (h : i < l.length) : l.getD ((i : Int).toNat) d = l[i] := by simp [List.getD, List.getElem?_eq_getElem h]
theorem any_all_not {α : Type} (p : α → Bool) (l : List α) : (!(l.any fun x => !(p x))) = l.all p := by
 induction l with
 | nil => rfl
 | cons a l ih => simp only [List.any_cons, List.all_cons, Bool.not_or, Bool.not_not, ih]
def encS91 (x : S91) : Value := .agg #[.int .i64 x.f0, .int .i64 x.f1, .int .i64 x.f2]
set_option maxHeartbeats 400000 in
set_option maxRecDepth 100000 in
theorem idxKey (fn : Nat) (first captured : Array Value) (A : Option Addr) (c : Nat) (l : List S91) (p : S91 → Bool) (w : World) (hr : Kd.C k91 w A l.length l) (hf : FnTest w fn first captured encS91 l p) :
  Calls Try.prog 99 #[.slice A l.length c, .func (.func fn) first captured] w fun e w' => e = .returned (.int .i64 (idxP p l)) ∧ Below w.heap.size w w' := by
 have HR := Sd.mk hr
 have HF := Sd.mk hf
 have HB := Sd.mk (Below.refl w.heap.size w)
 have HM := Sd.mk (Kd.C_max hr)
 clear hr hf
 have hrun := HF.1.run
 go_enter Try.func99, Try.ntmps99
 go_wp2
 go_loopw [5, 8] (fun v5 v8 w' => ∃ (x8 : Nat), v8 = .int .i64 x8 ∧ x8 ≤ l.length ∧ Sd (NoneBefore p l x8) ∧ Sd (Below w.heap.size w w')) (fun v5 v8 w' => l.length - (intOf v8).toNat)
 case atStart => exact ⟨0, rfl, Nat.zero_le _, ⟨fun j hj => absurd hj (by omega)⟩, HB⟩
 case round =>
  obtain ⟨x8, rfl, hle, HN, HB⟩ := hrel
  by_cases c4 : x8 < l.length
  ·obtain ⟨ad, e, hx0, hx1, hx2⟩ := at_T91 HR.1 (x8 : Int) (by omega) (by omega)
   cases e
   replace hx0 := (HB.1.cell (World.block_lt_of_cell? w _ hx0)).trans hx0
   replace hx1 := (HB.1.cell (World.block_lt_of_cell? w _ hx1)).trans hx1
   replace hx2 := (HB.1.cell (World.block_lt_of_cell? w _ hx2)).trans hx2
   have hg : rd_T91 l (x8 : Int) = l[x8] := getD_at l _ x8 c4
   have HG := Sd.mk hg
   clear hg
   have hm := HM.1
   rw [Int.toNat_natCast] at hx0 hx1 hx2
   go_wp2_with fail
   have hcall := HF.1.call l[x8] (List.getElem_mem c4) _ HB.1
   unfold encS91 at hcall
   rw [← HG.1] at hcall
   refine hcall.mono ?_
   rintro e w1 ⟨rfl, hb⟩
   have HB1 := Sd.mk (below_grow HB.1 hb)
   clear hb hcall
   cases hp : p (rd_T91 l (x8 : Int)) with
   | true =>
    have HP := Sd.mk hp
    clear hp
    go_wp2
    go_ret
    exact ⟨ret_int_eq (idxP_at HN.1 c4 (by rw [← HG.1]; exact HP.1)).symm, HB1.1⟩
   | false =>
    have HP := Sd.mk hp
    clear hp
    go_wp2
    go_roundw
    case rel => exact ⟨x8 + 1, by go_num, by omega, ⟨HN.1.succ c4 (by rw [← HG.1]; exact HP.1)⟩, HB1⟩
    case measure => simp [intOf]; omega
  ·have hm := HM.1
   go_wp2
   go_ret
   exact ⟨ret_int_eq (idxP_none HN.1 (by omega)).symm, HB.1⟩
set_option maxHeartbeats 400000 in
set_option maxRecDepth 100000 in
theorem containsKey (fn : Nat) (first captured : Array Value) (A : Option Addr) (c : Nat) (l : List S91) (p : S91 → Bool) (w : World) (hr : Kd.C k91 w A l.length l) (hf : FnTest w fn first captured encS91 l p) :
  Calls Try.prog 83 #[.slice A l.length c, .func (.func fn) first captured] w fun e w' => e = .returned (.bool (l.any p)) ∧ Below w.heap.size w w' := by
 have HR := Sd.mk hr
 have HF := Sd.mk hf
 clear hr hf
 go_enter Try.func83, Try.ntmps83
 go_wp2_with fail
 refine (idxKey fn first captured A c l p _ HR.1 HF.1).mono ?_
 rintro e w1 ⟨rfl, hb⟩
 have HB := Sd.mk hb
 clear hb
 go_wp2
 go_ret
 exact ⟨ret_bool_eq (idxP_any p l), HB.1⟩
theorem cloKey (fn : Nat) (first captured : Array Value) (l : List S91) (p : S91 → Bool) (w0 w : World) (hf : FnTest w0 fn first captured encS91 l p) (g : Nat) (hg : w.heap[g]? = some (.cells #[.func (.func fn) first captured] 92 (0, 0))) (hw : Below w0.heap.size w0 w) (x : S91) (hx : x ∈ l) :
  Calls Try.prog 84 #[encS91 x, .pointer (some ⟨g, 0, none⟩)] w fun e w' => e = .returned (.bool (!(p x))) ∧ Below w.heap.size w w' := by
 have HF := Sd.mk hf
 have HW := Sd.mk hw
 have hrun := HF.1.run
 have hu := Try.underlying92
 have hu2 := Try.underlying91
 unfold encS91
 have HG := Sd.mk hg
 have HX := Sd.mk hx
 have hc0 := (kC HG.1 0).trans rfl
 have hz0 := kF HG.1 0
 have hlt := Sd.mk (blk_lt HG.1)
 have hc1 : ∀ o, (w.alloc o).cell? ⟨g, 0, none⟩ = some (.func (.func fn) first captured) := fun o => ((bA (Below.refl w.heap.size w) o).cell (p := ⟨g, 0, none⟩) hlt.out).trans hc0
 clear hf hw hg hx
 go_enter Try.func84, Try.ntmps84
 go_wp2_with fail
 have hcall := HF.1.call x HX.1 (w.alloc (.cells #[.int .i64 x.f0, .int .i64 x.f1, .int .i64 x.f2] 91 (0, 0))) (HW.1.alloc HW.1.size _)
 unfold encS91 at hcall
 refine hcall.mono ?_
 rintro e w1 ⟨rfl, hb⟩
 have HB := Sd.mk (below_grow (bA (Below.refl w.heap.size w) _) hb)
 clear hb hcall
 go_wp2
 go_ret
 exact ⟨rfl, HB.1⟩
set_option maxHeartbeats 400000 in
set_option maxRecDepth 100000 in
theorem allKey (fn : Nat) (first captured : Array Value) (A : Option Addr) (c : Nat) (l : List S91) (p : S91 → Bool) (w : World) (hr : Kd.C k91 w A l.length l) (hf : FnTest w fn first captured encS91 l p) :
  Calls Try.prog 53 #[.slice A l.length c, .func (.func fn) first captured] w fun e w' => e = .returned (.bool (l.all p)) ∧ Below w.heap.size w w' := by
 have HR := Sd.mk hr
 have HF := Sd.mk hf
 have hu := Try.underlying92
 clear hr hf
 go_enter Try.func53, Try.ntmps53
 go_wp2_with fail
 have HB0 := Sd.mk (bA (Below.refl w.heap.size w) (.cells #[.func (.func fn) first captured] 92 (0, 0)))
 refine (containsKey 84 #[] #[.pointer (some ⟨w.heap.size, 0, none⟩)] A c l (fun x => !(p x)) _ (Kd.C_below HR.1 HB0.1) ⟨fun args w => by go_simp, fun x hx w1 hw1 => ?_⟩).mono ?_
 ·have hg1 : w1.heap[w.heap.size]? = some (.cells #[.func (.func fn) first captured] 92 (0, 0)) := (hw1.block _ (by simp)).trans (blk_new w _)
  have h2 := cloKey fn first captured l p w w1 HF.1 w.heap.size hg1 (HB0.1.trans (hw1.mono (by simp))) x hx
  exact h2
 ·rintro e w1 ⟨rfl, hb⟩
  have HB := Sd.mk (below_grow HB0.1 hb)
  clear hb
  go_wp2
  go_ret
  exact ⟨ret_bool_eq (any_all_not p l), HB.1⟩
set_option maxHeartbeats 400000 in
set_option maxRecDepth 100000 in
theorem idxInt (fn : Nat) (first captured : Array Value) (A : Option Addr) (c : Nat) (l : List Int) (p : Int → Bool) (w : World) (hr : Kd.C (Kd.int .i64) w A l.length l) (hf : FnTest w fn first captured (Value.int .i64) l p) :
  Calls Try.prog 90 #[.slice A l.length c, .func (.func fn) first captured] w fun e w' => e = .returned (.int .i64 (idxP p l)) ∧ Below w.heap.size w w' := by
 have HR := Sd.mk hr
 have HF := Sd.mk hf
 have HB := Sd.mk (Below.refl w.heap.size w)
 have HM := Sd.mk (Kd.C_max hr)
 clear hr hf
 have hrun := HF.1.run
 go_enter Try.func90, Try.ntmps90
 go_wp2
 go_loopw [5, 8] (fun v5 v8 w' => ∃ (x8 : Nat), v8 = .int .i64 x8 ∧ x8 ≤ l.length ∧ Sd (NoneBefore p l x8) ∧ Sd (Below w.heap.size w w')) (fun v5 v8 w' => l.length - (intOf v8).toNat)
 case atStart => exact ⟨0, rfl, Nat.zero_le _, ⟨fun j hj => absurd hj (by omega)⟩, HB⟩
 case round =>
  obtain ⟨x8, rfl, hle, HN, HB⟩ := hrel
  by_cases c4 : x8 < l.length
  ·obtain ⟨ad, e, hx0⟩ := Kd.at_int HR.1 (x8 : Int) (by omega) (by omega)
   cases e
   replace hx0 := (HB.1.cell (World.block_lt_of_cell? w _ hx0)).trans hx0
   have hg : rd l (x8 : Int) = l[x8] := getD_at l _ x8 c4
   have HG := Sd.mk hg
   clear hg
   have hm := HM.1
   rw [Int.toNat_natCast] at hx0
   go_wp2_with fail
   have hcall := HF.1.call l[x8] (List.getElem_mem c4) _ HB.1
   rw [← HG.1] at hcall
   refine hcall.mono ?_
   rintro e w1 ⟨rfl, hb⟩
   have HB1 := Sd.mk (below_grow HB.1 hb)
   clear hb hcall
   cases hp : p (rd l (x8 : Int)) with
   | true =>
    have HP := Sd.mk hp
    clear hp
    go_wp2
    go_ret
    exact ⟨ret_int_eq (idxP_at HN.1 c4 (by rw [← HG.1]; exact HP.1)).symm, HB1.1⟩
   | false =>
    have HP := Sd.mk hp
    clear hp
    go_wp2
    go_roundw
    case rel => exact ⟨x8 + 1, by go_num, by omega, ⟨HN.1.succ c4 (by rw [← HG.1]; exact HP.1)⟩, HB1⟩
    case measure => simp [intOf]; omega
  ·have hm := HM.1
   go_wp2
   go_ret
   exact ⟨ret_int_eq (idxP_none HN.1 (by omega)).symm, HB.1⟩
set_option maxHeartbeats 400000 in
set_option maxRecDepth 100000 in
theorem containsInt (fn : Nat) (first captured : Array Value) (A : Option Addr) (c : Nat) (l : List Int) (p : Int → Bool) (w : World) (hr : Kd.C (Kd.int .i64) w A l.length l) (hf : FnTest w fn first captured (Value.int .i64) l p) :
  Calls Try.prog 85 #[.slice A l.length c, .func (.func fn) first captured] w fun e w' => e = .returned (.bool (l.any p)) ∧ Below w.heap.size w w' := by
 have HR := Sd.mk hr
 have HF := Sd.mk hf
 clear hr hf
 go_enter Try.func85, Try.ntmps85
 go_wp2_with fail
 refine (idxInt fn first captured A c l p _ HR.1 HF.1).mono ?_
 rintro e w1 ⟨rfl, hb⟩
 have HB := Sd.mk hb
 clear hb
 go_wp2
 go_ret
 exact ⟨ret_bool_eq (idxP_any p l), HB.1⟩
theorem cloInt (fn : Nat) (first captured : Array Value) (l : List Int) (p : Int → Bool) (w0 w : World) (hf : FnTest w0 fn first captured (Value.int .i64) l p) (g : Nat) (hg : w.heap[g]? = some (.cells #[.func (.func fn) first captured] 93 (0, 0))) (hw : Below w0.heap.size w0 w) (x : Int) (hx : x ∈ l) :
  Calls Try.prog 86 #[.int .i64 x, .pointer (some ⟨g, 0, none⟩)] w fun e w' => e = .returned (.bool (!(p x))) ∧ Below w.heap.size w w' := by
 have HF := Sd.mk hf
 have HW := Sd.mk hw
 have hrun := HF.1.run
 have hu := Try.underlying93
 have HG := Sd.mk hg
 have HX := Sd.mk hx
 have hc0 := (kC HG.1 0).trans rfl
 have hz0 := kF HG.1 0
 have hlt := Sd.mk (blk_lt HG.1)
 have hc1 : ∀ o, (w.alloc o).cell? ⟨g, 0, none⟩ = some (.func (.func fn) first captured) := fun o => ((bA (Below.refl w.heap.size w) o).cell (p := ⟨g, 0, none⟩) hlt.out).trans hc0
 clear hf hw hg hx
 go_enter Try.func86, Try.ntmps86
 go_wp2_with fail
 have hcall := HF.1.call x HX.1 w (HW.1)
 refine hcall.mono ?_
 rintro e w1 ⟨rfl, hb⟩
 have HB := Sd.mk (below_grow (Below.refl _ _) hb)
 clear hb hcall
 go_wp2
 go_ret
 exact ⟨rfl, HB.1⟩
set_option maxHeartbeats 400000 in
set_option maxRecDepth 100000 in
theorem allInt (fn : Nat) (first captured : Array Value) (A : Option Addr) (c : Nat) (l : List Int) (p : Int → Bool) (w : World) (hr : Kd.C (Kd.int .i64) w A l.length l) (hf : FnTest w fn first captured (Value.int .i64) l p) :
  Calls Try.prog 54 #[.slice A l.length c, .func (.func fn) first captured] w fun e w' => e = .returned (.bool (l.all p)) ∧ Below w.heap.size w w' := by
 have HR := Sd.mk hr
 have HF := Sd.mk hf
 have hu := Try.underlying93
 clear hr hf
 go_enter Try.func54, Try.ntmps54
 go_wp2_with fail
 have HB0 := Sd.mk (bA (Below.refl w.heap.size w) (.cells #[.func (.func fn) first captured] 93 (0, 0)))
 refine (containsInt 86 #[] #[.pointer (some ⟨w.heap.size, 0, none⟩)] A c l (fun x => !(p x)) _ (Kd.C_below HR.1 HB0.1) ⟨fun args w => by go_simp, fun x hx w1 hw1 => ?_⟩).mono ?_
 ·have hg1 : w1.heap[w.heap.size]? = some (.cells #[.func (.func fn) first captured] 93 (0, 0)) := (hw1.block _ (by simp)).trans (blk_new w _)
  have h2 := cloInt fn first captured l p w w1 HF.1 w.heap.size hg1 (HB0.1.trans (hw1.mono (by simp))) x hx
  exact h2
 ·rintro e w1 ⟨rfl, hb⟩
  have HB := Sd.mk (below_grow HB0.1 hb)
  clear hb
  go_wp2
  go_ret
  exact ⟨ret_bool_eq (any_all_not p l), HB.1⟩
def encS110 (x : S110) : Value := .agg #[.int .i64 x.f0, .int .i64 x.f1]
set_option maxHeartbeats 400000 in
set_option maxRecDepth 100000 in
theorem idxLoss (fn : Nat) (first captured : Array Value) (A : Option Addr) (c : Nat) (l : List S110) (p : S110 → Bool) (w : World) (hr : Kd.C k110 w A l.length l) (hf : FnTest w fn first captured encS110 l p) :
  Calls Try.prog 105 #[.slice A l.length c, .func (.func fn) first captured] w fun e w' => e = .returned (.int .i64 (idxP p l)) ∧ Below w.heap.size w w' := by
 have HR := Sd.mk hr
 have HF := Sd.mk hf
 have HB := Sd.mk (Below.refl w.heap.size w)
 have HM := Sd.mk (Kd.C_max hr)
 clear hr hf
 have hrun := HF.1.run
 go_enter Try.func105, Try.ntmps105
 go_wp2
 go_loopw [5, 8] (fun v5 v8 w' => ∃ (x8 : Nat), v8 = .int .i64 x8 ∧ x8 ≤ l.length ∧ Sd (NoneBefore p l x8) ∧ Sd (Below w.heap.size w w')) (fun v5 v8 w' => l.length - (intOf v8).toNat)
 case atStart => exact ⟨0, rfl, Nat.zero_le _, ⟨fun j hj => absurd hj (by omega)⟩, HB⟩
 case round =>
  obtain ⟨x8, rfl, hle, HN, HB⟩ := hrel
  by_cases c4 : x8 < l.length
  ·obtain ⟨ad, e, hx0, hx1⟩ := at_T110 HR.1 (x8 : Int) (by omega) (by omega)
   cases e
   replace hx0 := (HB.1.cell (World.block_lt_of_cell? w _ hx0)).trans hx0
   replace hx1 := (HB.1.cell (World.block_lt_of_cell? w _ hx1)).trans hx1
   have hg : rd_T110 l (x8 : Int) = l[x8] := getD_at l _ x8 c4
   have HG := Sd.mk hg
   clear hg
   have hm := HM.1
   rw [Int.toNat_natCast] at hx0 hx1
   go_wp2_with fail
   have hcall := HF.1.call l[x8] (List.getElem_mem c4) _ HB.1
   unfold encS110 at hcall
   rw [← HG.1] at hcall
   refine hcall.mono ?_
   rintro e w1 ⟨rfl, hb⟩
   have HB1 := Sd.mk (below_grow HB.1 hb)
   clear hb hcall
   cases hp : p (rd_T110 l (x8 : Int)) with
   | true =>
    have HP := Sd.mk hp
    clear hp
    go_wp2
    go_ret
    exact ⟨ret_int_eq (idxP_at HN.1 c4 (by rw [← HG.1]; exact HP.1)).symm, HB1.1⟩
   | false =>
    have HP := Sd.mk hp
    clear hp
    go_wp2
    go_roundw
    case rel => exact ⟨x8 + 1, by go_num, by omega, ⟨HN.1.succ c4 (by rw [← HG.1]; exact HP.1)⟩, HB1⟩
    case measure => simp [intOf]; omega
  ·have hm := HM.1
   go_wp2
   go_ret
   exact ⟨ret_int_eq (idxP_none HN.1 (by omega)).symm, HB.1⟩
set_option maxHeartbeats 400000 in
set_option maxRecDepth 100000 in
theorem containsLoss (fn : Nat) (first captured : Array Value) (A : Option Addr) (c : Nat) (l : List S110) (p : S110 → Bool) (w : World) (hr : Kd.C k110 w A l.length l) (hf : FnTest w fn first captured encS110 l p) :
  Calls Try.prog 100 #[.slice A l.length c, .func (.func fn) first captured] w fun e w' => e = .returned (.bool (l.any p)) ∧ Below w.heap.size w w' := by
 have HR := Sd.mk hr
 have HF := Sd.mk hf
 clear hr hf
 go_enter Try.func100, Try.ntmps100
 go_wp2_with fail
 refine (idxLoss fn first captured A c l p _ HR.1 HF.1).mono ?_
 rintro e w1 ⟨rfl, hb⟩
 have HB := Sd.mk hb
 clear hb
 go_wp2
 go_ret
 exact ⟨ret_bool_eq (idxP_any p l), HB.1⟩
theorem cloLoss (fn : Nat) (first captured : Array Value) (l : List S110) (p : S110 → Bool) (w0 w : World) (hf : FnTest w0 fn first captured encS110 l p) (g : Nat) (hg : w.heap[g]? = some (.cells #[.func (.func fn) first captured] 136 (0, 0))) (hw : Below w0.heap.size w0 w) (x : S110) (hx : x ∈ l) :
  Calls Try.prog 101 #[encS110 x, .pointer (some ⟨g, 0, none⟩)] w fun e w' => e = .returned (.bool (!(p x))) ∧ Below w.heap.size w w' := by
 have HF := Sd.mk hf
 have HW := Sd.mk hw
 have hrun := HF.1.run
 have hu := Try.underlying136
 have hu2 := Try.underlying110
 unfold encS110
 have HG := Sd.mk hg
 have HX := Sd.mk hx
 have hc0 := (kC HG.1 0).trans rfl
 have hz0 := kF HG.1 0
 have hlt := Sd.mk (blk_lt HG.1)
 have hc1 : ∀ o, (w.alloc o).cell? ⟨g, 0, none⟩ = some (.func (.func fn) first captured) := fun o => ((bA (Below.refl w.heap.size w) o).cell (p := ⟨g, 0, none⟩) hlt.out).trans hc0
 clear hf hw hg hx
 go_enter Try.func101, Try.ntmps101
 go_wp2_with fail
 have hcall := HF.1.call x HX.1 (w.alloc (.cells #[.int .i64 x.f0, .int .i64 x.f1] 110 (0, 0))) (HW.1.alloc HW.1.size _)
 unfold encS110 at hcall
 refine hcall.mono ?_
 rintro e w1 ⟨rfl, hb⟩
 have HB := Sd.mk (below_grow (bA (Below.refl w.heap.size w) _) hb)
 clear hb hcall
 go_wp2
 go_ret
 exact ⟨rfl, HB.1⟩
set_option maxHeartbeats 400000 in
set_option maxRecDepth 100000 in
theorem allLoss (fn : Nat) (first captured : Array Value) (A : Option Addr) (c : Nat) (l : List S110) (p : S110 → Bool) (w : World) (hr : Kd.C k110 w A l.length l) (hf : FnTest w fn first captured encS110 l p) :
  Calls Try.prog 92 #[.slice A l.length c, .func (.func fn) first captured] w fun e w' => e = .returned (.bool (l.all p)) ∧ Below w.heap.size w w' := by
 have HR := Sd.mk hr
 have HF := Sd.mk hf
 have hu := Try.underlying136
 clear hr hf
 go_enter Try.func92, Try.ntmps92
 go_wp2_with fail
 have HB0 := Sd.mk (bA (Below.refl w.heap.size w) (.cells #[.func (.func fn) first captured] 136 (0, 0)))
 refine (containsLoss 101 #[] #[.pointer (some ⟨w.heap.size, 0, none⟩)] A c l (fun x => !(p x)) _ (Kd.C_below HR.1 HB0.1) ⟨fun args w => by go_simp, fun x hx w1 hw1 => ?_⟩).mono ?_
 ·have hg1 : w1.heap[w.heap.size]? = some (.cells #[.func (.func fn) first captured] 136 (0, 0)) := (hw1.block _ (by simp)).trans (blk_new w _)
  have h2 := cloLoss fn first captured l p w w1 HF.1 w.heap.size hg1 (HB0.1.trans (hw1.mono (by simp))) x hx
  exact h2
 ·rintro e w1 ⟨rfl, hb⟩
  have HB := Sd.mk (below_grow HB0.1 hb)
  clear hb
  go_wp2
  go_ret
  exact ⟨ret_bool_eq (any_all_not p l), HB.1⟩
def encS88 (x : S88) : Value := .agg #[.int .i64 x.f0, .int .i64 x.f1]
set_option maxHeartbeats 400000 in
set_option maxRecDepth 100000 in
theorem idxGuess (fn : Nat) (first captured : Array Value) (A : Option Addr) (c : Nat) (l : List S88) (p : S88 → Bool) (w : World) (hr : Kd.C k88 w A l.length l) (hf : FnTest w fn first captured encS88 l p) :
  Calls Try.prog 106 #[.slice A l.length c, .func (.func fn) first captured] w fun e w' => e = .returned (.int .i64 (idxP p l)) ∧ Below w.heap.size w w' := by
 have HR := Sd.mk hr
 have HF := Sd.mk hf
 have HB := Sd.mk (Below.refl w.heap.size w)
 have HM := Sd.mk (Kd.C_max hr)
 clear hr hf
 have hrun := HF.1.run
 go_enter Try.func106, Try.ntmps106
 go_wp2
 go_loopw [5, 8] (fun v5 v8 w' => ∃ (x8 : Nat), v8 = .int .i64 x8 ∧ x8 ≤ l.length ∧ Sd (NoneBefore p l x8) ∧ Sd (Below w.heap.size w w')) (fun v5 v8 w' => l.length - (intOf v8).toNat)
 case atStart => exact ⟨0, rfl, Nat.zero_le _, ⟨fun j hj => absurd hj (by omega)⟩, HB⟩
 case round =>
  obtain ⟨x8, rfl, hle, HN, HB⟩ := hrel
  by_cases c4 : x8 < l.length
  ·obtain ⟨ad, e, hx0, hx1⟩ := at_T88 HR.1 (x8 : Int) (by omega) (by omega)
   cases e
   replace hx0 := (HB.1.cell (World.block_lt_of_cell? w _ hx0)).trans hx0
   replace hx1 := (HB.1.cell (World.block_lt_of_cell? w _ hx1)).trans hx1
   have hg : rd_T88 l (x8 : Int) = l[x8] := getD_at l _ x8 c4
   have HG := Sd.mk hg
   clear hg
   have hm := HM.1
   rw [Int.toNat_natCast] at hx0 hx1
   go_wp2_with fail
   have hcall := HF.1.call l[x8] (List.getElem_mem c4) _ HB.1
   unfold encS88 at hcall
   rw [← HG.1] at hcall
   refine hcall.mono ?_
   rintro e w1 ⟨rfl, hb⟩
   have HB1 := Sd.mk (below_grow HB.1 hb)
   clear hb hcall
   cases hp : p (rd_T88 l (x8 : Int)) with
   | true =>
    have HP := Sd.mk hp
    clear hp
    go_wp2
    go_ret
    exact ⟨ret_int_eq (idxP_at HN.1 c4 (by rw [← HG.1]; exact HP.1)).symm, HB1.1⟩
   | false =>
    have HP := Sd.mk hp
    clear hp
    go_wp2
    go_roundw
    case rel => exact ⟨x8 + 1, by go_num, by omega, ⟨HN.1.succ c4 (by rw [← HG.1]; exact HP.1)⟩, HB1⟩
    case measure => simp [intOf]; omega
  ·have hm := HM.1
   go_wp2
   go_ret
   exact ⟨ret_int_eq (idxP_none HN.1 (by omega)).symm, HB.1⟩
set_option maxHeartbeats 400000 in
set_option maxRecDepth 100000 in
theorem containsGuess (fn : Nat) (first captured : Array Value) (A : Option Addr) (c : Nat) (l : List S88) (p : S88 → Bool) (w : World) (hr : Kd.C k88 w A l.length l) (hf : FnTest w fn first captured encS88 l p) :
  Calls Try.prog 103 #[.slice A l.length c, .func (.func fn) first captured] w fun e w' => e = .returned (.bool (l.any p)) ∧ Below w.heap.size w w' := by
 have HR := Sd.mk hr
 have HF := Sd.mk hf
 clear hr hf
 go_enter Try.func103, Try.ntmps103
 go_wp2_with fail
 refine (idxGuess fn first captured A c l p _ HR.1 HF.1).mono ?_
 rintro e w1 ⟨rfl, hb⟩
 have HB := Sd.mk hb
 clear hb
 go_wp2
 go_ret
 exact ⟨ret_bool_eq (idxP_any p l), HB.1⟩
theorem cloGuess (fn : Nat) (first captured : Array Value) (l : List S88) (p : S88 → Bool) (w0 w : World) (hf : FnTest w0 fn first captured encS88 l p) (g : Nat) (hg : w.heap[g]? = some (.cells #[.func (.func fn) first captured] 140 (0, 0))) (hw : Below w0.heap.size w0 w) (x : S88) (hx : x ∈ l) :
  Calls Try.prog 104 #[encS88 x, .pointer (some ⟨g, 0, none⟩)] w fun e w' => e = .returned (.bool (!(p x))) ∧ Below w.heap.size w w' := by
 have HF := Sd.mk hf
 have HW := Sd.mk hw
 have hrun := HF.1.run
 have hu := Try.underlying140
 have hu2 := Try.underlying88
 unfold encS88
 have HG := Sd.mk hg
 have HX := Sd.mk hx
 have hc0 := (kC HG.1 0).trans rfl
 have hz0 := kF HG.1 0
 have hlt := Sd.mk (blk_lt HG.1)
 have hc1 : ∀ o, (w.alloc o).cell? ⟨g, 0, none⟩ = some (.func (.func fn) first captured) := fun o => ((bA (Below.refl w.heap.size w) o).cell (p := ⟨g, 0, none⟩) hlt.out).trans hc0
 clear hf hw hg hx
 go_enter Try.func104, Try.ntmps104
 go_wp2_with fail
 have hcall := HF.1.call x HX.1 (w.alloc (.cells #[.int .i64 x.f0, .int .i64 x.f1] 88 (0, 0))) (HW.1.alloc HW.1.size _)
 unfold encS88 at hcall
 refine hcall.mono ?_
 rintro e w1 ⟨rfl, hb⟩
 have HB := Sd.mk (below_grow (bA (Below.refl w.heap.size w) _) hb)
 clear hb hcall
 go_wp2
 go_ret
 exact ⟨rfl, HB.1⟩
set_option maxHeartbeats 400000 in
set_option maxRecDepth 100000 in
theorem allGuess (fn : Nat) (first captured : Array Value) (A : Option Addr) (c : Nat) (l : List S88) (p : S88 → Bool) (w : World) (hr : Kd.C k88 w A l.length l) (hf : FnTest w fn first captured encS88 l p) :
  Calls Try.prog 95 #[.slice A l.length c, .func (.func fn) first captured] w fun e w' => e = .returned (.bool (l.all p)) ∧ Below w.heap.size w w' := by
 have HR := Sd.mk hr
 have HF := Sd.mk hf
 have hu := Try.underlying140
 clear hr hf
 go_enter Try.func95, Try.ntmps95
 go_wp2_with fail
 have HB0 := Sd.mk (bA (Below.refl w.heap.size w) (.cells #[.func (.func fn) first captured] 140 (0, 0)))
 refine (containsGuess 104 #[] #[.pointer (some ⟨w.heap.size, 0, none⟩)] A c l (fun x => !(p x)) _ (Kd.C_below HR.1 HB0.1) ⟨fun args w => by go_simp, fun x hx w1 hw1 => ?_⟩).mono ?_
 ·have hg1 : w1.heap[w.heap.size]? = some (.cells #[.func (.func fn) first captured] 140 (0, 0)) := (hw1.block _ (by simp)).trans (blk_new w _)
  have h2 := cloGuess fn first captured l p w w1 HF.1 w.heap.size hg1 (HB0.1.trans (hw1.mono (by simp))) x hx
  exact h2
 ·rintro e w1 ⟨rfl, hb⟩
  have HB := Sd.mk (below_grow HB0.1 hb)
  clear hb
  go_wp2
  go_ret
  exact ⟨ret_bool_eq (any_all_not p l), HB.1⟩
end Go.Proofs.Ytnidgkmopocdkaa.P
