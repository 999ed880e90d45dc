import Derived.Test.YtnidgkmopocdkaaA13P0
import Derived.WalkKit
import Derived.ProofKit
import Derived.OpenShut
import Derived.ShutString
import Derived.ChangeOld
import Derived.Below
import Derived.SizedLaws
namespace Go.Proofs.Ytnidgkmopocdkaa.P
open Go.RowKit Go.ChangeShapes Go.WideShapes Go.ChangeAt Go.Proofs.YtnidgkmopocdkaaW.PrintWords Go.Proofs.YtnidgkmopocdkaaW.PrintLast Go.Proofs.YtnidgkmopocdkaaW.PrintMore
set_option linter.unusedVariables false
set_option linter.unusedSimpArgs false
section
variable {H : Type} {enc : TypeId × Value → H} {P : Program} {w : World} {base : Nat} {spare : Nat → Bool} {held : Bool} {fuel : Nat} {t e : TypeId} {cs : List Value} {x : DataW H × List MemPlace}
theorem cell_int {k : IntKind} (ht : P.underlying t = some (.int k)) (h : DataW.trod enc P w base spare held fuel t cs = some x) : ∃ n, cs = [.int k n] ∧ (Lit.int k n).wf = true := by
 cases fuel with
 | zero => simp [DataW.trod] at h
 | succ f =>
  unfold DataW.trod at h
  rw [ht] at h
  split at h <;> simp_all
theorem list_of {α : Type} {R : Nat → α → Prop} : ∀ (n : Nat), (∀ i, i < n → ∃ y, R i y) → ∃ xs : List α, xs.length = n ∧ ∀ j p, xs[j]? = some p → R j p
 | 0, _ => ⟨[], rfl, fun j p h => by simp at h⟩
 | n + 1, h => by
  obtain ⟨xs, hl, hx⟩ := list_of n (fun i hi => h i (by omega))
  obtain ⟨y, hy⟩ := h n (by omega)
  refine ⟨xs ++ [y], by simp [hl], fun j p hp => ?_⟩
  by_cases c : j < xs.length
  ·rw [List.getElem?_append_left c] at hp
   exact hx j p hp
  ·rw [List.getElem?_append_right (by omega)] at hp
   have : j = n := by
    by_cases c2 : j - xs.length = 0
    ·omega
    ·rw [List.getElem?_eq_none (by simp; omega)] at hp; cases hp
   subst this
   rw [hl] at hp
   simp at hp
   subst hp
   exact hy
theorem cells_get {a : Addr} {n : Nat} {l : List Value} (h : w.cells? base a n = some l) : l.length = n ∧ ∀ i u, l[i]? = some u → w.cell? (a.add i) = some u := by
 unfold World.cells? at h
 split at h
 ·have hm : ∀ (m : Nat) (s : Nat) (l : List Value), (List.range' s m).mapM (fun i => w.cell? (a.add i)) = some l → l.length = m ∧ ∀ i u, l[i]? = some u → w.cell? (a.add (s + i)) = some u := by
   intro m
   induction m with
   | zero => intro s l h; simp at h; subst h; exact ⟨rfl, fun i u h => by simp at h⟩
   | succ m ih =>
    intro s l h
    rw [List.range'_succ, List.mapM_cons] at h
    simp only [bind, Option.bind_eq_some_iff, pure, Option.some.injEq] at h
    obtain ⟨u0, h0, l', hl', rfl⟩ := h
    obtain ⟨h1, h2⟩ := ih (s + 1) l' hl'
    refine ⟨by simp [h1], fun i u hi => ?_⟩
    cases i with
    | zero => simp at hi; subst hi; exact h0
    | succ i =>
     simp at hi
     have := h2 i u hi
     rw [show s + (i + 1) = s + 1 + i by omega]
     exact this
  rw [List.range_eq_range'] at h
  obtain ⟨h1, h2⟩ := hm n 0 l h
  exact ⟨h1, fun i u hi => by have := h2 i u hi; rwa [Nat.zero_add] at this⟩
 ·cases h
theorem add_add (a : Addr) (i j : Nat) : (a.add i).add j = a.add (i + j) := by
 unfold Addr.add
 by_cases hi : i = 0 <;> by_cases hj : j = 0 <;> simp [hi, hj, Nat.add_assoc]
theorem len2 {α : Type} {l : List α} (h : l.length = 2) : ∃ a b, l = [a, b] := by
 match l, h with
 | [a, b], _ => exact ⟨a, b, rfl⟩
theorem len3 {α : Type} {l : List α} (h : l.length = 3) : ∃ a b c, l = [a, b, c] := by
 match l, h with
 | [a, b, c], _ => exact ⟨a, b, c, rfl⟩
theorem len4 {α : Type} {l : List α} (h : l.length = 4) : ∃ a b c d, l = [a, b, c, d] := by
 match l, h with
 | [a, b, c, d], _ => exact ⟨a, b, c, d, rfl⟩
theorem open_rows {α : Type} (d : Kd α) (good : α → Prop) (ht : P.underlying t = some (.slice e)) (hsz : P.cellsOf e = d.sz)
  (hel : ∀ {fuel cs x}, DataW.trod enc P w base spare held fuel e cs = some x → ∃ y : α, good y ∧ d.K w y cs) (h : DataW.trod enc P w base spare held fuel t cs = some x) :
  ∃ A c, ∃ xs : List α, cs = [.slice A xs.length c] ∧ d.C w A xs.length xs ∧ xs.length ≤ c ∧ xs.length ≤ maxLen ∧ ∀ y ∈ xs, good y := by
 rcases DataW.trod_slice ht h with ⟨rfl, _⟩ | ⟨a, len, cap, elems, rest, n, _, rfl, rfl, hb, hl, hm, hlen, hq, _, _⟩
 ·exact ⟨none, 0, [], rfl, ⟨rfl, by simp, fun h => absurd h (by simp)⟩, Nat.le_refl _, by simp, fun y hy => by simp at hy⟩
 ·have each : ∀ i, i < len → ∃ y : α, good y ∧ ∃ c : List Value, c.length = d.sz ∧ d.K w y c ∧ ∀ i' u, c[i']? = some u → w.cell? (a.add (i * d.sz + i')) = some u := by
   intro i hi
   have h1 := hq i hi
   rw [List.getElem?_eq_getElem (by omega), Option.bind_eq_some_iff] at h1
   obtain ⟨c, hc, ht2⟩ := h1
   rw [hsz] at hc
   obtain ⟨hcl, hcg⟩ := cells_get hc
   obtain ⟨y, hg, hk⟩ := hel ht2
   exact ⟨y, hg, c, hcl, hk, fun i' u hu => by rw [← add_add]; exact hcg i' u hu⟩
  obtain ⟨xs, hxl, hx⟩ := list_of len each
  refine ⟨some a, cap, xs, by rw [hxl], ⟨rfl, by rw [hxl]; simp only [maxLen] at hm; omega, fun _ => ⟨a, rfl, fun j p hj => (hx j p hj).2⟩⟩, by omega, by rw [hxl]; omega, fun y hy => ?_⟩
  obtain ⟨j, hj, rfl⟩ := List.mem_iff_getElem.1 hy
  exact (hx j _ (List.getElem?_eq_getElem hj)).1
theorem open_row_ints {k : IntKind} (ht : P.underlying t = some (.slice e)) (he : P.underlying e = some (.int k)) (hc : P.cellsOf e = 1) (h : DataW.trod enc P w base spare held fuel t cs = some x) :
  ∃ A c, ∃ xs : List Int, cs = [.slice A xs.length c] ∧ (Kd.int k).C w A xs.length xs ∧ xs.length ≤ c ∧ xs.length ≤ maxLen ∧ ∀ y ∈ xs, (Lit.int k y).wf = true :=
 open_rows (Kd.int k) (fun y => (Lit.int k y).wf = true) ht hc (fun h => by obtain ⟨n, rfl, hw⟩ := cell_int he h; exact ⟨n, hw, rfl⟩) h
end
section
variable {H : Type} {enc : TypeId × Value → H} {w : World} {base : Nat} {spare : Nat → Bool} {held : Bool} {fuel : Nat} {t e : TypeId} {cs : List Value} {x : DataW H × List MemPlace}
theorem cells3 : Try.prog.cellsOf 3 = 1 := by kernel_rfl
theorem cells22 : Try.prog.cellsOf 22 = 1 := by kernel_rfl
theorem cells23 : Try.prog.cellsOf 23 = 1 := by kernel_rfl
theorem cells25 : Try.prog.cellsOf 25 = 4 := by kernel_rfl
theorem cells82 : Try.prog.cellsOf 82 = 3 := by kernel_rfl
theorem cells85 : Try.prog.cellsOf 85 = 2 := by kernel_rfl
def W64 (n : Int) : Prop := (Lit.int .i64 n).wf = true
def Wf82 (y : S82) : Prop := W64 y.f0 ∧ W64 y.f1 ∧ W64 y.f2
def Wf85 (y : S85) : Prop := W64 y.f0 ∧ W64 y.f1
theorem open_82 (h : DataW.trod enc Try.prog w base spare held fuel 82 cs = some x) : ∃ y : S82, Wf82 y ∧ cs = [.int .i64 y.f0, .int .i64 y.f1, .int .i64 y.f2] := by
 obtain ⟨xs, n, _, _, hl, hxl, hf⟩ := DataW.trod_struct Try.underlying82 h
 rw [cells82] at hl
 obtain ⟨c0, c1, c2, rfl⟩ := len3 (by simpa using hl)
 obtain ⟨x0, x1, x2, rfl⟩ := len3 (by simpa using hxl)
 have h0 : DataW.trod enc Try.prog w base spare held n 3 (([c0, c1, c2].drop 0).take (Try.prog.cellsOf 3)) = some x0 := hf 0 _ rfl
 rw [cells3] at h0
 have h1 : DataW.trod enc Try.prog w base spare held n 3 (([c0, c1, c2].drop 1).take (Try.prog.cellsOf 3)) = some x1 := hf 1 _ rfl
 rw [cells3] at h1
 have h2 : DataW.trod enc Try.prog w base spare held n 3 (([c0, c1, c2].drop 2).take (Try.prog.cellsOf 3)) = some x2 := hf 2 _ rfl
 rw [cells3] at h2
 obtain ⟨n0, e0, w0⟩ := cell_int Try.underlying3 h0
 obtain ⟨n1, e1, w1⟩ := cell_int Try.underlying3 h1
 obtain ⟨n2, e2, w2⟩ := cell_int Try.underlying3 h2
 simp at e0 e1 e2
 subst e0 e1 e2
 exact ⟨⟨n0, n1, n2⟩, ⟨w0, w1, w2⟩, rfl⟩
theorem open_85 (h : DataW.trod enc Try.prog w base spare held fuel 85 cs = some x) : ∃ y : S85, Wf85 y ∧ cs = [.int .i64 y.f0, .int .i64 y.f1] := by
 obtain ⟨xs, n, _, _, hl, hxl, hf⟩ := DataW.trod_struct Try.underlying85 h
 rw [cells85] at hl
 obtain ⟨c0, c1, rfl⟩ := len2 (by simpa using hl)
 obtain ⟨x0, x1, rfl⟩ := len2 (by simpa using hxl)
 have h0 : DataW.trod enc Try.prog w base spare held n 3 (([c0, c1].drop 0).take (Try.prog.cellsOf 3)) = some x0 := hf 0 _ rfl
 rw [cells3] at h0
 have h1 : DataW.trod enc Try.prog w base spare held n 3 (([c0, c1].drop 1).take (Try.prog.cellsOf 3)) = some x1 := hf 1 _ rfl
 rw [cells3] at h1
 obtain ⟨n0, e0, w0⟩ := cell_int Try.underlying3 h0
 obtain ⟨n1, e1, w1⟩ := cell_int Try.underlying3 h1
 simp at e0 e1
 subst e0 e1
 exact ⟨⟨n0, n1⟩, ⟨w0, w1⟩, rfl⟩
structure BookAt (w : World) (cs : List Value) (a0_0 a0_1 : Int) (A0_2 : Option Addr) (c0_2 : Nat) (l0_2 : List S82) (A0_3 : Option Addr) (c0_3 : Nat) (l0_3 : List Int) : Prop where
 eq : cs = [.int .i64 a0_0, .int .i64 a0_1, .slice A0_2 l0_2.length c0_2, .slice A0_3 l0_3.length c0_3]
 w0 : W64 a0_0
 w1 : W64 a0_1
 r2 : Kd.C k82 w A0_2 l0_2.length l0_2
 c2 : l0_2.length ≤ c0_2
 w2 : ∀ y ∈ l0_2, Wf82 y
 r3 : Kd.C (Kd.int .i64) w A0_3 l0_3.length l0_3
 c3 : l0_3.length ≤ c0_3
 w3 : ∀ y ∈ l0_3, W64 y
theorem open_book (h : DataW.trod enc Try.prog w base spare held fuel 25 cs = some x) : ∃ a b A c l A' c' l', BookAt w cs a b A c l A' c' l' := by
 obtain ⟨xs, n, _, _, hl, hxl, hf⟩ := DataW.trod_struct Try.underlying25 h
 rw [cells25] at hl
 obtain ⟨c0, c1, c2, c3, rfl⟩ := len4 (by simpa using hl)
 obtain ⟨x0, x1, x2, x3, rfl⟩ := len4 (by simpa using hxl)
 have h0 : DataW.trod enc Try.prog w base spare held n 3 (([c0, c1, c2, c3].drop 0).take (Try.prog.cellsOf 3)) = some x0 := hf 0 _ rfl
 rw [cells3] at h0
 have h1 : DataW.trod enc Try.prog w base spare held n 3 (([c0, c1, c2, c3].drop 1).take (Try.prog.cellsOf 3)) = some x1 := hf 1 _ rfl
 rw [cells3] at h1
 have h2 : DataW.trod enc Try.prog w base spare held n 22 (([c0, c1, c2, c3].drop 2).take (Try.prog.cellsOf 22)) = some x2 := hf 2 _ rfl
 rw [cells22] at h2
 have h3 : DataW.trod enc Try.prog w base spare held n 23 (([c0, c1, c2, c3].drop 3).take (Try.prog.cellsOf 23)) = some x3 := hf 3 _ rfl
 rw [cells23] at h3
 obtain ⟨n0, e0, w0⟩ := cell_int Try.underlying3 h0
 obtain ⟨n1, e1, w1⟩ := cell_int Try.underlying3 h1
 obtain ⟨A, c, l, e2, r2, q2, _, w2⟩ := open_rows k82 Wf82 Try.underlying22 cells82 (fun h => by obtain ⟨y, hy, rfl⟩ := open_82 h; exact ⟨y, hy, k82_mk _ y⟩) h2
 obtain ⟨A', c', l', e3, r3, q3, _, w3⟩ := open_row_ints Try.underlying23 Try.underlying3 cells3 h3
 simp at e0 e1 e2 e3
 subst e0 e1 e2 e3
 exact ⟨n0, n1, A, c, l, A', c', l', rfl, w0, w1, r2, q2, w2, r3, q3, w3⟩
end
end Go.Proofs.Ytnidgkmopocdkaa.P
