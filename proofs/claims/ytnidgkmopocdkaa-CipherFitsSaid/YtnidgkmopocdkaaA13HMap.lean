import Derived.Test.YtnidgkmopocdkaaA13HMay
import Derived.DeepKeys3
namespace Go.Proofs.Ytnidgkmopocdkaa.P
open Go.RowKit Go.Proofs.YtnidgkmopocdkaaW.PrintWords Go.Proofs.YtnidgkmopocdkaaW.PrintLast Go.Proofs.YtnidgkmopocdkaaW.PrintMore
set_option linter.unusedVariables false
set_option linter.unusedSimpArgs false
structure Sp.ok (s : Sp) : Prop where
 fit : s.fit
 a0 : 0 ≤ s.la
 a1 : s.la ≤ 1000
theorem spLaw : WideMaps.KeyLaw Try.prog 121 := deep_law (m := 5) (by decide) (by kernel_rfl) (by kernel_rfl) (by kernel_rfl)
theorem i64_wf {n : Int} (h0 : -9223372036854775808 ≤ n) (h1 : n ≤ 9223372036854775807) : (Lit.int .i64 n).wf = true := by
 simp only [Lit.wf, Bool.and_eq_true, decide_eq_true_eq]
 exact ⟨h0, h1⟩
theorem keyLits_int (d : Nat) (n : Int) (h0 : 0 ≤ n) (h1 : n ≤ 1001) : Try.prog.keyLits (d + 1) 3 [.int .i64 n] = some [.int .i64 n] := by
 unfold Program.keyLits
 rw [Try.underlying3]
 have hw : (Lit.int .i64 n).wf = true := i64_wf (by omega) (by omega)
 simp [hw]
theorem cells3 : Try.prog.cellsOf 3 = 1 := by kernel_rfl
theorem cells119 : Try.prog.cellsOf 119 = 5 := by kernel_rfl
theorem cells121 : Try.prog.cellsOf 121 = 7 := by kernel_rfl
theorem keyLits_arr (d : Nat) (a b c e f : Int) (h : (0 ≤ a ∧ a ≤ 1001) ∧ (0 ≤ b ∧ b ≤ 1001) ∧ (0 ≤ c ∧ c ≤ 1001) ∧ (0 ≤ e ∧ e ≤ 1001) ∧ (0 ≤ f ∧ f ≤ 1001)) :
  Try.prog.keyLits (d + 2) 119 [.int .i64 a, .int .i64 b, .int .i64 c, .int .i64 e, .int .i64 f] = some [.int .i64 a, .int .i64 b, .int .i64 c, .int .i64 e, .int .i64 f] := by
 obtain ⟨⟨a0, a1⟩, ⟨b0, b1⟩, ⟨c0, c1⟩, ⟨e0, e1⟩, ⟨f0, f1⟩⟩ := h
 unfold Program.keyLits
 rw [Try.underlying119]
 simp only [cells119, cells3, List.length_cons, List.length_nil, if_true]
 simp [List.range, List.range.loop, keyLits_int _ _ a0 a1, keyLits_int _ _ b0 b1, keyLits_int _ _ c0 c1, keyLits_int _ _ e0 e1, keyLits_int _ _ f0 f1]
theorem keyOf_sp (s : Sp) (h : s.ok) : ∃ l, keyOf Try.prog 121 (spV s) = some l := by
 obtain ⟨⟨d0, d1, h0, h1, h2, h3, h4, l0, l1, l2, l3, l4⟩, a0, a1⟩ := h
 obtain ⟨m, hm⟩ := Nat.exists_eq_add_of_le (of_decide_eq_true (by kernel_rfl) : 3 ≤ Try.prog.types.size)
 have hk : Try.prog.keyType 121 = true := by kernel_rfl
 have hf : (spV s).formed Try.prog 121 = true := by
  unfold spV Value.formed
  rw [Try.underlying121]
  simp [cells121]
 have hl : Try.prog.keyLits (Try.prog.types.size + 1) 121 (spV s).cells.toList = some [.int .i64 s.d, .int .i64 s.la, .int .i64 s.u0, .int .i64 s.u1, .int .i64 s.u2, .int .i64 s.u3, .int .i64 s.u4] := by
  rw [hm, show 3 + m + 1 = (m + 1 + 2) + 1 from by omega]
  unfold Program.keyLits
  rw [Try.underlying121]
  have ha := keyLits_arr (m + 1) s.u0 s.u1 s.u2 s.u3 s.u4 ⟨⟨by omega, by omega⟩, ⟨by omega, by omega⟩, ⟨by omega, by omega⟩, ⟨by omega, by omega⟩, ⟨by omega, by omega⟩⟩
  have hd := keyLits_int (m + 2) s.d (by omega) (by omega)
  have hla := keyLits_int (m + 2) s.la (by omega) (by omega)
  simp [spV, Value.cells, cells121, cells3, cells119, ha, hd, hla]
 unfold keyOf
 rw [Try.underlying121]
 simp only [hk, hf, hl, Bool.and_self, if_true, Option.map_some]
 exact ⟨_, rfl⟩
def GoodEs (F : Sp → Int) (es : Array MapEntry) : Prop := ∀ e ∈ es.toList, ∃ s : Sp, s.ok ∧ e.key = spV s ∧ e.val = .int .i64 (F s)
def GoodMap (F : Sp → Int) (gm : Nat) (w : World) : Prop := ∃ es clock, w.heap[gm]? = some (.map es clock) ∧ GoodEs F es
theorem spV_inj {a b : Sp} (h : spV a = spV b) : a = b := by
 unfold spV at h
 injection h with h
 simp only [Array.mk.injEq, List.cons.injEq, Value.int.injEq, true_and, and_true] at h
 obtain ⟨h1, h2, h3, h4, h5, h6, h7⟩ := h
 cases a; cases b; simp_all
theorem find_good {F : Sp → Int} {es : Array MapEntry} (hg : GoodEs F es) (s : Sp) (hs : s.ok) (w : World) :
  (Instr.findKey 121 (spV s) es.toList).run Try.prog w = .ok none w ∨ ∃ j e, (Instr.findKey 121 (spV s) es.toList).run Try.prog w = .ok (some (j, .int .i64 (F s))) w ∧ es.toList[j]? = some e ∧ e.key = spV s := by
 obtain ⟨l, hl⟩ := keyOf_sp s hs
 rcases spLaw.find w hl es.toList (fun e he => by obtain ⟨s', hs', hk, _⟩ := hg e he; rw [hk]; exact keyOf_sp s' hs') with ⟨h, _⟩ | ⟨j, e, h, hj, hk⟩
 ·exact .inl h
 ·obtain ⟨s', _, hk', hv⟩ := hg e (List.mem_of_getElem? hj)
  obtain rfl : s' = s := spV_inj (hk'.symm.trans hk)
  rw [hv] at h
  exact .inr ⟨j, e, h, hj, hk⟩
theorem update_good {F : Sp → Int} {gm : Nat} {w : World} (hg : GoodMap F gm w) (s : Sp) (hs : s.ok) :
  ∃ w', (Instr.mapUpdate 114 (.map (some gm)) (spV s) (.int .i64 (F s))).run Try.prog w = .ok () w' ∧ GoodMap F gm w' ∧ w.grownBy w' (some gm) ∧ w'.heap.size = w.heap.size := by
 obtain ⟨es, clock, hb, hes⟩ := hg
 obtain ⟨l, hl⟩ := keyOf_sp s hs
 have hlt := blk_lt hb
 have ho : (getObj gm).run Try.prog w = .ok (.map es clock) w := by simp [getObj, Sem.run, hb]
 have hset : ∀ o, (setObj gm o).run Try.prog w = .ok () { w with heap := w.heap.setIfInBounds gm o } := fun o => by simp [setObj, Sem.run, hb]
 have hgr : ∀ o, w.grownBy { w with heap := w.heap.setIfInBounds gm o } (some gm) := fun o => ⟨rfl, rfl, rfl, by simp, fun k hk hne => by
  show (w.heap.setIfInBounds gm o)[k]? = _
  rw [Array.getElem?_setIfInBounds, if_neg (fun e => hne (by rw [e]))]⟩
 have hat : ∀ o, ({ w with heap := w.heap.setIfInBounds gm o } : World).heap[gm]? = some o := fun o => by
  show (w.heap.setIfInBounds gm o)[gm]? = _
  rw [Array.getElem?_setIfInBounds, if_pos rfl, if_pos hlt]
 rcases find_good hes s hs w with h | ⟨j, e, h, hj, hk⟩
 ·refine ⟨_, ?_, ⟨es.push ⟨spV s, .int .i64 (F s), clock⟩, clock + 1, hat _, ?_⟩, hgr _, by simp⟩
  ·simp [Instr.mapUpdate, run_underlying Try.underlying114, ho, spLaw.check w false hl, h, hset]
  ·intro e he
   rw [Array.toList_push] at he
   rcases List.mem_append.1 he with he | he
   ·exact hes e he
   ·rw [List.mem_singleton.1 he]
    exact ⟨s, hs, rfl, rfl⟩
 ·have hj' : es[j]? = some e := by simpa using hj
  refine ⟨_, ?_, ⟨es.modify j (fun e => { e with key := spV s, val := .int .i64 (F s) }), clock, hat _, ?_⟩, hgr _, by simp⟩
  ·simp [Instr.mapUpdate, run_underlying Try.underlying114, ho, spLaw.check w false hl, h, hset, hj', hk, spLaw.stays w hl]
  ·intro e' he
   obtain ⟨i, hi, rfl⟩ := List.mem_iff_getElem.1 he
   rw [Array.length_toList, Array.size_modify] at hi
   rw [Array.getElem_toList, Array.getElem_modify]
   split
   ·exact ⟨s, hs, rfl, rfl⟩
   ·exact hes _ (by simp)
end Go.Proofs.Ytnidgkmopocdkaa.P
