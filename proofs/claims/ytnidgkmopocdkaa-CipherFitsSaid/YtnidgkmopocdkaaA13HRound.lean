import Derived.Test.YtnidgkmopocdkaaA13HKeys
import Derived.OrdersIn
namespace Go.Proofs.Ytnidgkmopocdkaa.P
open Go.RowKit
theorem oper_round {P : Program} {o : Oper} {a : Act} {w : World} {K : Act → World → Prop} {Q : Exit → Act → World → Prop} (l n : Nat) (hd : ∀ c, o.op ≠ .defer c) (h : o.wp P a w K Q) : o.wpIn (Fence.wide.inRound l) n P a w K Q := by
 refine ⟨fun f _ => trivial, ?_⟩
 rw [Oper.semAt_plain _ _ _ hd]
 unfold Oper.wp at h
 generalize (execOp a.eval o).run P w = r at h
 cases r with
 | ok x w' =>
  cases x with
  | value v => exact h
  | skip => exact h
  | defer d => exact h
  | enter f args => exact ⟨fun c => by simp [Fence.inRound, Fence.wide] at c, CallsIn.inRound l (callsIn_wide.2 h)⟩
  | row row args => exact ⟨fun c => by simp [Fence.inRound, Fence.wide] at c, fun c cs _ => let ⟨v, w', r, s⟩ := h c cs; ⟨v, w', r, stepsIn_wide.2 s⟩⟩
  | _ => exact h.elim
 | halt x w' => cases x <;> exact h
theorem any_round {P : Program} {md : Region.Mode} {ops : Array Oper} {Q : Exit → Act → World → Prop} (l n : Nat) (hd : ∀ (i : Nat) (o : Oper), ops[i]? = some o → ∀ c, o.op ≠ .defer c) (hQ : ¬ LetsOut Q) : ∀ (fuel : Nat) (listed : Array Bool) (a : Act) (w : World), wpAny P md ops Q fuel listed a w → wpAnyIn (Fence.wide.inRound l) n P md ops Q fuel listed a w
 | 0, _, _, _, h => h
 | fuel + 1, listed, a, w, h => by
  refine ⟨h.1, fun i hi => ?_⟩
  have hh := h.2 i hi
  unfold wpOp at hh
  unfold wpOpIn
  cases ho : ops[i]? with
  | none => rw [ho] at hh; exact any_round l n hd hQ fuel _ _ _ hh
  | some o =>
   rw [ho] at hh
   by_cases hw : Region.wanted o (yielded ops a.tmps) = true
   ·simp only [hw, if_true] at hh ⊢
    rcases hh with h1 | h1
    ·exact Oper.wpIn_mono (fun a' w' hk => any_round l n hd hQ fuel _ a' w' hk) (oper_round l n (hd i o ho) h1)
    ·exact absurd h1.2 hQ
   ·simp only [hw] at hh ⊢
    exact ⟨fun f _ => trivial, any_round l n hd hQ fuel _ _ _ hh⟩
def undeferred (ops : Array Oper) : Bool := ops.all fun o => match o.op with | .defer _ => false | _ => true
theorem undeferred_at {ops : Array Oper} (h : undeferred ops = true) (i : Nat) (o : Oper) (ho : ops[i]? = some o) : ∀ c, o.op ≠ .defer c := by
 intro c e
 unfold undeferred at h
 rw [Array.all_eq_true] at h
 obtain ⟨hi, rfl⟩ := Array.getElem?_eq_some_iff.1 ho
 have := h i hi
 rw [e] at this
 cases this
theorem region_round {P : Program} {ops : Array Oper} {Q : Exit → Act → World → Prop} {id l n : Nat} {a : Act} {w : World} (hm : P.follows .mixedOrders = true) (hd : undeferred ops = true) (hQ : ¬ LetsOut Q)
  (h : wpAny P .any ops Q ops.size (Array.replicate ops.size false) a { w with drawn := w.drawn + 1 }) : (Code.region id ops true).wpIn (Fence.wide.inRound l) n P Q a w :=
 wpIn_region_any hm (any_round l n (undeferred_at hd) hQ _ _ _ _ h)
end Go.Proofs.Ytnidgkmopocdkaa.P
