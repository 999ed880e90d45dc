import Derived.Test.YtnidgkmopocdkaaA12HRow
namespace Go.Proofs.Ytnidgkmopocdkaa.P
open Go.RowKit Go.ChangeShapes Go.WideShapes Go.ChangeAt
theorem sized_rows {H : Type} {enc : TypeId × Value → H} {P : Program} {W : World} {base fuel : Nat} {spare : Nat → Bool} {held : Bool} {t e : TypeId} {a : Option Addr} {len cap : Nat} {d : DataW H} {ps : List MemPlace} {ts : List TypeId} {ds : List (DataW H)} {j : Nat}
  (hsz : (DataW.weightsEach P ts ds).all (· ≤ reachBytes) = true) (ht : ts[j]? = some t) (hd : ds[j]? = some d) (hu : P.underlying t = some (.slice e)) {B : Nat} (hB : P.bytesOf e = B)
  (h : DataW.trod enc P W base spare held fuel t [.slice a len cap] = some (d, ps)) : len * B ≤ 140737488351232 := by
 rcases DataW.trod_slice hu h with ⟨hcs, _⟩ | ⟨a', len', cap', elems, rest, n, _, hcs, hx, hb, hl, hm, hlen, hq, _, _⟩
 ·cases hcs; simp
 ·cases hcs
  obtain ⟨hx, _⟩ := Prod.mk.inj hx
  subst hx
  have z := sized_slice hsz ht hd hu
  rw [hB] at z
  exact Nat.le_trans (Nat.mul_le_mul_right _ (by rw [List.length_map]; omega)) z
end Go.Proofs.Ytnidgkmopocdkaa.P
