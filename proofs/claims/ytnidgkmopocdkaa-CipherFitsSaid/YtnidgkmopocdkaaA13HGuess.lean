import Derived.Test.YtnidgkmopocdkaaA13HPoss
import Derived.Test.YtnidgkmopocdkaaA13P9
import Derived.Test.YtnidgkmopocdkaaA13P0
import Derived.Test.YtnidgkmopocdkaaA13P5
namespace Go.Proofs.Ytnidgkmopocdkaa.P
open Go.RowKit Go.Proofs.YtnidgkmopocdkaaW.PrintWords Go.Proofs.YtnidgkmopocdkaaW.PrintLast Go.Proofs.YtnidgkmopocdkaaW.PrintMore
set_option linter.unusedVariables false
set_option linter.unusedSimpArgs false
def toG (y : S85) : S88 := ⟨y.f0, y.f1⟩
theorem rd85_at {l : List S85} {i : Nat} (h : i < l.length) : rd_T85 l (i : Int) = l[i] := by simp [rd_T85, List.getD, List.getElem?_eq_getElem h]
theorem Guesses_l0 (l : List S85) (hl : l.length ≤ 1000) : ∀ (d k i : Nat) (acc : List S88), i + d = l.length → d < k → acc.length = i → glisterlaw04_Guesses.l0 k l acc (i : Int) = some (acc ++ (l.drop i).map toG)
 | 0, k, i, acc, hd, h, ha => by
  obtain ⟨k, rfl, _⟩ := succ_of h
  simp only [glisterlaw04_Guesses.l0]
  rw [if_neg (by omega), List.drop_eq_nil_of_le (by omega)]
  simp
 | d + 1, k, i, acc, hd, h, ha => by
  obtain ⟨k, rfl, _⟩ := succ_of h
  simp only [glisterlaw04_Guesses.l0]
  rw [if_pos (by omega), if_pos (by omega), if_pos (by omega), wrap_of (by omega) (by omega)]
  have := Guesses_l0 l hl d k (i + 1) (acc ++ [⟨(rd_T85 l i).f0, (rd_T85 l i).f1⟩]) (by omega) (by omega) (by simp [ha])
  rw [show (((i + 1 : Nat)) : Int) = (i : Int) + 1 by omega] at this
  rw [this, drop_at (show i < l.length by omega), rd85_at (by omega)]
  simp only [toG, List.map_cons, List.append_assoc, List.singleton_append]
theorem Guesses_f {k : Nat} (l : List S85) (hl : l.length ≤ 1000) (h : l.length < k) : glisterlaw04_Guesses.f k l = some (l.map toG) := by
 unfold glisterlaw04_Guesses.f
 have := Guesses_l0 l hl l.length k 0 [] (by omega) h rfl
 simpa using this
theorem fits_ok {sz wd : Int} {keys : List S91} {days : List Int} {codes : List Int} {gs : List S88} (h : askedV sz wd keys days codes gs = 0) : cipher_Fits.f sz wd keys days codes gs = some ((((keysL sz codes gs).length : Nat) : Int), if (keysL sz codes gs).length = 0 then 11 else 0) := by
 unfold cipher_Fits.f fitsV
 rw [if_neg (fun c => c h)]
 by_cases hk : (keysL sz codes gs).length = 0
 ·rw [if_pos hk, if_pos hk, hk]; rfl
 ·rw [if_neg hk, if_neg hk]
theorem poss_ok {sz wd : Int} {keys : List S91} {days : List Int} {codes : List Int} {gs : List S88} {i : Int} (h : askedV sz wd keys days codes gs = 0) (h0 : 0 ≤ i) (h1 : i < codes.length) : cipher_Possible.f sz wd keys days codes gs i = some (possOut sz codes gs i, if (keysL sz codes gs).length = 0 then 11 else 0) := by
 have ha := (ask_of h).1
 unfold cipher_Possible.f possV
 rw [if_neg (fun c => c h), if_neg (show ¬ inB i 0 ((codes.length : Int) - 1) = false by rw [Bool.not_eq_false, inB_iff]; omega)]
 have := poss_nil ha h0 h1
 unfold possE
 by_cases hk : (keysL sz codes gs).length = 0
 ·rw [if_pos (this.2 hk), if_pos hk]
 ·rw [if_neg (fun c => hk (this.1 c)), if_neg hk]
end Go.Proofs.Ytnidgkmopocdkaa.P
