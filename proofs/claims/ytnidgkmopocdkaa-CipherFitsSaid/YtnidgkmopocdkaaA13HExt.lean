import Derived.Test.YtnidgkmopocdkaaA13HFew
namespace Go.Proofs.Ytnidgkmopocdkaa.P
open Go.RowKit Go.Proofs.YtnidgkmopocdkaaW.PrintWords Go.Proofs.YtnidgkmopocdkaaW.PrintLast Go.Proofs.YtnidgkmopocdkaaW.PrintMore
set_option linter.unusedVariables false
set_option linter.unusedSimpArgs false
def pickB (lost : List S110) (most : Int) (g : Sp → Int) (s : Sp) (left : Int) (k : Nat) : Bool := mayB lost most s (k : Int) && decide (chgV s (k : Int) + g (s.next (k : Int)) = left)
def extF (lost : List S110) (most : Int) (K : Nat) : Nat → Sp → Int → List Int
 | 0, _, _ => []
 | r + 1, s, left => match (List.range K).find? (pickB lost most (fewF lost most K r) s left) with
  | none => []
  | some k => (k : Int) :: extF lost most K r (s.next (k : Int)) (left - chgV s (k : Int))
def NoPick (p : Nat → Bool) (k : Nat) : Prop := ∀ j, j < k → p j = false
theorem NoPick.succ {p : Nat → Bool} {k : Nat} (h : NoPick p k) (hp : p k = false) : NoPick p (k + 1) := by
 intro j hj
 by_cases e : j = k
 ·subst e; exact hp
 ·exact h j (by omega)
theorem find_range (p : Nat → Bool) (K k : Nat) (hk : k < K) (h : NoPick p k) (hp : p k = true) : (List.range K).find? p = some k := by
 rw [List.find?_range_eq_some]
 exact ⟨hp, by simpa using hk, fun j hj => by simp [h j hj]⟩
theorem blk_ne2 {a b : Nat} (h : a < b) : b ≠ a := by omega
theorem find_none (p : Nat → Bool) (K : Nat) (h : NoPick p K) : (List.range K).find? p = none := by
 rw [List.find?_eq_none]
 intro j hj
 simp only [List.mem_range] at hj
 simp [h j hj]
structure EInv (sz wd : Int) (AK : Option Addr) (K cK : Nat) (AD : Option Addr) (N cD : Nat) (AL : Option Addr) (cL : Nat) (lost : List S110) (most : Int) (gb gp gw gd gx gm : Nat) (w0 : World) (wr : World) (v : Value) (pre : List Int) : Prop where
 below : Below w0.heap.size w0 wr
 bb : wr.heap[gb]? = some (.cells #[.int .i64 sz, .int .i64 wd, .slice AK K cK, .slice AD N cD] 32 (0, 0))
 bp : wr.heap[gp]? = some (.cells #[.pointer (some ⟨gw, 0, none⟩)] 113 (0, 0))
 bw : wr.heap[gw]? = some (.cells #[.int .i64 sz, .int .i64 wd, .slice AK K cK, .slice AD N cD, .slice AL lost.length cL, .int .i64 most, .map (some gm)] 116 (0, 0))
 bx : wr.heap[gx]? = some (.cells #[.func (.func 76) #[] #[.pointer (some ⟨gb, 0, none⟩), .pointer (some ⟨gp, 0, none⟩), .pointer (some ⟨gd, 0, none⟩), .pointer (some ⟨gx, 0, none⟩)]] 122 (0, 0))
 bd : wr.heap[gd]? = some (.cells #[v] 23 (0, 0))
 good : GoodMap (FN lost most K N) gm wr
 own : Kd.R (Kd.int .i64) 3 wr w0.heap.size (fun _ => True) v pre
 ged : w0.heap.size ≤ gd
 gem : w0.heap.size ≤ gm
section
variable {sz wd : Int} {AK : Option Addr} {K cK : Nat} {AD : Option Addr} {N cD : Nat} {AL : Option Addr} {cL : Nat} {lost : List S110} {most : Int} {gb gp gw gd gx gm : Nat} {w0 wr W : World} {v : Value} {pre : List Int}
theorem EInv.step (h : EInv sz wd AK K cK AD N cD AL cL lost most gb gp gw gd gx gm w0 wr v pre) (hb : Below wr.heap.size wr W) : EInv sz wd AK K cK AD N cD AL cL lost most gb gp gw gd gx gm w0 W v pre :=
 ⟨bT h.below hb, kB h.bb hb, kB h.bp hb, kB h.bw hb, kB h.bx hb, kB h.bd hb, good_below h.good hb, Kd.R_below h.own hb, h.ged, h.gem⟩
theorem grown_of_gm (hB : Below w0.heap.size w0 wr) (hge : w0.heap.size ≤ gm) (hg : wr.grownBy W (some gm)) : Below w0.heap.size w0 W :=
 hB.grown hg hB.size (fun k e => by injection e with e; omega)
theorem R_map {F : Sp → Int} (hR : Kd.R (Kd.int .i64) 3 wr w0.heap.size (fun _ => True) v pre) (hG : GoodMap F gm wr) (hg : wr.grownBy W (some gm)) : Kd.R (Kd.int .i64) 3 W w0.heap.size (fun _ => True) v pre :=
 Kd.R_mono (Kd.R_grown (Kd.R_bound hR) hg (fun k hk e => by
  obtain ⟨_, _, _, q, _, cells, hc⟩ := hk
  exact good_ne hG hc e)) (fun _ _ => trivial)
theorem EInv.map (h : EInv sz wd AK K cK AD N cD AL cL lost most gb gp gw gd gx gm w0 wr v pre) (hg : wr.grownBy W (some gm)) (hG : GoodMap (FN lost most K N) gm W) : EInv sz wd AK K cK AD N cD AL cL lost most gb gp gw gd gx gm w0 W v pre :=
 ⟨grown_of_gm h.below h.gem hg, blk_grown h.bb hg (good_ne h.good h.bb), blk_grown h.bp hg (good_ne h.good h.bp), blk_grown h.bw hg (good_ne h.good h.bw), blk_grown h.bx hg (good_ne h.good h.bx), blk_grown h.bd hg (good_ne h.good h.bd), hG, R_map h.own h.good hg, h.ged, h.gem⟩
theorem EInv.push {v1 : Value} {x : Int} (h : EInv sz wd AK K cK AD N cD AL cL lost most gb gp gw gd gx gm w0 wr v pre) (hR : Kd.R (Kd.int .i64) 3 W w0.heap.size (fun _ => True) v1 (pre ++ [x])) (hB : Below w0.heap.size w0 W) (hg : wr.grownBy W v.ownBlock) : EInv sz wd AK K cK AD N cD AL cL lost most gb gp gw gd gx gm w0 (W.setCell ⟨gd, 0, none⟩ v1) v1 (pre ++ [x]) := by
 have nb := Kd.R_ne h.own h.bb (by decide)
 have np := Kd.R_ne h.own h.bp (by decide)
 have nw := Kd.R_ne h.own h.bw (by decide)
 have nx := Kd.R_ne h.own h.bx (by decide)
 have nd := Kd.R_ne h.own h.bd (by decide)
 have eb := blk_ne h.bb h.bd (by decide)
 have ep := blk_ne h.bp h.bd (by decide)
 have ew := blk_ne h.bw h.bd (by decide)
 have ex := blk_ne h.bx h.bd (by decide)
 have bd1 := blk_grown h.bd hg nd
 have hgm : GoodMap (FN lost most K N) gm W := by
  refine good_same h.good (hg.block gm (good_lt h.good) ?_)
  intro e
  obtain ⟨inner, ho⟩ := Kd.R_own h.own
  obtain ⟨cells, hc⟩ := own_typed ho gm e.symm
  exact good_ne h.good hc rfl
 refine ⟨hB.setCell h.ged _, blk_far (blk_grown h.bb hg nb) eb _, blk_far (blk_grown h.bp hg np) ep _, blk_far (blk_grown h.bw hg nw) ew _, blk_far (blk_grown h.bx hg nx) ex _, blk_put bd1 0 _ rfl, good_set hgm bd1, ?_, h.ged, h.gem⟩
 exact Kd.R_set hR bd1 (by intro q hq; simp [Kd.int, Kd.scalar] at hq; omega) 0 v1
end
def ExtPost (sz wd : Int) (AK : Option Addr) (K cK : Nat) (AD : Option Addr) (N cD : Nat) (AL : Option Addr) (cL : Nat) (lost : List S110) (most : Int) (gb gp gw gd gx gm : Nat) (w0 : World) (l : List Int) (e : Ending) (w' : World) : Prop := e = .returned (.tuple #[]) ∧ ∃ v', EInv sz wd AK K cK AD N cD AL cL lost most gb gp gw gd gx gm w0 w' v' l
set_option maxHeartbeats 8000000 in
set_option maxRecDepth 100000 in
theorem ext_zero (sz wd : Int) (AK : Option Addr) (K cK : Nat) (AD : Option Addr) (N cD : Nat) (AL : Option Addr) (cL : Nat) (lost : List S110) (most : Int) (gb gp gw gd gx gm : Nat) (w0 : World) (hK : K ≤ 5) (hN : N ≤ 1000) (hcl : lost.length ≤ cL) (hlen : lost.length ≤ 1000) (hr : Kd.C k110 w0 AL lost.length lost) (s : Sp) (left : Int) (wr : World) (v : Value) (pre : List Int) (hs : s.ok) (hd : s.d = (N : Int)) (hi : EInv sz wd AK K cK AD N cD AL cL lost most gb gp gw gd gx gm w0 wr v pre) :
  Calls Try.prog 76 #[.agg #[.int .i64 s.d, .int .i64 s.la, .int .i64 s.u0, .int .i64 s.u1, .int .i64 s.u2, .int .i64 s.u3, .int .i64 s.u4], .int .i64 left, .pointer (some ⟨gb, 0, none⟩), .pointer (some ⟨gp, 0, none⟩), .pointer (some ⟨gd, 0, none⟩), .pointer (some ⟨gx, 0, none⟩)] wr (ExtPost sz wd AK K cK AD N cD AL cL lost most gb gp gw gd gx gm w0 pre) := by
 have hu116 := Try.underlying116
 have hu121 := Try.underlying121
 have hu32 := Try.underlying32
 have HI := Sd.mk hi
 have HS := Sd.mk hs
 have HR := Sd.mk hr
 have HK := Sd.mk hK
 have HC := Sd.mk hcl
 have HLN := Sd.mk hlen
 have f1 : decide (s.d < (N : Int)) = false := decide_eq_false (by omega)
 clear hs hr hK hcl hlen hN hi hd
 have HB := Sd.mk (Below.refl wr.heap.size wr)
 go_enter Try.func76, Try.ntmps76
 have hk5 := HK.1
 go_wp2_with (first | ((with_reducible refine gD (N := 6) rfl ?_); (try (refine gG (by rfl) ?_; dsimp only)); refine xE ?hg (N := 6) ?hd (cs := #[.int .i64 s.d, .int .i64 s.la, .int .i64 s.u0, .int .i64 s.u1, .int .i64 s.u2, .int .i64 s.u3, .int .i64 s.u4]) (t := 121) ?hr ?_; (case hd => rfl); (case hg => rfl); (case hr => first | (go_simp; done) ); intro gs hg w1 hbox hb; have n0_ := Sd.mk (bT (by repeat (first | (with_reducible first | exact HB.1 ) )) hb); have n1_ := Sd.mk hbox; have n2_ := Sd.mk ((by rw [hg]; exact (bZ (by repeat (first | (with_reducible first | exact HB.1 ) )))) : wr.heap.size ≤ gs); have i0_ := Sd.mk (HI.1.step hb); clear HI; have HI := i0_; clear i0_; clear HB; have HB := n0_; have BKgs := n1_; have GEgs := n2_; clear n0_ n1_ n2_; clear hb hbox hg; have hczbgb_2 : w1.cell? ⟨gb, 2, none⟩ = some (.slice AK K cK) := (kC HI.1.bb 2).trans rfl))
 go_loopw [15] (fun v15 W => ∃ k : Nat, v15 = .int .i64 (k : Int) ∧ k ≤ K ∧ Sd (EInv sz wd AK K cK AD N cD AL cL lost most gb gp gw gd gx gm w0 W v pre) ∧ Sd (W.heap[gs]? = some (.cells #[.int .i64 s.d, .int .i64 s.la, .int .i64 s.u0, .int .i64 s.u1, .int .i64 s.u2, .int .i64 s.u3, .int .i64 s.u4] 121 (0, 0)))) (fun v15 W => K - (intOf v15).toNat)
 case atStart => exact ⟨0, rfl, Nat.zero_le _, HI, BKgs⟩
 case round =>
   clear HI BKgs HB
   obtain ⟨k, rfl, hle, HI, BKgs⟩ := hrel
   by_cases c4 : k < K
   ·have hczrgb_0 : wr.cell? ⟨gb, 0, none⟩ = some (.int .i64 sz) := (kC HI.1.bb 0).trans rfl
    have hczrgp_0 : wr.cell? ⟨gp, 0, none⟩ = some (.pointer (some ⟨gw, 0, none⟩)) := (kC HI.1.bp 0).trans rfl
    have hczrs_0 : wr.cell? ⟨gs, 0, none⟩ = some (.int .i64 s.d) := (kC BKgs.1 0).trans rfl
    have hczrs_1 : wr.cell? ⟨gs, 1, none⟩ = some (.int .i64 s.la) := (kC BKgs.1 1).trans rfl
    have hczrs_2 : wr.cell? ⟨gs, 2, none⟩ = some (.int .i64 s.u0) := (kC BKgs.1 2).trans rfl
    have hczrs_3 : wr.cell? ⟨gs, 3, none⟩ = some (.int .i64 s.u1) := (kC BKgs.1 3).trans rfl
    have hczrs_4 : wr.cell? ⟨gs, 4, none⟩ = some (.int .i64 s.u2) := (kC BKgs.1 4).trans rfl
    have hczrs_5 : wr.cell? ⟨gs, 5, none⟩ = some (.int .i64 s.u3) := (kC BKgs.1 5).trans rfl
    have hczrs_6 : wr.cell? ⟨gs, 6, none⟩ = some (.int .i64 s.u4) := (kC BKgs.1 6).trans rfl
    go_wp2_with fail
    refine (may_any sz wd _ _ _ AL cL lost most gw s k _ (by omega) (Kd.C_below HR.1 HI.1.below) HC.1 HLN.1 HI.1.bw HS.1.fit).mono ?_
    rintro e w2 ⟨rfl, hb⟩
    have i0_ := Sd.mk (HI.1.step hb)
    have m0_ := Sd.mk (kB BKgs.1 hb)
    clear HI BKgs hb
    have HI := i0_
    have BKgs := m0_
    clear i0_ m0_
    cases hm : mayB lost most s (k : Int) with
    | false =>
     have hv : mayV lost most s k = .tuple #[.agg #[.int .i64 s.d, .int .i64 s.la, .int .i64 s.u0, .int .i64 s.u1, .int .i64 s.u2, .int .i64 s.u3, .int .i64 s.u4], .int .i64 0, .bool false] := by unfold mayV; rw [if_neg (by rw [hm]; decide)]; rfl
     rw [hv]
     clear hv hm
     go_wp2
     go_roundw
     case rel => exact ⟨k + 1, by go_num, by omega, ⟨HI.1.step (by repeat (first | exact Below.refl _ _ | refine Below.alloc ?_ (Nat.le_refl _) _ ))⟩, ⟨kB BKgs.1 (by repeat (first | exact Below.refl _ _ | refine Below.alloc ?_ (Nat.le_refl _) _ ))⟩⟩
     case measure => simp [intOf]; omega
    | true =>
     have hv : mayV lost most s k = .tuple #[.agg #[.int .i64 (s.next k).d, .int .i64 (s.next k).la, .int .i64 (s.next k).u0, .int .i64 (s.next k).u1, .int .i64 (s.next k).u2, .int .i64 (s.next k).u3, .int .i64 (s.next k).u4], .int .i64 (chgV s k), .bool true] := by unfold mayV; rw [if_pos hm]; rfl
     rw [hv]
     clear hv hm
     have hn_gs : gs < w2.heap.size := blk_lt BKgs.1
     have hn_gb : gb < w2.heap.size := blk_lt HI.1.bb
     have hn_gp : gp < w2.heap.size := blk_lt HI.1.bp
     have hn_gx : gx < w2.heap.size := blk_lt HI.1.bx
     have hn_gd : gd < w2.heap.size := blk_lt HI.1.bd
     have hczsgb_3 : w2.cell? ⟨gb, 3, none⟩ = some (.slice AD N cD) := (kC HI.1.bb 3).trans rfl
     have hczsgp_0 : w2.cell? ⟨gp, 0, none⟩ = some (.pointer (some ⟨gw, 0, none⟩)) := (kC HI.1.bp 0).trans rfl
     have hczss_0 : w2.cell? ⟨gs, 0, none⟩ = some (.int .i64 s.d) := (kC BKgs.1 0).trans rfl
     go_wp2
     go_roundw
     case rel => exact ⟨k + 1, by go_num, by omega, ⟨HI.1.step (by repeat (first | exact Below.refl _ _ | refine Below.alloc ?_ (Nat.le_refl _) _ ))⟩, ⟨kB BKgs.1 (by repeat (first | exact Below.refl _ _ | refine Below.alloc ?_ (Nat.le_refl _) _ ))⟩⟩
     case measure => simp [intOf]; omega
   ·go_wp2
    go_end0
    exact ⟨rfl, _, HI.1⟩
set_option maxHeartbeats 8000000 in
set_option maxRecDepth 100000 in
theorem ext_step (sz wd : Int) (AK : Option Addr) (K cK : Nat) (AD : Option Addr) (N cD : Nat) (AL : Option Addr) (cL : Nat) (lost : List S110) (most : Int) (gb gp gw gd gx gm : Nat) (w0 : World) (hK : K ≤ 5) (hN : N ≤ 1000) (hcl : lost.length ≤ cL) (hlen : lost.length ≤ 1000) (hr : Kd.C k110 w0 AL lost.length lost) (r : Nat)
  (IH : ∀ (s : Sp) (left : Int) (wr : World) (v : Value) (pre : List Int), s.ok → s.d + r = N → 0 ≤ left → left ≤ 1048577 → pre.length + r ≤ 1000 → EInv sz wd AK K cK AD N cD AL cL lost most gb gp gw gd gx gm w0 wr v pre → Calls Try.prog 76 #[spV s, .int .i64 left, .pointer (some ⟨gb, 0, none⟩), .pointer (some ⟨gp, 0, none⟩), .pointer (some ⟨gd, 0, none⟩), .pointer (some ⟨gx, 0, none⟩)] wr (ExtPost sz wd AK K cK AD N cD AL cL lost most gb gp gw gd gx gm w0 (pre ++ extF lost most K r s left)))
  (s : Sp) (left : Int) (wr : World) (v : Value) (pre : List Int) (hs : s.ok) (hd : s.d + (r + 1 : Nat) = N) (hl0 : 0 ≤ left) (hl1 : left ≤ 1048577) (hp : pre.length + (r + 1) ≤ 1000) (hi : EInv sz wd AK K cK AD N cD AL cL lost most gb gp gw gd gx gm w0 wr v pre) :
  Calls Try.prog 76 #[.agg #[.int .i64 s.d, .int .i64 s.la, .int .i64 s.u0, .int .i64 s.u1, .int .i64 s.u2, .int .i64 s.u3, .int .i64 s.u4], .int .i64 left, .pointer (some ⟨gb, 0, none⟩), .pointer (some ⟨gp, 0, none⟩), .pointer (some ⟨gd, 0, none⟩), .pointer (some ⟨gx, 0, none⟩)] wr (ExtPost sz wd AK K cK AD N cD AL cL lost most gb gp gw gd gx gm w0 (pre ++ extF lost most K (r + 1) s left)) := by
 have hu116 := Try.underlying116
 have hu121 := Try.underlying121
 have hu32 := Try.underlying32
 have HI := Sd.mk hi
 have HS := Sd.mk hs
 have HR := Sd.mk hr
 have HK := Sd.mk hK
 have HC := Sd.mk hcl
 have HLN := Sd.mk hlen
 have HH := Sd.mk IH
 have HD := Sd.mk hd
 have HP := Sd.mk hp
 have HNN := Sd.mk hN
 have f1 : decide (s.d < (N : Int)) = true := decide_eq_true (by omega)
 clear hs hr hK hcl hlen hN hi hd IH hp
 have HB := Sd.mk (Below.refl wr.heap.size wr)
 go_enter Try.func76, Try.ntmps76
 have hk5 := HK.1
 go_wp2_with (first | ((with_reducible refine gD (N := 6) rfl ?_); (try (refine gG (by rfl) ?_; dsimp only)); refine xE ?hg (N := 6) ?hd (cs := #[.int .i64 s.d, .int .i64 s.la, .int .i64 s.u0, .int .i64 s.u1, .int .i64 s.u2, .int .i64 s.u3, .int .i64 s.u4]) (t := 121) ?hr ?_; (case hd => rfl); (case hg => rfl); (case hr => first | (go_simp; done) ); intro gs hg w1 hbox hb; have n0_ := Sd.mk (bT (by repeat (first | (with_reducible first | exact HB.1 ) )) hb); have n1_ := Sd.mk hbox; have n2_ := Sd.mk ((by rw [hg]; exact (bZ (by repeat (first | (with_reducible first | exact HB.1 ) )))) : wr.heap.size ≤ gs); have i0_ := Sd.mk (HI.1.step hb); clear HI; have HI := i0_; clear i0_; clear HB; have HB := n0_; have BKgs := n1_; have GEgs := n2_; clear n0_ n1_ n2_; clear hb hbox hg; have hczbgb_2 : w1.cell? ⟨gb, 2, none⟩ = some (.slice AK K cK) := (kC HI.1.bb 2).trans rfl))
 go_loopw [15] (fun v15 W => ∃ k : Nat, v15 = .int .i64 (k : Int) ∧ k ≤ K ∧ Sd (NoPick (pickB lost most (fewF lost most K r) s left) k) ∧ Sd (EInv sz wd AK K cK AD N cD AL cL lost most gb gp gw gd gx gm w0 W v pre) ∧ Sd (W.heap[gs]? = some (.cells #[.int .i64 s.d, .int .i64 s.la, .int .i64 s.u0, .int .i64 s.u1, .int .i64 s.u2, .int .i64 s.u3, .int .i64 s.u4] 121 (0, 0)))) (fun v15 W => K - (intOf v15).toNat)
 case atStart => exact ⟨0, rfl, Nat.zero_le _, ⟨fun j hj => absurd hj (by omega)⟩, HI, BKgs⟩
 case round =>
   clear HI BKgs HB
   obtain ⟨k, rfl, hle, HNP, HI, BKgs⟩ := hrel
   by_cases c4 : k < K
   ·have hczrgb_0 : wr.cell? ⟨gb, 0, none⟩ = some (.int .i64 sz) := (kC HI.1.bb 0).trans rfl
    have hczrgp_0 : wr.cell? ⟨gp, 0, none⟩ = some (.pointer (some ⟨gw, 0, none⟩)) := (kC HI.1.bp 0).trans rfl
    have hczrs_0 : wr.cell? ⟨gs, 0, none⟩ = some (.int .i64 s.d) := (kC BKgs.1 0).trans rfl
    have hczrs_1 : wr.cell? ⟨gs, 1, none⟩ = some (.int .i64 s.la) := (kC BKgs.1 1).trans rfl
    have hczrs_2 : wr.cell? ⟨gs, 2, none⟩ = some (.int .i64 s.u0) := (kC BKgs.1 2).trans rfl
    have hczrs_3 : wr.cell? ⟨gs, 3, none⟩ = some (.int .i64 s.u1) := (kC BKgs.1 3).trans rfl
    have hczrs_4 : wr.cell? ⟨gs, 4, none⟩ = some (.int .i64 s.u2) := (kC BKgs.1 4).trans rfl
    have hczrs_5 : wr.cell? ⟨gs, 5, none⟩ = some (.int .i64 s.u3) := (kC BKgs.1 5).trans rfl
    have hczrs_6 : wr.cell? ⟨gs, 6, none⟩ = some (.int .i64 s.u4) := (kC BKgs.1 6).trans rfl
    go_wp2_with fail
    refine (may_any sz wd _ _ _ AL cL lost most gw s k _ (by omega) (Kd.C_below HR.1 HI.1.below) HC.1 HLN.1 HI.1.bw HS.1.fit).mono ?_
    rintro e w2 ⟨rfl, hb⟩
    have i0_ := Sd.mk (HI.1.step hb)
    have m0_ := Sd.mk (kB BKgs.1 hb)
    clear HI BKgs hb
    have HI := i0_
    have BKgs := m0_
    clear i0_ m0_
    cases hm : mayB lost most s (k : Int) with
    | false =>
     have hv : mayV lost most s k = .tuple #[.agg #[.int .i64 s.d, .int .i64 s.la, .int .i64 s.u0, .int .i64 s.u1, .int .i64 s.u2, .int .i64 s.u3, .int .i64 s.u4], .int .i64 0, .bool false] := by unfold mayV; rw [if_neg (by rw [hm]; decide)]; rfl
     rw [hv]
     have hnp : pickB lost most (fewF lost most K r) s left k = false := by unfold pickB; rw [hm]; rfl
     have HNP2 := Sd.mk (HNP.1.succ hnp)
     clear hv hm hnp
     go_wp2
     go_roundw
     case rel => exact ⟨k + 1, by go_num, by omega, HNP2, ⟨HI.1.step (by repeat (first | exact Below.refl _ _ | refine Below.alloc ?_ (Nat.le_refl _) _ ))⟩, ⟨kB BKgs.1 (by repeat (first | exact Below.refl _ _ | refine Below.alloc ?_ (Nat.le_refl _) _ ))⟩⟩
     case measure => simp [intOf]; omega
    | true =>
     have hv : mayV lost most s k = .tuple #[.agg #[.int .i64 (s.next k).d, .int .i64 (s.next k).la, .int .i64 (s.next k).u0, .int .i64 (s.next k).u1, .int .i64 (s.next k).u2, .int .i64 (s.next k).u3, .int .i64 (s.next k).u4], .int .i64 (chgV s k), .bool true] := by unfold mayV; rw [if_pos hm]; rfl
     rw [hv]
     have HM := Sd.mk hm
     have hch : 0 ≤ chgV s (k : Int) ∧ chgV s (k : Int) ≤ 1 := by unfold chgV; split <;> omega
     have hfb := fewF_bd lost most K r (s.next k)
     have hch0 := hch.1
     have hch1 := hch.2
     have hf0 := hfb.1
     have hf1 : fewF lost most K r (s.next k) ≤ 1048576 := hfb.2
     clear hv hm hch hfb
     have hn_gs : gs < w2.heap.size := blk_lt BKgs.1
     have hn_gb : gb < w2.heap.size := blk_lt HI.1.bb
     have hn_gp : gp < w2.heap.size := blk_lt HI.1.bp
     have hn_gx : gx < w2.heap.size := blk_lt HI.1.bx
     have hn_gd : gd < w2.heap.size := blk_lt HI.1.bd
     have hczsgb_3 : w2.cell? ⟨gb, 3, none⟩ = some (.slice AD N cD) := (kC HI.1.bb 3).trans rfl
     have hczsgp_0 : w2.cell? ⟨gp, 0, none⟩ = some (.pointer (some ⟨gw, 0, none⟩)) := (kC HI.1.bp 0).trans rfl
     have hczss_0 : w2.cell? ⟨gs, 0, none⟩ = some (.int .i64 s.d) := (kC BKgs.1 0).trans rfl
     go_wp2_with fail
     refine (few_any sz wd AK K cK AD N cD AL cL lost most gw gm HK.1 HNN.1 HC.1 HLN.1 r (s.next k) _ ?i1 ?i2 ?i3 ?i4 ?i5).mono ?i6
     case i1 => exact HS.1.next k (by omega) (by have := HD.1; have := HNN.1; omega)
     case i2 => have := HD.1; rw [next_d]; omega
     case i3 => exact fun W hW => Kd.C_below HR.1 (grown_of_gm (HI.1.step (by repeat (first | exact Below.refl _ _ | refine Below.alloc ?_ (Nat.le_refl _) _ ))).below HI.1.gem hW)
     case i4 => exact (HI.1.step (by repeat (first | exact Below.refl _ _ | refine Below.alloc ?_ (Nat.le_refl _) _ ))).bw
     case i5 => exact (HI.1.step (by repeat (first | exact Below.refl _ _ | refine Below.alloc ?_ (Nat.le_refl _) _ ))).good
     rintro e w4 ⟨rfl, hG4, hW4⟩
     have BKn := Sd.mk (blk_grown (blk_new w2 (.cells #[.int .i64 (s.next k).d, .int .i64 (s.next k).la, .int .i64 (s.next k).u0, .int .i64 (s.next k).u1, .int .i64 (s.next k).u2, .int .i64 (s.next k).u3, .int .i64 (s.next k).u4] 121 (0, 0))) hW4 (good_ne (HI.1.step (by repeat (first | exact Below.refl _ _ | refine Below.alloc ?_ (Nat.le_refl _) _ ))).good (blk_new w2 (.cells #[.int .i64 (s.next k).d, .int .i64 (s.next k).la, .int .i64 (s.next k).u0, .int .i64 (s.next k).u1, .int .i64 (s.next k).u2, .int .i64 (s.next k).u3, .int .i64 (s.next k).u4] 121 (0, 0)))))
     have m0_ := Sd.mk (blk_grown (kB BKgs.1 (by repeat (first | exact Below.refl _ _ | refine Below.alloc ?_ (Nat.le_refl _) _ ))) hW4 (good_ne HI.1.good BKgs.1))
     have i0_ := Sd.mk ((HI.1.step (by repeat (first | exact Below.refl _ _ | refine Below.alloc ?_ (Nat.le_refl _) _ ))).map hW4 hG4)
     clear HI BKgs hG4 hW4
     have HI := i0_
     have BKgs := m0_
     clear i0_ m0_
     by_cases heq : chgV s (k : Int) + fewF lost most K r (s.next k) = left
     ·have hb1 : (chgV s (k : Int) + fewF lost most K r (s.next k) == left) = true := beq_iff_eq.2 heq
      have HPK := Sd.mk (show extF lost most K (r + 1) s left = (k : Int) :: extF lost most K r (s.next k) (left - chgV s k) from by
       rw [extF, find_range _ K k c4 HNP.1 (by unfold pickB; rw [HM.1, decide_eq_true heq]; rfl)])
      have HEQ := Sd.mk heq
      clear heq
      have hcztgd_0 : w4.cell? ⟨gd, 0, none⟩ = some (v) := (kC HI.1.bd 0).trans rfl
      have hbnd := hn_gd
      generalize hbn : w2.heap.size = bn at BKn hbnd ⊢
      clear hbn
      go_wp2_with (first | ((with_reducible refine gate_builtin (b := .append) (xs := #[.tmp 44, .tmp 46]) rfl ?_); at_builtin; refine Kd.R_append (Kd.int .i64) (w0 := w0) w0.heap.size rfl (.tmp 44) (.tmp 46) 23 3 (.int .i64 0) 8 rfl Try.underlying23 info3 rfl (by decide) (by omega) v pre (k : Int) [.int .i64 (k : Int)] (fun _ => True) (fun _ => False) rfl rfl ?aP (fun _ hk => hk.elim) ?aF ?aO ?aB ?aS ?aL ?_; (case aP => exact rfl); (case aB => exact (HI.1.step (by exact Below.refl _ _ )).below); (case aF => exact (fun _ _ => trivial)); (case aO => exact (HI.1.step (by exact Below.refl _ _ )).own); (case aS => exact (HI.1.step (by exact Below.refl _ _ )).below.size); (case aL => have := HP.1; omega); intro v1 w5 ho hb hg hat; obtain ⟨Av, nv, cv, rfl⟩ : ∃ A n c, v1 = .slice A n c := (by obtain ⟨A, c, h⟩ := Kd.R_slice ho; exact ⟨A, _, c, h⟩); have HI5 := Sd.mk ((HI.1.step (by exact Below.refl _ _ )).push ho hb hg); have BK5 := Sd.mk (blk_grown (kB BKn.1 (by exact Below.refl _ _ )) hg (Kd.R_ne (HI.1.step (by exact Below.refl _ _ )).own (kB BKn.1 (by exact Below.refl _ _ )) (by decide))); have BKd5 := Sd.mk (blk_grown (HI.1.step (by exact Below.refl _ _ )).bd hg (Kd.R_ne (HI.1.step (by exact Below.refl _ _ )).own (HI.1.step (by exact Below.refl _ _ )).bd (by decide))); have NEd := Sd.mk (blk_ne2 hbnd); clear ho hb hg hat; have hczd5 : w5.cell? ⟨gd, 0, none⟩ = some v := (kC BKd5.1 0).trans rfl; have hfzd5 := kF BKd5.1 0) | ((with_reducible refine gate_store (t := 23) (p := 4) rfl ?_); refine store_event (t := 23) (p := 4) (v := ?vo) (w1 := (w5.setCell ⟨gd, 0, none⟩ (.slice Av nv cv))) ?hg ?ho ?hn ?hr ?_; (case ho => rfl); (case hg => rfl); (case hn => rfl); (case hr => first | (go_simp; done) ); intro w6 hw6; have i0_ : Sd (EInv sz wd AK K cK AD N cD AL cL lost most gb gp gw gd gx gm w0 w6 (.slice Av nv cv) (pre ++ [(k : Int)])) := ⟨by rw [hw6]; exact HI5.1⟩; have m0_ : Sd (w6.heap[bn]? = some (.cells #[.int .i64 (s.next k).d, .int .i64 (s.next k).la, .int .i64 (s.next k).u0, .int .i64 (s.next k).u1, .int .i64 (s.next k).u2, .int .i64 (s.next k).u3, .int .i64 (s.next k).u4] 121 (0, 0))) := ⟨by rw [hw6]; exact blk_far BK5.1 NEd.1 _⟩; clear hw6 HI BKn HI5 BK5 BKd5; have HI := i0_; have BKn := m0_; clear i0_ m0_; have hczvgx_0 : w6.cell? ⟨gx, 0, none⟩ = some (.func (.func 76) #[] #[.pointer (some ⟨gb, 0, none⟩), .pointer (some ⟨gp, 0, none⟩), .pointer (some ⟨gd, 0, none⟩), .pointer (some ⟨gx, 0, none⟩)]) := (kC HI.1.bx 0).trans rfl; have hczvn_0 : w6.cell? ⟨bn, 0, none⟩ = some (.int .i64 (s.next k).d) := (kC BKn.1 0).trans rfl; have hczvn_1 : w6.cell? ⟨bn, 1, none⟩ = some (.int .i64 (s.next k).la) := (kC BKn.1 1).trans rfl; have hczvn_2 : w6.cell? ⟨bn, 2, none⟩ = some (.int .i64 (s.next k).u0) := (kC BKn.1 2).trans rfl; have hczvn_3 : w6.cell? ⟨bn, 3, none⟩ = some (.int .i64 (s.next k).u1) := (kC BKn.1 3).trans rfl; have hczvn_4 : w6.cell? ⟨bn, 4, none⟩ = some (.int .i64 (s.next k).u2) := (kC BKn.1 4).trans rfl; have hczvn_5 : w6.cell? ⟨bn, 5, none⟩ = some (.int .i64 (s.next k).u3) := (kC BKn.1 5).trans rfl; have hczvn_6 : w6.cell? ⟨bn, 6, none⟩ = some (.int .i64 (s.next k).u4) := (kC BKn.1 6).trans rfl))
      refine (HH.1 (s.next k) (left - chgV s k) w6 (.slice Av nv cv) (pre ++ [(k : Int)]) (HS.1.next k (by omega) (by have := HD.1; have := HNN.1; omega)) (by have := HD.1; rw [next_d]; omega) (by have := HEQ.1; omega) (by have := HEQ.1; omega) (by rw [List.length_append]; have := HP.1; simp only [List.length_cons, List.length_nil]; omega) HI.1).mono ?_
      rintro e w7 ⟨rfl, v7, h7⟩
      have H7 := Sd.mk h7
      clear h7
      go_wp2
      go_end0
      refine ⟨rfl, v7, ?_⟩
      have h8 := H7.1
      rw [List.append_assoc, List.singleton_append, ← HPK.1] at h8
      exact h8
     ·have hb1 : (chgV s (k : Int) + fewF lost most K r (s.next k) == left) = false := beq_eq_false_iff_ne.2 heq
      have hnp : pickB lost most (fewF lost most K r) s left k = false := by unfold pickB; rw [decide_eq_false heq]; simp
      have HNP2 := Sd.mk (HNP.1.succ hnp)
      clear hnp heq
      go_wp2
      go_roundw
      case rel => exact ⟨k + 1, by go_num, by omega, HNP2, HI, BKgs⟩
      case measure => simp [intOf]; omega
   ·have HE := Sd.mk (show extF lost most K (r + 1) s left = [] from by rw [extF, find_none _ K (fun j hj => HNP.1 j (by omega))])
    go_wp2
    go_end0
    exact ⟨rfl, v, by rw [HE.1, List.append_nil]; exact HI.1⟩
end Go.Proofs.Ytnidgkmopocdkaa.P
