import Derived.Test.YtnidgkmopocdkaaA13HFits
import Derived.Test.YtnidgkmopocdkaaA13HRound
import Derived.Test.YtnidgkmopocdkaaA13HTurn2
import Derived.Deep.RegionHeld3
namespace Go.Proofs.Ytnidgkmopocdkaa.P
open Go.RowKit Go.Proofs.YtnidgkmopocdkaaW.PrintWords Go.Proofs.YtnidgkmopocdkaaW.PrintLast Go.Proofs.YtnidgkmopocdkaaW.PrintMore
set_option linter.unusedVariables false
set_option linter.unusedSimpArgs false
attribute [local go_sem] Oper.semAt_some
def PossPost (l : List Int) (c : Int) (w : World) (e : Ending) (w' : World) : Prop := ∃ v0_ : Value, e = .returned (.tuple #[v0_, .int .i64 c]) ∧ Kd.V (Kd.int .i64) 3 w' w.heap.size (fun k_ => w.heap.size ≤ k_) v0_ l ∧ Below w.heap.size w w'
theorem clip_some (ad : Addr) (n c : Nat) (w : World) (h : n ≤ c) (hn : n ≤ 9223372036854775807) :
  Calls Try.prog 80 #[.slice (some ad) n c] w fun e w' => e = .returned (.slice (some ad) n n) ∧ Below w.heap.size w w' := by
 have HB := Sd.mk (Below.refl w.heap.size w)
 go_enter Try.func80, Try.ntmps80
 go_wp2
 go_ret
 exact ⟨rfl, HB.1⟩
set_option maxHeartbeats 2000000 in
set_option maxRecDepth 100000 in
theorem poss_ask (a0_0 : Int) (a0_1 : Int) (A0_2 : Option Addr) (c0_2 : Nat) (l0_2 : List (S91)) (A0_3 : Option Addr) (c0_3 : Nat) (l0_3 : List Int) (A1 : Option Addr) (c1 : Nat) (l1 : List Int) (A2 : Option Addr) (c2 : Nat) (l2 : List (S88)) (a3 : Int) (w : World) (hr0_2 : Kd.C k91 w A0_2 l0_2.length l0_2) (hc0_2 : l0_2.length ≤ c0_2) (hr0_3 : Kd.C (Kd.int .i64) w A0_3 l0_3.length l0_3) (hc0_3 : l0_3.length ≤ c0_3) (hr1 : Kd.C (Kd.int .i64) w A1 l1.length l1) (hc1 : l1.length ≤ c1) (hr2 : Kd.C k88 w A2 l2.length l2) (hc2 : l2.length ≤ c2) (h : ¬ askedV a0_0 a0_1 l0_2 l0_3 l1 l2 = 0) :
  Calls Try.prog 42 #[.agg #[.int .i64 a0_0, .int .i64 a0_1, .slice A0_2 l0_2.length c0_2, .slice A0_3 l0_3.length c0_3], .slice A1 l1.length c1, .slice A2 l2.length c2, .int .i64 a3] w (PossPost [] (askedV a0_0 a0_1 l0_2 l0_3 l1 l2) w) := by
 have hu32 := Try.underlying32
 have HR0_2 := Sd.mk hr0_2
 have HC0_2 := Sd.mk hc0_2
 have HR0_3 := Sd.mk hr0_3
 have HC0_3 := Sd.mk hc0_3
 have HR1 := Sd.mk hr1
 have HC1 := Sd.mk hc1
 have HR2 := Sd.mk hr2
 have HC2 := Sd.mk hc2
 clear hr0_2 hc0_2 hr0_3 hc0_3 hr1 hc1 hr2 hc2
 have HB := Sd.mk (Below.refl w.heap.size w)
 have f1 : (askedV a0_0 a0_1 l0_2 l0_3 l1 l2 == 0) = false := beq_eq_false_iff_ne.2 h
 have f1b : (askedV a0_0 a0_1 l0_2 l0_3 l1 l2 != 0) = true := bne_iff_ne.2 h
 clear h
 go_enter Try.func42, Try.ntmps42
 go_wp2_with (first | ((with_reducible refine gD (N := 4) rfl ?_); (try (refine gG (by rfl) ?_; dsimp only)); refine xE ?hg (N := 4) ?hd (cs := #[.int .i64 a0_0, .int .i64 a0_1, .slice A0_2 l0_2.length c0_2, .slice A0_3 l0_3.length c0_3]) (t := 32) ?hr ?_; (case hd => rfl); (case hg => rfl); (case hr => first | (go_simp; done) ); intro gb hg w1 hbox hb; have BKgb := Sd.mk hbox; have GEgb := Sd.mk ((by rw [hg]; exact (bZ (by repeat (first | (with_reducible first | exact HB.1 ) )))) : w.heap.size ≤ gb); replace HB := Sd.mk (bT (by repeat (first | (with_reducible first | exact HB.1 ) )) hb); clear hb hbox hg) | ((with_reducible refine gD (N := 5) rfl ?_); (try (refine gG (by rfl) ?_; dsimp only)); refine xE ?hg (N := 5) ?hd (cs := #[.slice A1 l1.length c1]) (t := 23) ?hr ?_; (case hd => rfl); (case hg => rfl); (case hr => first | (go_simp; done) ); intro gc hg w2 hbox hb; have n0_ := Sd.mk (bT (by repeat (first | (with_reducible first | exact HB.1 ) )) hb); have n1_ := Sd.mk hbox; have n2_ := Sd.mk ((by rw [hg]; exact (bZ (by repeat (first | (with_reducible first | exact HB.1 ) )))) : w.heap.size ≤ gc); have m0_ := Sd.mk (kB (by (with_reducible repeat (fail)); exact BKgb.1) hb); have NEgbgc := Sd.mk (by rw [hg]; exact Nat.ne_of_lt (blk_lt (by (with_reducible repeat (fail)); exact BKgb.1)) : gb ≠ gc); clear HB; have HB := n0_; have BKgc := n1_; have GEgc := n2_; clear n0_ n1_ n2_; clear BKgb; have BKgb := m0_; clear m0_; clear hb hbox hg) | ((with_reducible refine gD (N := 7) rfl ?_); (try (refine gG (by rfl) ?_; dsimp only)); refine xE ?hg (N := 7) ?hd (cs := #[.int .i64 a3]) (t := 3) ?hr ?_; (case hd => rfl); (case hg => rfl); (case hr => first | (go_simp; done) ); intro ga hg w3 hbox hb; have n0_ := Sd.mk (bT (by repeat (first | (with_reducible first | exact HB.1 ) )) hb); have n1_ := Sd.mk hbox; have n2_ := Sd.mk ((by rw [hg]; exact (bZ (by repeat (first | (with_reducible first | exact HB.1 ) )))) : w.heap.size ≤ ga); have m0_ := Sd.mk (kB (by (with_reducible repeat (fail)); exact BKgb.1) hb); have m1_ := Sd.mk (kB (by (with_reducible repeat (fail)); exact BKgc.1) hb); have NEgbga := Sd.mk (by rw [hg]; exact Nat.ne_of_lt (blk_lt (by (with_reducible repeat (fail)); exact BKgb.1)) : gb ≠ ga); have NEgcga := Sd.mk (by rw [hg]; exact Nat.ne_of_lt (blk_lt (by (with_reducible repeat (fail)); exact BKgc.1)) : gc ≠ ga); clear HB; have HB := n0_; have BKga := n1_; have GEga := n2_; clear n0_ n1_ n2_; clear BKgb; have BKgb := m0_; clear m0_; clear BKgc; have BKgc := m1_; clear m1_; clear hb hbox hg; have z_w3gb_0 : w3.cell? ⟨gb, 0, none⟩ = some (.int .i64 a0_0) := (kC BKgb.1 0).trans rfl; have z_w3gb_1 : w3.cell? ⟨gb, 1, none⟩ = some (.int .i64 a0_1) := (kC BKgb.1 1).trans rfl; have z_w3gb_2 : w3.cell? ⟨gb, 2, none⟩ = some (.slice A0_2 l0_2.length c0_2) := (kC BKgb.1 2).trans rfl; have z_w3gb_3 : w3.cell? ⟨gb, 3, none⟩ = some (.slice A0_3 l0_3.length c0_3) := (kC BKgb.1 3).trans rfl; have z_w3gc_0 : w3.cell? ⟨gc, 0, none⟩ = some (.slice A1 l1.length c1) := (kC BKgc.1 0).trans rfl) | (go_at_call 78; refine (cipher_Book_asked.calls a0_0 a0_1 _ _ l0_2 _ _ l0_3 _ _ l1 _ _ l2 _ _ (Kd.C_below HR0_2.1 (by repeat (first | (with_reducible first | exact HB.1 ) ))) HC0_2.1 (Kd.C_below HR0_3.1 (by repeat (first | (with_reducible first | exact HB.1 ) ))) HC0_3.1 (Kd.C_below HR1.1 (by repeat (first | (with_reducible first | exact HB.1 ) ))) HC1.1 (Kd.C_below HR2.1 (by repeat (first | (with_reducible first | exact HB.1 ) ))) HC2.1 rfl).mono ?_; rintro e w4 ⟨rfl, hb⟩; have n0_ := Sd.mk (bT (by repeat (first | (with_reducible first | exact HB.1 ) )) hb); have m0_ := Sd.mk (kB (by (with_reducible repeat (fail)); exact BKgb.1) hb); have m1_ := Sd.mk (kB (by (with_reducible repeat (fail)); exact BKgc.1) hb); have m2_ := Sd.mk (kB (by (with_reducible repeat (fail)); exact BKga.1) hb); clear HB; have HB := n0_; clear n0_; clear BKgb; have BKgb := m0_; clear m0_; clear BKgc; have BKgc := m1_; clear m1_; clear BKga; have BKga := m2_; clear m2_; clear hb; have z_w4gb_0 : w4.cell? ⟨gb, 0, none⟩ = some (.int .i64 a0_0) := (kC BKgb.1 0).trans rfl; have z_w4gc_0 : w4.cell? ⟨gc, 0, none⟩ = some (.slice A1 l1.length c1) := (kC BKgc.1 0).trans rfl; have z_w4ga_0 : w4.cell? ⟨ga, 0, none⟩ = some (.int .i64 a3) := (kC BKga.1 0).trans rfl))
 go_ret2
 exact ⟨_, rfl, Kd.V_nil _ _ _ _ _, HB.1⟩
set_option maxHeartbeats 2000000 in
set_option maxRecDepth 100000 in
theorem poss_at (a0_0 : Int) (a0_1 : Int) (A0_2 : Option Addr) (c0_2 : Nat) (l0_2 : List (S91)) (A0_3 : Option Addr) (c0_3 : Nat) (l0_3 : List Int) (A1 : Option Addr) (c1 : Nat) (l1 : List Int) (A2 : Option Addr) (c2 : Nat) (l2 : List (S88)) (a3 : Int) (w : World) (hr0_2 : Kd.C k91 w A0_2 l0_2.length l0_2) (hc0_2 : l0_2.length ≤ c0_2) (hr0_3 : Kd.C (Kd.int .i64) w A0_3 l0_3.length l0_3) (hc0_3 : l0_3.length ≤ c0_3) (hr1 : Kd.C (Kd.int .i64) w A1 l1.length l1) (hc1 : l1.length ≤ c1) (hr2 : Kd.C k88 w A2 l2.length l2) (hc2 : l2.length ≤ c2) (h : askedV a0_0 a0_1 l0_2 l0_3 l1 l2 = 0) (hat : inB a3 0 ((l1.length : Int) - 1) = false) :
  Calls Try.prog 42 #[.agg #[.int .i64 a0_0, .int .i64 a0_1, .slice A0_2 l0_2.length c0_2, .slice A0_3 l0_3.length c0_3], .slice A1 l1.length c1, .slice A2 l2.length c2, .int .i64 a3] w (PossPost [] 2 w) := by
 have hu32 := Try.underlying32
 have HR0_2 := Sd.mk hr0_2
 have HC0_2 := Sd.mk hc0_2
 have HR0_3 := Sd.mk hr0_3
 have HC0_3 := Sd.mk hc0_3
 have HR1 := Sd.mk hr1
 have HC1 := Sd.mk hc1
 have HR2 := Sd.mk hr2
 have HC2 := Sd.mk hc2
 clear hr0_2 hc0_2 hr0_3 hc0_3 hr1 hc1 hr2 hc2
 have HB := Sd.mk (Below.refl w.heap.size w)
 have f1 : (askedV a0_0 a0_1 l0_2 l0_3 l1 l2 == 0) = true := beq_iff_eq.2 h
 have f1b : (askedV a0_0 a0_1 l0_2 l0_3 l1 l2 != 0) = false := bne_eq_false_iff_eq.2 h
 have hl1 : l1.length ≤ 10 := (asked_ok h).2.1
 clear h
 go_enter Try.func42, Try.ntmps42
 go_wp2_with (first | ((with_reducible refine gD (N := 4) rfl ?_); (try (refine gG (by rfl) ?_; dsimp only)); refine xE ?hg (N := 4) ?hd (cs := #[.int .i64 a0_0, .int .i64 a0_1, .slice A0_2 l0_2.length c0_2, .slice A0_3 l0_3.length c0_3]) (t := 32) ?hr ?_; (case hd => rfl); (case hg => rfl); (case hr => first | (go_simp; done) ); intro gb hg w1 hbox hb; have BKgb := Sd.mk hbox; have GEgb := Sd.mk ((by rw [hg]; exact (bZ (by repeat (first | (with_reducible first | exact HB.1 ) )))) : w.heap.size ≤ gb); replace HB := Sd.mk (bT (by repeat (first | (with_reducible first | exact HB.1 ) )) hb); clear hb hbox hg) | ((with_reducible refine gD (N := 5) rfl ?_); (try (refine gG (by rfl) ?_; dsimp only)); refine xE ?hg (N := 5) ?hd (cs := #[.slice A1 l1.length c1]) (t := 23) ?hr ?_; (case hd => rfl); (case hg => rfl); (case hr => first | (go_simp; done) ); intro gc hg w2 hbox hb; have n0_ := Sd.mk (bT (by repeat (first | (with_reducible first | exact HB.1 ) )) hb); have n1_ := Sd.mk hbox; have n2_ := Sd.mk ((by rw [hg]; exact (bZ (by repeat (first | (with_reducible first | exact HB.1 ) )))) : w.heap.size ≤ gc); have m0_ := Sd.mk (kB (by (with_reducible repeat (fail)); exact BKgb.1) hb); have NEgbgc := Sd.mk (by rw [hg]; exact Nat.ne_of_lt (blk_lt (by (with_reducible repeat (fail)); exact BKgb.1)) : gb ≠ gc); clear HB; have HB := n0_; have BKgc := n1_; have GEgc := n2_; clear n0_ n1_ n2_; clear BKgb; have BKgb := m0_; clear m0_; clear hb hbox hg) | ((with_reducible refine gD (N := 7) rfl ?_); (try (refine gG (by rfl) ?_; dsimp only)); refine xE ?hg (N := 7) ?hd (cs := #[.int .i64 a3]) (t := 3) ?hr ?_; (case hd => rfl); (case hg => rfl); (case hr => first | (go_simp; done) ); intro ga hg w3 hbox hb; have n0_ := Sd.mk (bT (by repeat (first | (with_reducible first | exact HB.1 ) )) hb); have n1_ := Sd.mk hbox; have n2_ := Sd.mk ((by rw [hg]; exact (bZ (by repeat (first | (with_reducible first | exact HB.1 ) )))) : w.heap.size ≤ ga); have m0_ := Sd.mk (kB (by (with_reducible repeat (fail)); exact BKgb.1) hb); have m1_ := Sd.mk (kB (by (with_reducible repeat (fail)); exact BKgc.1) hb); have NEgbga := Sd.mk (by rw [hg]; exact Nat.ne_of_lt (blk_lt (by (with_reducible repeat (fail)); exact BKgb.1)) : gb ≠ ga); have NEgcga := Sd.mk (by rw [hg]; exact Nat.ne_of_lt (blk_lt (by (with_reducible repeat (fail)); exact BKgc.1)) : gc ≠ ga); clear HB; have HB := n0_; have BKga := n1_; have GEga := n2_; clear n0_ n1_ n2_; clear BKgb; have BKgb := m0_; clear m0_; clear BKgc; have BKgc := m1_; clear m1_; clear hb hbox hg; have z_w3gb_0 : w3.cell? ⟨gb, 0, none⟩ = some (.int .i64 a0_0) := (kC BKgb.1 0).trans rfl; have z_w3gb_1 : w3.cell? ⟨gb, 1, none⟩ = some (.int .i64 a0_1) := (kC BKgb.1 1).trans rfl; have z_w3gb_2 : w3.cell? ⟨gb, 2, none⟩ = some (.slice A0_2 l0_2.length c0_2) := (kC BKgb.1 2).trans rfl; have z_w3gb_3 : w3.cell? ⟨gb, 3, none⟩ = some (.slice A0_3 l0_3.length c0_3) := (kC BKgb.1 3).trans rfl; have z_w3gc_0 : w3.cell? ⟨gc, 0, none⟩ = some (.slice A1 l1.length c1) := (kC BKgc.1 0).trans rfl) | (go_at_call 78; refine (cipher_Book_asked.calls a0_0 a0_1 _ _ l0_2 _ _ l0_3 _ _ l1 _ _ l2 _ _ (Kd.C_below HR0_2.1 (by repeat (first | (with_reducible first | exact HB.1 ) ))) HC0_2.1 (Kd.C_below HR0_3.1 (by repeat (first | (with_reducible first | exact HB.1 ) ))) HC0_3.1 (Kd.C_below HR1.1 (by repeat (first | (with_reducible first | exact HB.1 ) ))) HC1.1 (Kd.C_below HR2.1 (by repeat (first | (with_reducible first | exact HB.1 ) ))) HC2.1 rfl).mono ?_; rintro e w4 ⟨rfl, hb⟩; have n0_ := Sd.mk (bT (by repeat (first | (with_reducible first | exact HB.1 ) )) hb); have m0_ := Sd.mk (kB (by (with_reducible repeat (fail)); exact BKgb.1) hb); have m1_ := Sd.mk (kB (by (with_reducible repeat (fail)); exact BKgc.1) hb); have m2_ := Sd.mk (kB (by (with_reducible repeat (fail)); exact BKga.1) hb); clear HB; have HB := n0_; clear n0_; clear BKgb; have BKgb := m0_; clear m0_; clear BKgc; have BKgc := m1_; clear m1_; clear BKga; have BKga := m2_; clear m2_; clear hb; have z_w4gb_0 : w4.cell? ⟨gb, 0, none⟩ = some (.int .i64 a0_0) := (kC BKgb.1 0).trans rfl; have z_w4gc_0 : w4.cell? ⟨gc, 0, none⟩ = some (.slice A1 l1.length c1) := (kC BKgc.1 0).trans rfl; have z_w4ga_0 : w4.cell? ⟨ga, 0, none⟩ = some (.int .i64 a3) := (kC BKga.1 0).trans rfl) | (go_at_call 51; (with_reducible refine (cipher_within.calls _ _ _ _ _ (within_f _ _ _)).mono ?_); rintro e w' ⟨rfl, ⟨nd, rfl⟩⟩))
 go_ret2
 exact ⟨_, rfl, Kd.V_nil _ _ _ _ _, by repeat (first | (with_reducible first | exact HB.1 | apply bN ) )⟩
def seenOf (sz : Int) (codes : List Int) (at_ : Int) (ks : List S91) : List Bool := ks.foldl (fun bs k => bs.set (decodeV sz k.f0 k.f1 k.f2 (rd codes at_) at_).toNat true) (List.replicate sz.toNat false)
theorem seenOf_snoc (sz : Int) (codes : List Int) (at_ : Int) (ks : List S91) (k : S91) : seenOf sz codes at_ (ks ++ [k]) = (seenOf sz codes at_ ks).set (decodeV sz k.f0 k.f1 k.f2 (rd codes at_) at_).toNat true := by
 unfold seenOf
 rw [List.foldl_append]
 rfl
theorem seenOf_len (sz : Int) (codes : List Int) (at_ : Int) (ks : List S91) : (seenOf sz codes at_ ks).length = sz.toNat := by
 unfold seenOf
 have : ∀ (l : List S91) (bs : List Bool), (l.foldl (fun bs k => bs.set (decodeV sz k.f0 k.f1 k.f2 (rd codes at_) at_).toNat true) bs).length = bs.length := by
  intro l
  induction l with
  | nil => intro bs; rfl
  | cons k l ih => intro bs; rw [List.foldl_cons, ih, List.length_set]
 rw [this, List.length_replicate]
def bcells (bs : List Bool) : Array Value := (bs.map Value.bool).toArray
theorem bcells_at {bs : List Bool} {i : Nat} (h : i < bs.length) : (bcells bs)[i]? = some (.bool bs[i]) := by simp [bcells, h]
theorem bcells_set (bs : List Bool) (i : Nat) (b : Bool) : (bcells bs).setIfInBounds i (.bool b) = bcells (bs.set i b) := by simp [bcells, List.map_set]
theorem bcells_made (m : Nat) : madeCells #[.bool false] m = bcells (List.replicate m false) := by
 apply Array.ext
 ·simp [bcells, madeCells]
 ·intro i h1 h2
  simp [bcells, madeCells, Nat.mod_one]
theorem info4 : (Try.prog.info? 4).map (fun i => (i.zero, i.size, i.bytes)) = some (some (.bool false), 1, 1) := by kernel_rfl
section
variable {ops : Array Oper} {rest : List Oper} {o : Oper} {a : Act} {Q : Exit → Act → World → Prop}
theorem bools_event {W : World} (hgd : o.guard = none) {N : Tmp} (_hd : o.dst = some N) (x y : Operand) (ho : o.op = .makeSlice 129 x y) (n : Int) (hx : a.eval x = .int .i64 n) (hy : a.eval y = .int .i64 n) (h0 : 0 ≤ n) (h1 : n ≤ 1000)
  (h : ∀ g, g = W.heap.size → ∀ w1, w1.heap[g]? = some (.cells (bcells (List.replicate n.toNat false)) 4 (0, 0)) → Below W.heap.size W w1 → wpList Try.prog ops Q rest (a.put o.dst (.slice (some ⟨g, 0, none⟩) n.toNat n.toNat)) w1) : wpList Try.prog ops Q (o :: rest) a W := by
 obtain ⟨m, rfl⟩ := Int.eq_ofNat_of_zero_le h0
 have hr := print_make_of (P := Try.prog) 129 4 (.bool false) 1 Try.underlying129 info4 rfl (by decide) m (by omega) W
 refine Kd.event_run (v := .slice (some ⟨W.heap.size, 0, none⟩) m m) (w1 := W.alloc (.cells (madeCells #[.bool false] m) 4)) hgd (by simp [execOp, ho, hx, hy, hr]) (h _ rfl _ ?_ (bA (Below.refl _ _) _))
 rw [Int.toNat_natCast, ← bcells_made]
 exact blk_new W _
end
theorem own_blk {β : Type} (B g : Nat) (cs : Array Value) (t : TypeId) : OwnFrom B (fun (_ : β) W => W.heap[g]? = some (.cells cs t (0, 0))) := fun _ W W' row hs hg hr =>
 (hg.block g (blk_lt hs) (fun e => by
  obtain ⟨_, o, ho, hc⟩ := hr g e.symm
  rw [hs] at ho
  cases ho
  cases hc)).trans hs
theorem own_blkF {β : Type} (B g : Nat) (f : β → Array Value) (t : TypeId) : OwnFrom B (fun (s : β) W => W.heap[g]? = some (.cells (f s) t (0, 0))) := fun s W W' row hs hg hr => own_blk (β := Unit) B g (f s) t () W W' row hs hg hr
theorem keeps_below {B : Nat} {W W1 : World} (h : Below W.heap.size W W1) : KeepsFrom B W W1 := ⟨h.size, fun k o _ hk _ => (h.block k (Array.getElem?_eq_some_iff.1 hk).1).trans hk⟩
theorem keeps_set {B g i : Nat} {W W1 : World} {cs : Array Value} {t : TypeId} {v : Value} (h : KeepsFrom B W W1) (hg : W.heap[g]? = some (.cells cs t (0, 0))) : KeepsFrom B W (W1.setCell ⟨g, i, none⟩ v) :=
 ⟨by have := (Below.refl W1.heap.size W1); have h2 := h.size; simpa using h2, fun k o hB hk ho => (Below.heap_setCell W1 ⟨g, i, none⟩ v k (fun e => by
  subst e
  rw [hg] at hk
  cases hk
  cases ho)).trans (h.same k o hB hk ho)⟩
theorem not_out {id : Nat} {α : Type} {B : Nat} {Kp : World → World → Prop} {I : List α → World → Prop} {Ix : Code → List α → World → Prop} {xs : List α} {W : World} : ¬ LetsOut (Exit.inBlock id (ownPostG B Kp I Ix xs W)) := by
 rintro ⟨a, w, h⟩
 exact h
theorem start_round {P : Program} {ops : Array Oper} {Q : Exit → Act → World → Prop} {S : World → Prop} {ds : List Nat} {id n r m : Nat} {a : Act} {w : World} (l : Array Bool) (hm : P.follows .mixedOrders = true) (hd : undeferred ops = true) (hQ : ¬ LetsOut Q) (hn : ops.size = n) (hl : Array.replicate n false = l) (hS : S w.drew)
  (h : S w.drew → wpAnyLast P .any ops Q S ds n l a w.drew) : (Code.region id ops true).wpIn (Fence.wide.inRound r) m P Q a w := by
 subst hn
 subst hl
 exact region_round hm hd hQ (wpAny_of_last _ _ _ _ (h hS))
theorem dec_good {sz n i : Int} {x : S91} (h0 : 13 ≤ sz) (h1 : sz ≤ 41) (hx : GoodK sz x) (hn : 0 ≤ n ∧ n < sz) (hi : 0 ≤ i ∧ i ≤ 1000) : 0 ≤ decodeV sz x.f0 x.f1 x.f2 n i ∧ decodeV sz x.f0 x.f1 x.f2 n i < sz := by
 obtain ⟨k0, k1, k2, k3, k4, k5⟩ := hx
 have hv : ∀ (d : Nat) (m : Int), 0 ≤ m → 0 ≤ invFrom sz x.f0 d m ∧ invFrom sz x.f0 d m ≤ m + d := by
  intro d
  induction d with
  | zero => intro m hm; simp [invFrom]; omega
  | succ d ih =>
   intro m hm
   simp only [invFrom]
   have := ih (m + 1) (by omega)
   split <;> omega
 have hv0 := hv sz.toNat 0 (by omega)
 have b0 : 0 ≤ i * (sz - x.f2) := Int.mul_nonneg hi.1 (by omega)
 have b1 : i * (sz - x.f2) ≤ 1000 * 41 := Int.mul_le_mul hi.2 (by omega) (by omega) (by omega)
 unfold decodeV
 rw [wrap_of (show -9223372036854775808 ≤ sz - x.f1 by omega) (by omega), wrap_of (show -9223372036854775808 ≤ sz - x.f2 by omega) (by omega)]
 have r := tmod_abs (sz - x.f1) (show 0 < sz by omega)
 have r0 : 0 ≤ Int.tmod (sz - x.f1) sz := Int.tmod_nonneg _ (by omega)
 generalize Int.tmod (sz - x.f1) sz = r1 at *
 generalize i * (sz - x.f2) = r2 at *
 rw [wrap_of (show -9223372036854775808 ≤ r2 by omega) (by omega), wrap_of (show -9223372036854775808 ≤ n + r1 by omega) (by omega), wrap_of (show -9223372036854775808 ≤ n + r1 + r2 by omega) (by omega)]
 have s := tmod_abs (n + r1 + r2) (show 0 < sz by omega)
 have s0 : 0 ≤ Int.tmod (n + r1 + r2) sz := Int.tmod_nonneg _ (by omega)
 generalize Int.tmod (n + r1 + r2) sz = r3 at *
 have m0 : 0 ≤ r3 * invV sz x.f0 := Int.mul_nonneg s0 hv0.1
 have m1 : r3 * invV sz x.f0 ≤ 41 * 41 := Int.mul_le_mul (by omega) (by unfold invV; omega) hv0.1 (by omega)
 rw [wrap_of (by omega) (by omega)]
 exact ⟨Int.tmod_nonneg _ m0, Int.tmod_lt_of_pos _ (by omega)⟩
theorem F_of_R {W : World} {base c : Nat} {A : Option Addr} {xs : List Int} (h : Kd.R (Kd.int .i64) 3 W base (fun _ => True) (.slice A xs.length c) xs) : Kd.F (Kd.int .i64) W (fun k => base ≤ k ∧ ∃ cs t, W.heap[k]? = some (.cells cs t (0, 0))) A xs.length xs := by
 intro W' hW'
 have h' := Kd.R_step (w1 := W') (Kd.R_bound h) (fun k hk _ => hW' k ⟨hk.2.1, by obtain ⟨_, _, _, q, _, cs, hc⟩ := hk; exact ⟨cs, q, hc⟩⟩ hk.2.2.1)
 exact (Kd.R_reads' h').2.2
theorem def_keep {W w1 : World} {base D : Nat} {v : Value} {xs : List Int} {x : Obj} (h : Kd.R (Kd.int .i64) 3 W base (fun _ => True) v xs) (hg : W.grownBy w1 v.ownBlock) (hD : W.heap[D]? = some x) (hx : x.isCells = false) : w1.heap[D]? = some x :=
 (hg.block D (Array.getElem?_eq_some_iff.1 hD).1 (fun e => by
  obtain ⟨_, _, _, q, _, cs, hc⟩ := (Kd.R_bound h).1 D e.symm
  rw [hD] at hc
  cases hc
  cases hx)).trans hD
def outTo (bs : List Bool) (i : Nat) : List Int := ((List.range i).filter fun j => bs.getD j false).map fun j : Nat => (j : Int)
theorem outTo_succ (bs : List Bool) (i : Nat) : outTo bs (i + 1) = if bs.getD i false = true then outTo bs i ++ [(i : Int)] else outTo bs i := by
 unfold outTo
 rw [List.range_succ, List.filter_append, List.map_append]
 by_cases h : bs.getD i false = true
 ·rw [if_pos h, List.filter_cons_of_pos (p := fun j => bs.getD j false) h]; rfl
 ·rw [if_neg h, List.filter_cons_of_neg (p := fun j => bs.getD j false) h]; simp
theorem outTo_le (bs : List Bool) (i : Nat) : (outTo bs i).length ≤ i := by
 unfold outTo
 rw [List.length_map]
 have := List.length_filter_le (fun j => bs.getD j false) (List.range i)
 rw [List.length_range] at this
 exact this
def possOut (sz : Int) (codes : List Int) (gs : List S88) (at_ : Int) : List Int := outTo (seenOf sz codes at_ (keysL sz codes gs)) sz.toNat
def possE (l : List Int) : Int := if l.length = 0 then 11 else 0
theorem V_end {W9 W : World} {base D : Nat} {av : Addr} {cv : Nat} {xs : List Int} {o : Obj} (h : Kd.R (Kd.int .i64) 3 W base (fun _ => True) (.slice (some av) xs.length cv) xs) (hb : Below W.heap.size W W9) (hD : W.heap[D]? = some (.deferred (some []))) : Kd.V (Kd.int .i64) 3 (W9.putObj D o) base (fun k_ => base ≤ k_) (.slice (some av) xs.length xs.length) xs :=
 Kd.V_mk (Nat.le_refl _) (Kd.F_mono (Kd.F_step (Kd.F_below (F_of_R h) hb) (fun k hk _ => World.putObj_heap_other (fun e => by
  obtain ⟨_, cs, t, hc⟩ := hk
  subst e
  rw [hD] at hc
  cases hc))) (fun k hk => hk.1))
set_option maxHeartbeats 8000000 in
set_option maxRecDepth 100000 in
theorem poss_run (a0_0 : Int) (a0_1 : Int) (A0_2 : Option Addr) (c0_2 : Nat) (l0_2 : List (S91)) (A0_3 : Option Addr) (c0_3 : Nat) (l0_3 : List Int) (ad : Addr) (c1 : Nat) (l1 : List Int) (A2 : Option Addr) (c2 : Nat) (l2 : List (S88)) (a3 : Int) (w : World) (hr0_2 : Kd.C k91 w A0_2 l0_2.length l0_2) (hc0_2 : l0_2.length ≤ c0_2) (hr0_3 : Kd.C (Kd.int .i64) w A0_3 l0_3.length l0_3) (hc0_3 : l0_3.length ≤ c0_3) (hr1 : Kd.C (Kd.int .i64) w (some ad) l1.length l1) (hc1 : l1.length ≤ c1) (hr2 : Kd.C k88 w A2 l2.length l2) (hc2 : l2.length ≤ c2) (h : askedV a0_0 a0_1 l0_2 l0_3 l1 l2 = 0) (hat : inB a3 0 ((l1.length : Int) - 1) = true) :
  Calls Try.prog 42 #[.agg #[.int .i64 a0_0, .int .i64 a0_1, .slice A0_2 l0_2.length c0_2, .slice A0_3 l0_3.length c0_3], .slice (some ad) l1.length c1, .slice A2 l2.length c2, .int .i64 a3] w (PossPost (possOut a0_0 l1 l2 a3) (possE (possOut a0_0 l1 l2 a3)) w) := by
 have hu32 := Try.underlying32
 have HR0_2 := Sd.mk hr0_2
 have HC0_2 := Sd.mk hc0_2
 have HR0_3 := Sd.mk hr0_3
 have HC0_3 := Sd.mk hc0_3
 have HR1 := Sd.mk hr1
 have HC1 := Sd.mk hc1
 have HR2 := Sd.mk hr2
 have HC2 := Sd.mk hc2
 clear hr0_2 hc0_2 hr0_3 hc0_3 hr1 hc1 hr2 hc2
 have HB := Sd.mk (Below.refl w.heap.size w)
 have f1 : (askedV a0_0 a0_1 l0_2 l0_3 l1 l2 == 0) = true := beq_iff_eq.2 h
 have f1b : (askedV a0_0 a0_1 l0_2 l0_3 l1 l2 != 0) = false := bne_eq_false_iff_eq.2 h
 have HOK := Sd.mk (asked_ok h)
 have hl1 : l1.length ≤ 10 := (asked_ok h).2.1
 clear h
 have HSZ0 := Sd.mk (check_size HOK.1.1)
 have HSZ := Sd.mk (show 0 ≤ a0_0 ∧ a0_0 ≤ 41 from ⟨by have := HSZ0.1; omega, HSZ0.1.2⟩)
 have HAT := Sd.mk (show 0 ≤ a3 ∧ a3 < (l1.length : Int) from by have := inB_iff.1 hat; omega)
 obtain ⟨ad', e', hx⟩ := Kd.at_int HR1.1 a3 HAT.1.1 HAT.1.2
 cases e'
 have HX := Sd.mk hx
 clear hx
 have HPL := Sd.mk (show 0 ≤ rd l1 a3 ∧ rd l1 a3 < a0_0 from by
  have hm : rd l1 a3 ∈ l1 := by
   obtain ⟨k, rfl⟩ : ∃ k : Nat, a3 = (k : Int) := ⟨a3.toNat, by have := HAT.1; omega⟩
   rw [show rd l1 (k : Int) = l1[k]'(by have := HAT.1; omega) from getD_at l1 _ k (by have := HAT.1; omega)]
   exact List.getElem_mem _
  have hp := List.all_eq_true.1 HOK.1.2.2.2.1 _ hm
  unfold plainB at hp
  rw [wrap_of (by have := HSZ0.1; omega) (by have := HSZ0.1; omega), inB_iff] at hp
  omega)
 refine (callsIn_wide (n := 9)).1 (callsIn_of_wp_marks Try.func42 rfl trivial ?_ rfl)
 simp only [Try.ntmps42, List.size_toArray, List.length_cons, List.length_nil, Nat.reduceAdd, Nat.reduceSub, Array.replicate_succ, Array.replicate_zero, List.push_toArray, List.append_toArray, List.nil_append, List.cons_append]
 refine wpIn_wide.2 ?_
 go_wp2_with (first | ((with_reducible refine gD (N := 4) rfl ?_); (try (refine gG (by rfl) ?_; dsimp only)); refine xE ?hg (N := 4) ?hd (cs := #[.int .i64 a0_0, .int .i64 a0_1, .slice A0_2 l0_2.length c0_2, .slice A0_3 l0_3.length c0_3]) (t := 32) ?hr ?_; (case hd => rfl); (case hg => rfl); (case hr => first | (go_simp; done) ); intro gb hg w1 hbox hb; have BKgb := Sd.mk hbox; have GEgb := Sd.mk ((by rw [hg]; exact (bZ (by repeat (first | (with_reducible first | exact HB.1 ) )))) : w.heap.size ≤ gb); replace HB := Sd.mk (bT (by repeat (first | (with_reducible first | exact HB.1 ) )) hb); clear hb hbox hg) | ((with_reducible refine gD (N := 5) rfl ?_); (try (refine gG (by rfl) ?_; dsimp only)); refine xE ?hg (N := 5) ?hd (cs := #[.slice (some ad) l1.length c1]) (t := 23) ?hr ?_; (case hd => rfl); (case hg => rfl); (case hr => first | (go_simp; done) ); intro gc hg w2 hbox hb; have n0_ := Sd.mk (bT (by repeat (first | (with_reducible first | exact HB.1 ) )) hb); have n1_ := Sd.mk hbox; have n2_ := Sd.mk ((by rw [hg]; exact (bZ (by repeat (first | (with_reducible first | exact HB.1 ) )))) : w.heap.size ≤ gc); have m0_ := Sd.mk (kB (by (with_reducible repeat (fail)); exact BKgb.1) hb); have NEgbgc := Sd.mk (by rw [hg]; exact Nat.ne_of_lt (blk_lt (by (with_reducible repeat (fail)); exact BKgb.1)) : gb ≠ gc); clear HB; have HB := n0_; have BKgc := n1_; have GEgc := n2_; clear n0_ n1_ n2_; clear BKgb; have BKgb := m0_; clear m0_; clear hb hbox hg) | ((with_reducible refine gD (N := 7) rfl ?_); (try (refine gG (by rfl) ?_; dsimp only)); refine xE ?hg (N := 7) ?hd (cs := #[.int .i64 a3]) (t := 3) ?hr ?_; (case hd => rfl); (case hg => rfl); (case hr => first | (go_simp; done) ); intro ga hg w3 hbox hb; have n0_ := Sd.mk (bT (by repeat (first | (with_reducible first | exact HB.1 ) )) hb); have n1_ := Sd.mk hbox; have n2_ := Sd.mk ((by rw [hg]; exact (bZ (by repeat (first | (with_reducible first | exact HB.1 ) )))) : w.heap.size ≤ ga); have m0_ := Sd.mk (kB (by (with_reducible repeat (fail)); exact BKgb.1) hb); have m1_ := Sd.mk (kB (by (with_reducible repeat (fail)); exact BKgc.1) hb); have NEgbga := Sd.mk (by rw [hg]; exact Nat.ne_of_lt (blk_lt (by (with_reducible repeat (fail)); exact BKgb.1)) : gb ≠ ga); have NEgcga := Sd.mk (by rw [hg]; exact Nat.ne_of_lt (blk_lt (by (with_reducible repeat (fail)); exact BKgc.1)) : gc ≠ ga); clear HB; have HB := n0_; have BKga := n1_; have GEga := n2_; clear n0_ n1_ n2_; clear BKgb; have BKgb := m0_; clear m0_; clear BKgc; have BKgc := m1_; clear m1_; clear hb hbox hg; have z_w3gb_0 : w3.cell? ⟨gb, 0, none⟩ = some (.int .i64 a0_0) := (kC BKgb.1 0).trans rfl; have z_w3gb_1 : w3.cell? ⟨gb, 1, none⟩ = some (.int .i64 a0_1) := (kC BKgb.1 1).trans rfl; have z_w3gb_2 : w3.cell? ⟨gb, 2, none⟩ = some (.slice A0_2 l0_2.length c0_2) := (kC BKgb.1 2).trans rfl; have z_w3gb_3 : w3.cell? ⟨gb, 3, none⟩ = some (.slice A0_3 l0_3.length c0_3) := (kC BKgb.1 3).trans rfl; have z_w3gc_0 : w3.cell? ⟨gc, 0, none⟩ = some (.slice (some ad) l1.length c1) := (kC BKgc.1 0).trans rfl) | (go_at_call 78; refine (cipher_Book_asked.calls a0_0 a0_1 _ _ l0_2 _ _ l0_3 _ _ l1 _ _ l2 _ _ (Kd.C_below HR0_2.1 (by repeat (first | (with_reducible first | exact HB.1 ) ))) HC0_2.1 (Kd.C_below HR0_3.1 (by repeat (first | (with_reducible first | exact HB.1 ) ))) HC0_3.1 (Kd.C_below HR1.1 (by repeat (first | (with_reducible first | exact HB.1 ) ))) HC1.1 (Kd.C_below HR2.1 (by repeat (first | (with_reducible first | exact HB.1 ) ))) HC2.1 rfl).mono ?_; rintro e w4 ⟨rfl, hb⟩; have n0_ := Sd.mk (bT (by repeat (first | (with_reducible first | exact HB.1 ) )) hb); have m0_ := Sd.mk (kB (by (with_reducible repeat (fail)); exact BKgb.1) hb); have m1_ := Sd.mk (kB (by (with_reducible repeat (fail)); exact BKgc.1) hb); have m2_ := Sd.mk (kB (by (with_reducible repeat (fail)); exact BKga.1) hb); clear HB; have HB := n0_; clear n0_; clear BKgb; have BKgb := m0_; clear m0_; clear BKgc; have BKgc := m1_; clear m1_; clear BKga; have BKga := m2_; clear m2_; clear hb; have z_w4gb_0 : w4.cell? ⟨gb, 0, none⟩ = some (.int .i64 a0_0) := (kC BKgb.1 0).trans rfl; have z_w4gc_0 : w4.cell? ⟨gc, 0, none⟩ = some (.slice (some ad) l1.length c1) := (kC BKgc.1 0).trans rfl; have z_w4ga_0 : w4.cell? ⟨ga, 0, none⟩ = some (.int .i64 a3) := (kC BKga.1 0).trans rfl) | (go_at_call 51; (with_reducible refine (cipher_within.calls _ _ _ _ _ (within_f _ _ _)).mono ?_); rintro e w' ⟨rfl, ⟨nd, rfl⟩⟩) | ((with_reducible refine gD (N := 31) rfl ?_); refine bools_event ?hg (N := 31) ?hd _ _ rfl a0_0 ?hx ?hy HSZ.1.1 (by have := HSZ.1.2; omega) ?_; (case hg => rfl); (case hd => rfl); (case hx => first | rfl ); (case hy => first | rfl ); intro gs hg w5 hbox hb; have n0_ := Sd.mk (bT (by repeat (first | (with_reducible first | exact HB.1 | apply bN ) )) hb); have n1_ := Sd.mk hbox; have n2_ := Sd.mk ((by rw [hg]; exact (bZ (by repeat (first | (with_reducible first | exact HB.1 | apply bN ) )))) : w.heap.size ≤ gs); have m0_ := Sd.mk (kB (by (with_reducible repeat (fail)); exact BKgb.1) hb); have m1_ := Sd.mk (kB (by (with_reducible repeat (fail)); exact BKgc.1) hb); have m2_ := Sd.mk (kB (by (with_reducible repeat (fail)); exact BKga.1) hb); have NEgbgs := Sd.mk (by rw [hg]; exact Nat.ne_of_lt (blk_lt (by (with_reducible repeat (fail)); exact BKgb.1)) : gb ≠ gs); have NEgcgs := Sd.mk (by rw [hg]; exact Nat.ne_of_lt (blk_lt (by (with_reducible repeat (fail)); exact BKgc.1)) : gc ≠ gs); have NEgags := Sd.mk (by rw [hg]; exact Nat.ne_of_lt (blk_lt (by (with_reducible repeat (fail)); exact BKga.1)) : ga ≠ gs); clear HB; have HB := n0_; have BKgs := n1_; have GEgs := n2_; clear n0_ n1_ n2_; clear BKgb; have BKgb := m0_; clear m0_; clear BKgc; have BKgc := m1_; clear m1_; clear BKga; have BKga := m2_; clear m2_; clear hb hbox hg) | ((with_reducible refine gD (N := 11) rfl ?_); (try (refine gG (by rfl) ?_; dsimp only)); refine xE ?hg (N := 11) ?hd (cs := #[.slice none 0 0]) (t := 129) ?hr ?_; (case hd => rfl); (case hg => rfl); (case hr => first | (go_simp; done) ); intro gx hg w6 hbox hb; have n0_ := Sd.mk (bT (by repeat (first | (with_reducible first | exact HB.1 ) )) hb); have n1_ := Sd.mk hbox; have n2_ := Sd.mk ((by rw [hg]; exact (bZ (by repeat (first | (with_reducible first | exact HB.1 ) )))) : w.heap.size ≤ gx); have m0_ := Sd.mk (kB (by (with_reducible repeat (fail)); exact BKgb.1) hb); have m1_ := Sd.mk (kB (by (with_reducible repeat (fail)); exact BKgc.1) hb); have m2_ := Sd.mk (kB (by (with_reducible repeat (fail)); exact BKga.1) hb); have m3_ := Sd.mk (kB (by (with_reducible repeat (fail)); exact BKgs.1) hb); have NEgbgx := Sd.mk (by rw [hg]; exact Nat.ne_of_lt (blk_lt (by (with_reducible repeat (fail)); exact BKgb.1)) : gb ≠ gx); have NEgcgx := Sd.mk (by rw [hg]; exact Nat.ne_of_lt (blk_lt (by (with_reducible repeat (fail)); exact BKgc.1)) : gc ≠ gx); have NEgagx := Sd.mk (by rw [hg]; exact Nat.ne_of_lt (blk_lt (by (with_reducible repeat (fail)); exact BKga.1)) : ga ≠ gx); have NEgsgx := Sd.mk (by rw [hg]; exact Nat.ne_of_lt (blk_lt (by (with_reducible repeat (fail)); exact BKgs.1)) : gs ≠ gx); clear HB; have HB := n0_; have BKgx := n1_; have GEgx := n2_; clear n0_ n1_ n2_; clear BKgb; have BKgb := m0_; clear m0_; clear BKgc; have BKgc := m1_; clear m1_; clear BKga; have BKga := m2_; clear m2_; clear BKgs; have BKgs := m3_; clear m3_; clear hb hbox hg; have z_w6gx_0 : w6.cell? ⟨gx, 0, none⟩ = some (.slice none 0 0) := (kC BKgx.1 0).trans rfl; have hfzw6gx_0 := kF BKgx.1 0) | ((with_reducible refine gate_store (t := 129) (p := 11) rfl ?_); refine store_event (t := 129) (p := 11) (v := ?vo) (w1 := (w6.setCell ⟨gx, 0, none⟩ (.slice (some ⟨gs, 0, none⟩) a0_0.toNat a0_0.toNat))) ?hg ?ho ?hn ?hr ?_; (case ho => rfl); (case hg => rfl); (case hn => rfl); (case hr => first | (go_simp; done) ); intro w7 hw7; have m0_ : Sd (w7.heap[gx]? = some (.cells #[.slice (some ⟨gs, 0, none⟩) a0_0.toNat a0_0.toNat] 129 (0, 0))) := ⟨by rw [hw7]; exact blk_put BKgx.1 0 _ rfl⟩; have m1_ : Sd (w7.heap[gb]? = some (.cells #[.int .i64 a0_0, .int .i64 a0_1, .slice A0_2 l0_2.length c0_2, .slice A0_3 l0_3.length c0_3] 32 (0, 0))) := ⟨by rw [hw7]; exact blk_far (p := ⟨gx, 0, none⟩) BKgb.1 NEgbgx.1 _⟩; have m2_ : Sd (w7.heap[gc]? = some (.cells #[.slice (some ad) l1.length c1] 23 (0, 0))) := ⟨by rw [hw7]; exact blk_far (p := ⟨gx, 0, none⟩) BKgc.1 NEgcgx.1 _⟩; have m3_ : Sd (w7.heap[ga]? = some (.cells #[.int .i64 a3] 3 (0, 0))) := ⟨by rw [hw7]; exact blk_far (p := ⟨gx, 0, none⟩) BKga.1 NEgagx.1 _⟩; have m4_ : Sd (w7.heap[gs]? = some (.cells (bcells (List.replicate a0_0.toNat false)) 4 (0, 0))) := ⟨by rw [hw7]; exact blk_far (p := ⟨gx, 0, none⟩) BKgs.1 NEgsgx.1 _⟩;  have m9_ : Sd (Below w.heap.size w w7) := ⟨by rw [hw7]; exact bS HB.1 GEgx.1⟩; clear hw7; clear BKgx HB BKgb BKgc BKga BKgs; have BKgx := m0_; have BKgb := m1_; clear m1_; have BKgc := m2_; clear m2_; have BKga := m3_; clear m3_; have BKgs := m4_; clear m4_;  have HB := m9_; clear m0_ m9_; have z_w7gb_0 : w7.cell? ⟨gb, 0, none⟩ = some (.int .i64 a0_0) := (kC BKgb.1 0).trans rfl; have z_w7gb_1 : w7.cell? ⟨gb, 1, none⟩ = some (.int .i64 a0_1) := (kC BKgb.1 1).trans rfl; have z_w7gb_2 : w7.cell? ⟨gb, 2, none⟩ = some (.slice A0_2 l0_2.length c0_2) := (kC BKgb.1 2).trans rfl; have z_w7gb_3 : w7.cell? ⟨gb, 3, none⟩ = some (.slice A0_3 l0_3.length c0_3) := (kC BKgb.1 3).trans rfl; have z_w7gc_0 : w7.cell? ⟨gc, 0, none⟩ = some (.slice (some ad) l1.length c1) := (kC BKgc.1 0).trans rfl; have z_w7gx_0 : w7.cell? ⟨gx, 0, none⟩ = some (.slice (some ⟨gs, 0, none⟩) a0_0.toNat a0_0.toNat) := (kC BKgx.1 0).trans rfl) | (go_at_call 79; refine (keys_calls a0_0 a0_1 A0_2 c0_2 l0_2 A0_3 c0_3 l0_3 (some ad) c1 l1 A2 c2 l2 _).mono ?_; rintro e w8 ⟨g1, g2, g3, rfl, hk1, hk2, hk3, hk4, hk5, hk6, hb⟩; have BKg1 := Sd.mk hk1; have BKg2 := Sd.mk hk2; have BKg3 := Sd.mk hk3; have NM1 := Sd.mk (show g1 ≠ gs from fun h => by have := blk_lt BKgs.1; omega); have NM2 := Sd.mk (show g2 ≠ gs from fun h => by have := blk_lt BKgs.1; omega); have NM3 := Sd.mk (show g3 ≠ gs from fun h => by have := blk_lt BKgs.1; omega); clear hk1 hk2 hk3 hk4 hk5 hk6; have n0_ := Sd.mk (bT (by repeat (first | (with_reducible first | exact HB.1 ) )) hb); have m0_ := Sd.mk (kB (by (with_reducible repeat (fail)); exact BKgb.1) hb); have m1_ := Sd.mk (kB (by (with_reducible repeat (fail)); exact BKgc.1) hb); have m2_ := Sd.mk (kB (by (with_reducible repeat (fail)); exact BKga.1) hb); have m3_ := Sd.mk (kB (by (with_reducible repeat (fail)); exact BKgs.1) hb); have m4_ := Sd.mk (kB (by (with_reducible repeat (fail)); exact BKgx.1) hb); clear HB; have HB := n0_; clear n0_; clear BKgb; have BKgb := m0_; clear m0_; clear BKgc; have BKgc := m1_; clear m1_; clear BKga; have BKga := m2_; clear m2_; clear BKgs; have BKgs := m3_; clear m3_; clear BKgx; have BKgx := m4_; clear m4_; clear hb; have z_w8gx_0 : w8.cell? ⟨gx, 0, none⟩ = some (.slice (some ⟨gs, 0, none⟩) a0_0.toNat a0_0.toNat) := (kC BKgx.1 0).trans rfl))
 refine wpIn_wide (n := 9).1 ?_
 refine wpIn_rangeFunc_ownH rfl (by decide) (gf := 96) (lb := #[.pointer (some ⟨g1, 0, none⟩), .pointer (some ⟨g2, 0, none⟩), .pointer (some ⟨g3, 0, none⟩)]) rfl trivial (enters_of Try.func96 (by kernel_rfl) rfl)
  (α := { x : S91 // GoodK a0_0 x }) (encs := fun x => #[encS91 x.1]) (Kp := KpB w.heap.size (fun k => k = gs)) (S := fun q => q.map (·.1) = keysL a0_0 l1 l2) (Sp := fun _ => True) (N := 100000) (w0 := w8)
  (fun l J Jx W hW hJ hJx hY h0 => callsIn_wide.2 ((keys1_calls a0_0 a0_1 A0_2 c0_2 l0_2 A0_3 c0_3 l0_3 (some ad) c1 l1 A2 c2 l2 _ l g1 g2 g3 (fun k => k = gs) (fun pre W => ∃ q : List { x : S91 // GoodK a0_0 x }, q.map (·.1) = pre ∧ J q W) (fun pre W => ∃ q : List { x : S91 // GoodK a0_0 x }, q.map (·.1) = pre ∧ Jx q W) w W HR0_2.1 HC0_2.1 HR0_3.1 HC0_3.1 HR1.1 HC1.1 HR2.1 HC2.1 (by have := HSZ0.1; omega) HSZ.1.2 (by have := HOK.1.2.1; omega) HOK.1.2.2.2.2 (bT HB.1 hW) (kB BKg1.1 hW) (kB BKg2.1 hW) (kB BKg3.1 hW) (fun k hk => by subst hk; exact ⟨Nat.lt_of_lt_of_le (blk_lt BKgs.1) hW.size, NM1.1.symm, NM2.1.symm, NM3.1.symm⟩) (fun s W W' row hs hg hr => by obtain ⟨q, hq, hq2⟩ := hs; exact ⟨q, hq, hJ q W W' row hq2 hg hr⟩) (fun pre x W1 hs hlen hgood => by obtain ⟨q, rfl, hq2⟩ := hs; obtain ⟨fn, tmps, assign, body, hy, hR⟩ := hY q ⟨x, hgood⟩ W1 hq2 (by simpa using hlen); exact ⟨fn, tmps, assign, body, hy, hR.mono (fun e W' h => by rcases h with ⟨e1, e2, e3⟩ | ⟨e1, e2⟩; exact .inl ⟨e1, ⟨q ++ [⟨x, hgood⟩], by simp, e2⟩, e3⟩; exact .inr ⟨e1, q ++ [⟨x, hgood⟩], by simp, e2⟩)⟩) ⟨[], rfl, h0⟩).mono (fun e W' h => by obtain ⟨h1, h2⟩ := h; refine ⟨h1, ?_⟩; rcases h2 with ⟨ys, rfl, q, hq, hJq⟩ | ⟨pre, _, q, hq, hJq⟩; exact .inl ⟨q, hq, hJq⟩; exact .inr ⟨q, trivial, hJq⟩)))
  KpB_t (KpB_b HB.1.size) (Below.refl _ _) (fun _ => rfl)
  (fun pre W => W.heap[gs]? = some (.cells (bcells (seenOf a0_0 l1 a3 (pre.map (·.1)))) 4 (0, 0)) ∧ W.heap[gb]? = some (.cells #[.int .i64 a0_0, .int .i64 a0_1, .slice A0_2 l0_2.length c0_2, .slice A0_3 l0_3.length c0_3] 32 (0, 0)) ∧ W.heap[gc]? = some (.cells #[.slice (some ad) l1.length c1] 23 (0, 0)) ∧ W.heap[ga]? = some (.cells #[.int .i64 a3] 3 (0, 0)) ∧ W.heap[gx]? = some (.cells #[.slice (some ⟨gs, 0, none⟩) a0_0.toNat a0_0.toNat] 129 (0, 0)) ∧ Below w.heap.size w W)
  (fun _ _ _ => False)
  (OwnFrom.and (own_blkF _ _ _ _) (OwnFrom.and (own_blk _ _ _ _) (OwnFrom.and (own_blk _ _ _ _) (OwnFrom.and (own_blk _ _ _ _) (OwnFrom.and (own_blk _ _ _ _) (ownFrom_below (Nat.le_refl _) HB.1.size))))))
  (fun _ _ _ _ _ hs _ _ => hs)
  ⟨BKgs.1, BKgb.1, BKgc.1, BKga.1, BKgx.1, HB.1⟩
  (fun x a' W => ∃ g4, a' = { tmps := ((.agg #[.int .i64 a0_0, .int .i64 a0_1, .slice A0_2 l0_2.length c0_2, .slice A0_3 l0_3.length c0_3]) :: (.slice (some ad) l1.length c1) :: (.slice A2 l2.length c2) :: (.int .i64 a3) :: (.pointer (some ⟨gb, 0, none⟩)) :: (.pointer (some ⟨gc, 0, none⟩)) :: (undef) :: (.pointer (some ⟨ga, 0, none⟩)) :: (.slice none 0 0) :: (.int .i64 0) :: (.int .i64 (askedV a0_0 a0_1 l0_2 l0_3 l1 l2)) :: (.pointer (some ⟨gx, 0, none⟩)) :: (.pointer (some ⟨g4, 0, none⟩)) :: (undef) :: (undef) :: (undef) :: (.agg #[.int .i64 a0_0, .int .i64 a0_1, .slice A0_2 l0_2.length c0_2, .slice A0_3 l0_3.length c0_3]) :: (.slice (some ad) l1.length c1) :: (.slice A2 l2.length c2) :: (.int .i64 (askedV a0_0 a0_1 l0_2 l0_3 l1 l2)) :: (.int .i64 (askedV a0_0 a0_1 l0_2 l0_3 l1 l2)) :: (.bool false) :: (undef) :: (.int .i64 a3) :: (.slice (some ad) l1.length c1) :: (.int .i64 (l1.length : Int)) :: (.int .i64 ((l1.length : Int) - 1)) :: (.bool true) :: (.bool false) :: (.pointer (some ⟨gb, 0, none⟩)) :: (.int .i64 a0_0) :: (.slice (some ⟨gs, 0, none⟩) a0_0.toNat a0_0.toNat) :: (.agg #[.int .i64 a0_0, .int .i64 a0_1, .slice A0_2 l0_2.length c0_2, .slice A0_3 l0_3.length c0_3]) :: (.slice (some ad) l1.length c1) :: (.slice A2 l2.length c2) :: (.func (.func 96) #[] #[.pointer (some ⟨g1, 0, none⟩), .pointer (some ⟨g2, 0, none⟩), .pointer (some ⟨g3, 0, none⟩)]) :: (.agg #[.int .i64 x.1.f0, .int .i64 x.1.f1, .int .i64 x.1.f2]) :: (undef) :: (undef) :: (undef) :: (undef) :: (undef) :: (undef) :: (undef) :: (undef) :: (undef) :: (undef) :: (undef) :: (undef) :: (undef) :: (undef) :: (undef) :: (undef) :: (undef) :: (undef) :: (undef) :: (undef) :: (undef) :: (undef) :: (undef) :: (undef) :: (undef) :: (undef) :: (undef) :: (undef) :: []).toArray, defers := [] } ∧ W.heap[g4]? = some (.cells #[.int .i64 x.1.f0, .int .i64 x.1.f1, .int .i64 x.1.f2] 91 (0, 0)))
  (fun x a' s W W' row hs hg hr => by obtain ⟨g4, h2, h3⟩ := hs; exact ⟨g4, h2, own_blk (β := Unit) _ _ _ _ () W W' row h3 hg hr⟩)
  ?assign ?body ?done ?stop
 case assign =>
  rintro l pre x W K ⟨i0, i1, i2, i3, i4, i5⟩ hK
  simp [encS91]
  gi_wp2
  exact hK _ _ (keeps_below (bA (Below.refl _ _) _)) ⟨(Below.refl w.heap.size W).alloc i5.size _, fun k cs t _ hk => kA hk _⟩ ⟨kA i0 _, kA i1 _, kA i2 _, kA i3 _, kA i4 _, bA i5 _⟩ ⟨W.heap.size, rfl, blk_new W _⟩
 case body =>
  rintro l pre x a' W _ _ ⟨i0, i1, i2, i3, i4, i5⟩ ⟨g4, rfl, i6⟩ _
  refine wpIn_block ?_
  have j0 := kD i0
  have j1 := kD i1
  have j2 := kD i2
  have j3 := kD i3
  have j4 := kD i4
  have j6 := kD i6
  have j5 := below_drew i5
  have k1 : Below W.heap.size W W.drew := below_drew (Below.refl _ _)
  have hdv := dec_good HSZ0.1.1 HSZ0.1.2 x.2 HPL.1 (by have := HAT.1; omega : 0 ≤ a3 ∧ a3 ≤ 1000)
  have p1 := eq_true (show 0 ≤ (decodeV a0_0 x.1.f0 x.1.f1 x.1.f2 (rd l1 a3) a3) from hdv.1)
  have p2 := eq_true (show (decodeV a0_0 x.1.f0 x.1.f1 x.1.f2 (rd l1 a3) a3) < max a0_0 0 from by have := HSZ0.1; omega)
  have hlb := seenOf_len a0_0 l1 a3 (pre.map (·.1))
  have p3 := eq_true HAT.1.1
  have p4 := eq_true HAT.1.2
  refine start_round (S := fun w' => w'.cell? ⟨gx, 0, none⟩ = some (.slice (some ⟨gs, 0, none⟩) a0_0.toNat a0_0.toNat) ∧ w'.cell? ⟨gb, 0, none⟩ = some (.int .i64 a0_0) ∧ w'.cell? ⟨gb, 1, none⟩ = some (.int .i64 a0_1) ∧ w'.cell? ⟨gb, 2, none⟩ = some (.slice A0_2 l0_2.length c0_2) ∧ w'.cell? ⟨gb, 3, none⟩ = some (.slice A0_3 l0_3.length c0_3) ∧ w'.cell? ⟨gc, 0, none⟩ = some (.slice (some ad) l1.length c1) ∧ w'.cell? ⟨ga, 0, none⟩ = some (.int .i64 a3) ∧ w'.cell? ⟨g4, 0, none⟩ = some (.int .i64 x.1.f0) ∧ w'.cell? ⟨g4, 1, none⟩ = some (.int .i64 x.1.f1) ∧ w'.cell? ⟨g4, 2, none⟩ = some (.int .i64 x.1.f2) ∧ w'.cell? (ad.add a3.toNat) = some (.int .i64 (rd l1 a3))) (ds := [10]) #[false, false, false, false, false, false, false, false, false, false, false] (by kernel_rfl) (by kernel_rfl) not_out rfl rfl ⟨(kC j4 0).trans rfl, (kC j1 0).trans rfl, (kC j1 1).trans rfl, (kC j1 2).trans rfl, (kC j1 3).trans rfl, (kC j2 0).trans rfl, (kC j3 0).trans rfl, (kC j6 0).trans rfl, (kC j6 1).trans rfl, (kC j6 2).trans rfl, ((j5).cell (World.block_lt_of_cell? w _ HX.1)).trans HX.1⟩ (fun hHeld => ?_)
  refine take_ (i := 0) (N := some 37) (v := ?_) (a' := ?_) #[true, false, false, false, false, false, false, false, false, false, false] rfl rfl (by kernel_rfl) (fun _ _ _ h => h) (Or.inl ⟨by rfl, ?_⟩) hHeld ?_ ?_
  rotate_left
  ·rintro w' ⟨s0, s1, s2, s3, s4, s5, s6, s7, s8, s9, s10⟩
   go_simp
   with_reducible rfl
  rotate_left
  ·simp only [Act.put, List.setIfInBounds_toArray, List.set_cons_zero, List.set_cons_succ, i64_w, i32_w]
   rfl
  refine take_ (i := 1) (N := some 38) (v := ?_) (a' := ?_) #[true, true, false, false, false, false, false, false, false, false, false] rfl rfl (by kernel_rfl) (fun _ _ _ h => h) (Or.inl ⟨by rfl, ?_⟩) hHeld ?_ ?_
  rotate_left
  ·rintro w' ⟨s0, s1, s2, s3, s4, s5, s6, s7, s8, s9, s10⟩
   go_simp
   with_reducible rfl
  rotate_left
  ·simp only [Act.put, List.setIfInBounds_toArray, List.set_cons_zero, List.set_cons_succ, i64_w, i32_w]
   rfl
  refine take_ (i := 2) (N := some 39) (v := ?_) (a' := ?_) #[true, true, true, false, false, false, false, false, false, false, false] rfl rfl (by kernel_rfl) (fun _ _ _ h => h) (Or.inl ⟨by rfl, ?_⟩) hHeld ?_ ?_
  rotate_left
  ·rintro w' ⟨s0, s1, s2, s3, s4, s5, s6, s7, s8, s9, s10⟩
   go_simp
   with_reducible rfl
  rotate_left
  ·simp only [Act.put, List.setIfInBounds_toArray, List.set_cons_zero, List.set_cons_succ, i64_w, i32_w]
   rfl
  refine take_ (i := 3) (N := some 40) (v := ?_) (a' := ?_) #[true, true, true, true, false, false, false, false, false, false, false] rfl rfl (by kernel_rfl) (fun _ _ _ h => h) (Or.inl ⟨by rfl, ?_⟩) hHeld ?_ ?_
  rotate_left
  ·rintro w' ⟨s0, s1, s2, s3, s4, s5, s6, s7, s8, s9, s10⟩
   go_simp
   with_reducible rfl
  rotate_left
  ·simp only [Act.put, List.setIfInBounds_toArray, List.set_cons_zero, List.set_cons_succ, i64_w, i32_w]
   rfl
  refine take_ (i := 4) (N := some 41) (v := ?_) (a' := ?_) #[true, true, true, true, true, false, false, false, false, false, false] rfl rfl (by kernel_rfl) (fun _ _ _ h => h) (Or.inl ⟨by rfl, ?_⟩) hHeld ?_ ?_
  rotate_left
  ·rintro w' ⟨s0, s1, s2, s3, s4, s5, s6, s7, s8, s9, s10⟩
   go_simp
   with_reducible rfl
  rotate_left
  ·simp only [Act.put, List.setIfInBounds_toArray, List.set_cons_zero, List.set_cons_succ, i64_w, i32_w]
   rfl
  refine take_ (i := 7) (N := some 44) (v := ?_) (a' := ?_) #[true, true, true, true, true, false, false, true, false, false, false] rfl rfl (by kernel_rfl) (fun _ _ _ h => h) (Or.inl ⟨by rfl, ?_⟩) hHeld ?_ ?_
  rotate_left
  ·rintro w' ⟨s0, s1, s2, s3, s4, s5, s6, s7, s8, s9, s10⟩
   go_simp
   with_reducible rfl
  rotate_left
  ·simp only [Act.put, List.setIfInBounds_toArray, List.set_cons_zero, List.set_cons_succ, i64_w, i32_w]
   rfl
  refine pure_ (i := 5) (N := some 42) (v := ?_) (a' := ?_) #[true, true, true, true, true, true, false, true, false, false, false] rfl rfl (by kernel_rfl) (fun _ _ _ h => h) (Or.inl ⟨by rfl, ?_⟩) ?_ ?_
  rotate_left
  ·intro w'
   go_simp
   with_reducible rfl
  rotate_left
  ·simp only [Act.put, List.setIfInBounds_toArray, List.set_cons_zero, List.set_cons_succ, i64_w, i32_w]
   rfl
  refine take_ (i := 6) (N := some 43) (v := ?_) (a' := ?_) #[true, true, true, true, true, true, true, true, false, false, false] rfl rfl (by kernel_rfl) (fun _ _ _ h => h) (Or.inl ⟨by rfl, ?_⟩) hHeld ?_ ?_
  rotate_left
  ·rintro w' ⟨s0, s1, s2, s3, s4, s5, s6, s7, s8, s9, s10⟩
   go_simp
   with_reducible rfl
  rotate_left
  ·simp only [Act.put, List.setIfInBounds_toArray, List.set_cons_zero, List.set_cons_succ, i64_w, i32_w]
   rfl
  refine one_ (i := 8) (N := some 45) #[true, true, true, true, true, true, true, true, true, false, false] rfl rfl (by kernel_rfl) (by decide) (fun K hK => ?_)
  refine goes_ Try.func66 (by kernel_rfl) rfl #[.agg #[.int .i64 a0_0, .int .i64 a0_1, .slice A0_2 l0_2.length c0_2, .slice A0_3 l0_3.length c0_3], .agg #[.int .i64 x.1.f0, .int .i64 x.1.f1, .int .i64 x.1.f2], .int .i64 (rd l1 a3), .int .i64 a3] (by rfl) rfl rfl (by (try simp only [List.map_toArray, List.map_cons, List.map_nil]); first | rfl) ?_
  refine (cipher_Book_decode.calls 100 a0_0 a0_1 _ _ l0_2 _ _ l0_3 x.1.f0 x.1.f1 x.1.f2 (rd l1 a3) a3 _ _ (Kd.C_below HR0_2.1 j5) HC0_2.1 (Kd.C_below HR0_3.1 j5) HC0_3.1 (decode_f _ _ _ _ _ _ _ _ _ (by have := HSZ0.1; omega) HSZ.1.2)).mono ?_
  rintro e w2 ⟨rfl, hb⟩
  refine ⟨_, rfl, ?_⟩
  replace j0 := kB j0 hb
  replace j1 := kB j1 hb
  replace j2 := kB j2 hb
  replace j3 := kB j3 hb
  replace j4 := kB j4 hb
  replace j6 := kB j6 hb
  replace j5 := bT j5 hb
  replace k1 := bT k1 hb
  clear hb
  refine hK.out _ _ ⟨(kC j4 0).trans rfl, (kC j1 0).trans rfl, (kC j1 1).trans rfl, (kC j1 2).trans rfl, (kC j1 3).trans rfl, (kC j2 0).trans rfl, (kC j3 0).trans rfl, (kC j6 0).trans rfl, (kC j6 1).trans rfl, (kC j6 2).trans rfl, ((j5).cell (World.block_lt_of_cell? w _ HX.1)).trans HX.1⟩ (fun hHeld => ?_)
  clear hK K
  refine norm_ (a' := ?_) ?_ ?_
  rotate_left
  ·show Act.put _ (some 45) _ = _
   simp only [Act.put, List.setIfInBounds_toArray, List.set_cons_zero, List.set_cons_succ, i64_w, i32_w]
   rfl
  refine pure_ (i := 9) (N := some 46) (v := ?_) (a' := ?_) #[true, true, true, true, true, true, true, true, true, true, false] rfl rfl (by kernel_rfl) (fun _ _ _ h => h) (Or.inl ⟨by rfl, ?_⟩) ?_ ?_
  rotate_left
  ·intro w'
   go_simp
   with_reducible rfl
  rotate_left
  ·simp only [Act.put, List.setIfInBounds_toArray, List.set_cons_zero, List.set_cons_succ, i64_w, i32_w]
   rfl
  refine last_ (i := 10) (N := none) #[true, true, true, true, true, true, true, true, true, true, true] rfl rfl (by kernel_rfl) (by decide) (fun K hK => ?_)
  have hsc := (kC j0 (decodeV a0_0 x.1.f0 x.1.f1 x.1.f2 (rd l1 a3) a3).toNat).trans (bcells_at (show (decodeV a0_0 x.1.f0 x.1.f1 x.1.f2 (rd l1 a3) a3).toNat < _ from by rw [hlb]; have := HSZ0.1; omega))
  have hsf := kF j0 (decodeV a0_0 x.1.f0 x.1.f1 x.1.f2 (rd l1 a3) a3).toNat
  refine skip_ (w1 := ?_) (by rfl) rfl ?_ ?_
  rotate_left
  ·go_simp
   rfl
  refine hK.out _ _ ?_
  clear hK K
  refine done_ (by kernel_rfl) ?_
  refine ⟨keeps_set (keeps_below k1) i0, ⟨(k1.mono i5.size).setCell (p := ⟨gs, (decodeV a0_0 x.1.f0 x.1.f1 x.1.f2 (rd l1 a3) a3).toNat, none⟩) GEgs.1 _, fun k cs t hk hc => (Below.heap_setCell _ ⟨gs, (decodeV a0_0 x.1.f0 x.1.f1 x.1.f2 (rd l1 a3) a3).toNat, none⟩ _ k hk).trans ((k1.block k (blk_lt hc)).trans hc)⟩, ?_, blk_far (p := ⟨gs, (decodeV a0_0 x.1.f0 x.1.f1 x.1.f2 (rd l1 a3) a3).toNat, none⟩) j1 NEgbgs.1 _, blk_far (p := ⟨gs, (decodeV a0_0 x.1.f0 x.1.f1 x.1.f2 (rd l1 a3) a3).toNat, none⟩) j2 NEgcgs.1 _, blk_far (p := ⟨gs, (decodeV a0_0 x.1.f0 x.1.f1 x.1.f2 (rd l1 a3) a3).toNat, none⟩) j3 NEgags.1 _, blk_far (p := ⟨gs, (decodeV a0_0 x.1.f0 x.1.f1 x.1.f2 (rd l1 a3) a3).toNat, none⟩) j4 NEgsgx.1.symm _, j5.setCell (p := ⟨gs, (decodeV a0_0 x.1.f0 x.1.f1 x.1.f2 (rd l1 a3) a3).toNat, none⟩) GEgs.1 _⟩
  rw [List.map_append, show [x].map (·.1) = [x.1] from rfl, seenOf_snoc]
  exact blk_put j0 _ _ (bcells_set _ _ _)
 case done =>
  rintro D ys W hD hys ⟨i0, i1, i2, i3, i4, i5⟩ hK
  rw [hys] at i0
  have hlb := seenOf_len a0_0 l1 a3 (keysL a0_0 l1 l2)
  obtain ⟨bs, hbs⟩ : ∃ bs, bs = seenOf a0_0 l1 a3 (keysL a0_0 l1 l2) := ⟨_, rfl⟩
  rw [← hbs] at i0 hlb
  have HBS := Sd.mk hbs
  have HLB := Sd.mk hlb
  have HDW := Sd.mk (Nat.le_trans HB.1.size hD)
  clear HB BKgs
  have HB := Sd.mk i5
  have BKgs := Sd.mk i0
  have BKD := Sd.mk hK
  have hxc : W.cell? ⟨gx, 0, none⟩ = some (.slice (some ⟨gs, 0, none⟩) a0_0.toNat a0_0.toNat) := (kC i4 0).trans rfl
  clear hbs hlb i0 i1 i2 i3 i4 i5 hK
  gi_wp2
  go_wp2
  go_loopw [13, 49] (fun v13 v49 wr => ∃ i : Nat, v49 = .int .i64 (i : Int) ∧ i ≤ a0_0.toNat ∧ Sd (Kd.R (Kd.int .i64) 3 wr w.heap.size (fun _ => True) v13 (outTo bs i)) ∧ Sd (wr.heap[gs]? = some (.cells (bcells bs) 4 (0, 0))) ∧ Sd (wr.heap[D]? = some (.deferred (some []))) ∧ Sd (Below w.heap.size w wr)) (fun v13 v49 wr => a0_0.toNat - (intOf v49).toNat)
  case atStart => exact ⟨0, rfl, Nat.zero_le _, ⟨Kd.R_nil _ _ _ _ _⟩, BKgs, BKD, HB⟩
  case round =>
   clear HB BKgs BKD
   obtain ⟨i, rfl, hle, HO, BKgs, BKD, HB⟩ := hrel
   have hsz0 := HSZ0.1.1
   have hsz1 := HSZ0.1.2
   by_cases c4 : (i : Int) < max a0_0 0
   ·have hil : i < bs.length := by have := HLB.1; omega
    have hsc := (kC BKgs.1 i).trans (bcells_at hil)
    have HGI := Sd.mk (show bs.getD i false = bs[i] from by rw [List.getD_eq_getElem?_getD, List.getElem?_eq_getElem hil]; rfl)
    have d4 := decide_eq_true c4
    cases hb : bs[i] with
    | true =>
     rw [hb] at hsc HGI
     have HS := Sd.mk (show outTo bs (i + 1) = outTo bs i ++ [(i : Int)] from by rw [outTo_succ, if_pos HGI.1])
     clear hb hil
     go_wp2_with (first | ((with_reducible refine gate_builtin (b := .append) (xs := #[.tmp 55, .tmp 57]) rfl ?_); at_builtin; refine Kd.R_append (Kd.int .i64) (w0 := w) w.heap.size rfl (.tmp 55) (.tmp 57) 23 3 (.int .i64 0) 8 rfl Try.underlying23 info3 rfl (by decide) (by omega) u13 (outTo bs i) (i : Int) [.int .i64 (i : Int)] (fun _ => True) (fun _ => False) rfl rfl ?aP (fun _ hk => hk.elim) ?aF ?aO ?aB ?aS ?aL ?_; (case aP => exact rfl); (case aB => exact (by repeat (first | (with_reducible first | exact HB.1 ) ))); (case aF => exact (fun _ _ => trivial)); (case aO => exact (by (with_reducible repeat (fail)); exact HO.1)); (case aS => exact (bZ (by repeat (first | (with_reducible first | exact HB.1 ) )))); (case aL => have := outTo_le bs i; have := HSZ.1; omega); intro v1 w2 ho hb2 hg hat; replace BKgs := Sd.mk (blk_grown (g := gs) (by (with_reducible repeat (fail)); exact BKgs.1) hg (Kd.R_ne HO.1 BKgs.1 (by decide))); replace HB := Sd.mk hb2; replace BKD := Sd.mk (def_keep (by (with_reducible repeat (fail)); exact HO.1) hg BKD.1 rfl); replace HO := Sd.mk ho; clear ho hb2 hg hat))
     go_roundw
     case rel => exact ⟨i + 1, by go_num, by omega, ⟨by rw [HS.1]; exact HO.1⟩, BKgs, BKD, HB⟩
     case measure => simp [intOf]; omega
    | false =>
     rw [hb] at hsc HGI
     have HS := Sd.mk (show outTo bs (i + 1) = outTo bs i from by rw [outTo_succ, HGI.1]; rfl)
     clear hb hil
     go_wp2
     go_roundw
     case rel => exact ⟨i + 1, by go_num, by omega, ⟨by rw [HS.1]; exact HO.1⟩, BKgs, BKD, HB⟩
     case measure => simp [intOf]; omega
   ·have d4 := decide_eq_false c4
    have HE := Sd.mk (show outTo bs i = outTo bs a0_0.toNat from by rw [show i = a0_0.toNat by omega])
    have HDL := Sd.mk (blk_lt BKgs.1)
    obtain ⟨Av, cv, rfl, hcv, hCv⟩ := Kd.R_reads HO.1
    by_cases hz : (outTo bs i).length = 0
    ·have fz : (((outTo bs i).length : Int) == 0) = true := beq_iff_eq.2 (by omega)
     have HZ := Sd.mk hz
     clear hz
     go_wp2
     refine ⟨by simp, .inl ⟨_, _, rfl, run_takeDeferred BKD.1, ?_⟩⟩
     refine ⟨.tuple #[.slice none 0 0, .int .i64 11], by simp [results, Try.results42, go_sem], ?_⟩
     have hO : possOut a0_0 l1 l2 a3 = [] := by unfold possOut; rw [← HBS.1, ← HE.1]; exact List.eq_nil_of_length_eq_zero HZ.1
     rw [hO]
     exact ⟨_, rfl, Kd.V_nil _ _ _ _ _, HB.1.trans (belowK_b (w := w) (Nat.le_refl _) _ D _ _ HDW.1 BKD.1 rfl rfl)⟩
    ·have fz : (((outTo bs i).length : Int) == 0) = false := beq_eq_false_iff_ne.2 (by omega)
     have HZ := Sd.mk hz
     clear hz
     obtain ⟨av, e', _⟩ := Kd.at_int hCv 0 (by omega) (by have := HZ.1; omega)
     cases e'
     have HCV := Sd.mk hcv
     clear hcv hCv
     go_wp2_with (first | (go_at_call 80; refine (clip_some av _ cv _ HCV.1 (by have := outTo_le bs i; omega)).mono ?_; rintro e w9 ⟨rfl, hb9⟩; have HB9 := Sd.mk hb9; clear hb9))
     refine ⟨by simp, .inl ⟨_, _, rfl, run_takeDeferred ((HB9.1.block D (Array.getElem?_eq_some_iff.1 BKD.1).1).trans BKD.1), ?_⟩⟩
     refine ⟨.tuple #[.slice (some av) (outTo bs i).length (outTo bs i).length, .int .i64 0], by simp [results, Try.results42, go_sem], ?_⟩
     have hO : possOut a0_0 l1 l2 a3 = outTo bs i := by unfold possOut; rw [← HBS.1, ← HE.1]
     rw [hO, show possE (outTo bs i) = 0 from if_neg HZ.1]
     exact ⟨_, rfl, V_end HO.1 HB9.1 BKD.1, (bT HB.1 HB9.1).trans (belowK_b (w := w) (Nat.le_refl _) _ D _ _ HDW.1 ((HB9.1.block D (Array.getElem?_eq_some_iff.1 BKD.1).1).trans BKD.1) rfl rfl)⟩
 case stop =>
  rintro D c pre W _ _ h _
  exact h.elim
def possV (sz wd : Int) (keys : List S91) (days : List Int) (codes : List Int) (gs : List S88) (at_ : Int) : List Int × Int :=
 if askedV sz wd keys days codes gs ≠ 0 then ([], askedV sz wd keys days codes gs) else if inB at_ 0 ((codes.length : Int) - 1) = false then ([], 2) else (possOut sz codes gs at_, possE (possOut sz codes gs at_))
def cipher_Possible.f (a0_0 : Int) (a0_1 : Int) (l0_2 : List (S91)) (l0_3 : List Int) (l1 : List Int) (l2 : List (S88)) (a3 : Int) : Option (List Int × Int) := some (possV a0_0 a0_1 l0_2 l0_3 l1 l2 a3)
theorem cipher_Possible.calls (a0_0 : Int) (a0_1 : Int) (A0_2 : Option Addr) (c0_2 : Nat) (l0_2 : List (S91)) (A0_3 : Option Addr) (c0_3 : Nat) (l0_3 : List Int) (A1 : Option Addr) (c1 : Nat) (l1 : List Int) (A2 : Option Addr) (c2 : Nat) (l2 : List (S88)) (a3 : Int) (r1 : List Int) (r2 : Int) (w : World) (hr0_2 : Kd.C k91 w A0_2 l0_2.length l0_2) (hc0_2 : l0_2.length ≤ c0_2) (hr0_3 : Kd.C (Kd.int .i64) w A0_3 l0_3.length l0_3) (hc0_3 : l0_3.length ≤ c0_3) (hr1 : Kd.C (Kd.int .i64) w A1 l1.length l1) (hc1 : l1.length ≤ c1) (hr2 : Kd.C k88 w A2 l2.length l2) (hc2 : l2.length ≤ c2) (h : cipher_Possible.f a0_0 a0_1 l0_2 l0_3 l1 l2 a3 = some (r1, r2)) :
  Calls Try.prog 42 #[.agg #[.int .i64 a0_0, .int .i64 a0_1, .slice A0_2 l0_2.length c0_2, .slice A0_3 l0_3.length c0_3], .slice A1 l1.length c1, .slice A2 l2.length c2, .int .i64 a3] w fun e w' => ∃ v0_ : Value, e = .returned (.tuple #[v0_, .int .i64 r2]) ∧ Kd.V (Kd.int .i64) 3 w' w.heap.size (fun k_ => w.heap.size ≤ k_) v0_ r1 ∧ Below w.heap.size w w' := by
 have h := Option.some.inj h
 unfold possV at h
 by_cases hl : askedV a0_0 a0_1 l0_2 l0_3 l1 l2 = 0
 ·rw [if_neg (fun h2 => h2 hl)] at h
  cases hat : inB a3 0 ((l1.length : Int) - 1) with
  | false =>
   rw [if_pos hat] at h
   cases h
   exact poss_at a0_0 a0_1 A0_2 c0_2 l0_2 A0_3 c0_3 l0_3 A1 c1 l1 A2 c2 l2 a3 w hr0_2 hc0_2 hr0_3 hc0_3 hr1 hc1 hr2 hc2 hl hat
  | true =>
   rw [if_neg (by rw [hat]; decide)] at h
   cases h
   have hb := inB_iff.1 hat
   obtain ⟨ad, e, _⟩ := Kd.at_int hr1 a3 hb.1 (by omega)
   subst e
   exact poss_run a0_0 a0_1 A0_2 c0_2 l0_2 A0_3 c0_3 l0_3 ad c1 l1 A2 c2 l2 a3 w hr0_2 hc0_2 hr0_3 hc0_3 hr1 hc1 hr2 hc2 hl hat
 ·rw [if_pos hl] at h
  cases h
  exact poss_ask a0_0 a0_1 A0_2 c0_2 l0_2 A0_3 c0_3 l0_3 A1 c1 l1 A2 c2 l2 a3 w hr0_2 hc0_2 hr0_3 hc0_3 hr1 hc1 hr2 hc2 hl
end Go.Proofs.Ytnidgkmopocdkaa.P
