/- Small laws beside the print's words, of no program: make with a capacity. -/
import Derived.Test.YtlefbfdeelldjaaWMore
import Derived.Lib.TrailingZeros
import Derived.Shelf.Spec.TrailingZeros
import Derived.Test.YtlefbfdeelldjaaWLast
namespace Go.Proofs.YtlefbfdeelldjaaW.PrintWords
open Go.RowKit
theorem hw0 : wrap64 0 = 0 := by unfold wrap64; omega
/-- The table of math/bits stands where its variable is. -/
def hTab (w : World) : Prop := TabAt 1 Go.Lib.deBruijn64tab w
theorem hTab_below {w w1 : World} (h : hTab w) (hb : Below w.heap.size w w1) : hTab w1 := fun j hj => (hb.cell (World.block_lt_of_cell? w _ (h j hj))).trans (h j hj)
theorem hTab_use {w w1 : World} (h : Aside0 (hTab w)) (l : Below w.heap.size w w1 := by
    repeat (first | (with_reducible first | (refine Go.Proofs.YtlefbfdeelldjaaW.PrintWords.Aside0.out ?_; assumption) | exact Below.refl _ _ | apply Go.Proofs.YtlefbfdeelldjaaW.PrintWords.below_alloc | apply Go.Proofs.YtlefbfdeelldjaaW.PrintWords.pw_below_drewN | apply Go.Proofs.YtlefbfdeelldjaaW.PrintWords.below_drew1 | refine Go.Proofs.YtlefbfdeelldjaaW.PrintWords.below_set ?_ ?_) | (refine Go.Proofs.YtlefbfdeelldjaaW.PrintWords.Aside0.out ?_; assumption))) : hTab w1 := hTab_below h.out l
/-! Short names of steps that the printed walks take again and again. -/
section
variable {α : Type} {d : Kd α} {e base g G : Nat} {ok : Nat → Prop} {v : Value} {xs : List α} {o : Obj} {w w1 w2 : World}
theorem hkB (h : Aside0 (w.heap[g]? = some o)) (l : Below w.heap.size w w1 := by (with_reducible repeat (first | exact Below.refl _ _ | apply Go.Proofs.YtlefbfdeelldjaaW.PrintWords.below_alloc | apply Go.Proofs.YtlefbfdeelldjaaW.PrintWords.pw_below_drewN | apply Go.Proofs.YtlefbfdeelldjaaW.PrintWords.below_drew1))) : w1.heap[g]? = some o := blk_below h.out l
theorem hkBb (h : Aside0 (w.heap[g]? = some o)) (hb : Below w1.heap.size w1 w2) (l : Below w.heap.size w w1 := by (with_reducible repeat (first | exact Below.refl _ _ | apply Go.Proofs.YtlefbfdeelldjaaW.PrintWords.below_alloc | apply Go.Proofs.YtlefbfdeelldjaaW.PrintWords.pw_below_drewN | apply Go.Proofs.YtlefbfdeelldjaaW.PrintWords.below_drew1))) : Aside0 (w2.heap[g]? = some o) := ⟨blk_below (blk_below h.out l) hb⟩
theorem hkN (hg : G = w1.heap.size) (h : Aside0 (w.heap[g]? = some o)) (l : Below w.heap.size w w1 := by (with_reducible repeat (first | exact Below.refl _ _ | apply Go.Proofs.YtlefbfdeelldjaaW.PrintWords.below_alloc | apply Go.Proofs.YtlefbfdeelldjaaW.PrintWords.pw_below_drewN | apply Go.Proofs.YtlefbfdeelldjaaW.PrintWords.below_drew1))) : Aside0 (g ≠ G) := ⟨by rw [hg]; exact Nat.ne_of_lt (blk_lt (blk_below h.out l))⟩
theorem hkM (hg : G = w1.heap.size) (h : Aside0 (w.heap[g]? = some o)) (l : Below w.heap.size w w1 := by (with_reducible repeat (first | exact Below.refl _ _ | apply Go.Proofs.YtlefbfdeelldjaaW.PrintWords.below_alloc | apply Go.Proofs.YtlefbfdeelldjaaW.PrintWords.pw_below_drewN | apply Go.Proofs.YtlefbfdeelldjaaW.PrintWords.below_drew1))) : Aside0 (G ≠ g) := ⟨by rw [hg]; exact Nat.ne_of_gt (blk_lt (blk_below h.out l))⟩
theorem hkR (h : Aside0 (d.R e w base ok v xs)) (l : Below w.heap.size w w1 := by (with_reducible repeat (first | exact Below.refl _ _ | apply Go.Proofs.YtlefbfdeelldjaaW.PrintWords.below_alloc | apply Go.Proofs.YtlefbfdeelldjaaW.PrintWords.pw_below_drewN | apply Go.Proofs.YtlefbfdeelldjaaW.PrintWords.below_drew1))) : d.R e w1 base ok v xs := Kd.R_below h.out l
theorem hkRb (h : Aside0 (d.R e w base ok v xs)) (hb : Below w1.heap.size w1 w2) (l : Below w.heap.size w w1 := by (with_reducible repeat (first | exact Below.refl _ _ | apply Go.Proofs.YtlefbfdeelldjaaW.PrintWords.below_alloc | apply Go.Proofs.YtlefbfdeelldjaaW.PrintWords.pw_below_drewN | apply Go.Proofs.YtlefbfdeelldjaaW.PrintWords.below_drew1))) : Aside0 (d.R e w2 base ok v xs) := ⟨Kd.R_below (Kd.R_below h.out l) hb⟩
theorem hkS {W : World} (_h : Aside0 (Below w.heap.size w W)) (x : Below w.heap.size w w1 := by
    repeat (first | (with_reducible first | (refine Go.Proofs.YtlefbfdeelldjaaW.PrintWords.Aside0.out ?_; assumption) | apply Go.Proofs.YtlefbfdeelldjaaW.PrintWords.below_alloc | apply Go.Proofs.YtlefbfdeelldjaaW.PrintWords.pw_below_drewN | apply Go.Proofs.YtlefbfdeelldjaaW.PrintWords.below_drew1 | refine Go.Proofs.YtlefbfdeelldjaaW.PrintWords.below_set ?_ ?_) | (refine Go.Proofs.YtlefbfdeelldjaaW.PrintWords.Aside0.out ?_; assumption))) : Below w.heap.size w w1 := x
theorem hkP {p q : Prop} (_ : p) (_ : q) (h : False := by first | exact hk_ hs_ | exact hk_.1 hs_ | exact hk_.2 hs_ | exact hk_.1.1 hs_ | exact hk_.1.2 hs_ | exact hk_.1.1.1 hs_ | exact hk_.1.1.2 hs_ | exact hk_.1.1.1.2 hs_) : False := h
theorem hkQ {p q : Prop} (_ : p) (h : q := by first | exact trivial | (refine ⟨?_, ?_⟩ <;> first | exact hk_.1 | exact hk_.2 | exact hk_.1.1 | exact hk_.1.2 | exact hk_.1.1.1 | exact hk_.1.1.2 | exact hk_.1.1.1.2) | exact hk_.1 | exact hk_.2 | exact hk_.1.1 | exact hk_.1.2 | exact hk_.1.1.1 | exact hk_.1.1.2 | exact hk_.1.1.1.2) : q := h
theorem hkG (hg : G = w1.heap.size) (h : Below w.heap.size w w1) : Aside0 (w.heap.size ≤ G) := ⟨by rw [hg]; exact h.size⟩
theorem hkL {p : Prop} (h : p := by (try simp only [List.map_toArray, List.map_cons, List.map_nil]); first | done | rfl | (simp only [List.length_drop, List.length_take]; rfl)) : p := h
end
theorem hC_len {α : Type} {d : Kd α} {w : World} {A : Option Addr} {n m : Nat} {l : List α} (e : n = m) (h : d.C w A n l) : d.C w A m l := e ▸ h
namespace Kd
section
variable {P : Program} {ops : Array Oper} {rest : List Oper} {o : Oper} {a : Act} {Q : Exit → Act → World → Prop} {α : Type}
theorem hR_makecap (d : Kd α) {w0 W : World} (base e : Nat) (hgd : o.guard = none) {N : Tmp} (_hd : o.dst = some N) (t : TypeId) (x y : Operand) (ho : o.op = .makeSlice t x y) (n m : Int) (hx : a.eval x = .int .i64 n) (hy : a.eval y = .int .i64 m)
    (ht : P.underlying t = some (.slice e)) (z : Value) (bytes : Nat) (hinfo : (P.info? e).map (fun i => (i.zero, i.size, i.bytes)) = some (some z, d.sz, bytes)) (hz : z.cells.size = d.sz) (hs0 : 0 < d.sz) (hb0 : 0 < bytes)
    (z0 : α) {ok okp : Nat → Prop} (hzero : d.M W base okp z0 z.cells.toList) (hok : ∀ k, okp k → ok k) (hfresh : ok W.heap.size) (h0 : 0 ≤ n) (hnm : n ≤ m) (L : Nat) (hL : L * bytes ≤ 281474976710656) (hl : m ≤ (L : Int)) (HB : Below base w0 W) (hbase : base ≤ W.heap.size)
    (h : ∀ v1 w1, d.R e w1 base ok v1 (List.replicate n.toNat z0) → Below base w0 w1 → W.grownBy w1 none → (∃ b, v1.ownBlock = some b ∧ W.heap.size ≤ b) → wpList P ops Q rest (a.put o.dst v1) w1) : wpList P ops Q (o :: rest) a W := by
  obtain ⟨n, rfl⟩ := Int.eq_ofNat_of_zero_le h0
  obtain ⟨m, rfl⟩ := Int.eq_ofNat_of_zero_le (Int.le_trans h0 hnm)
  simp only [Int.toNat_natCast] at h
  obtain ⟨i0, hi, hzz⟩ := Option.map_eq_some_iff.1 hinfo
  simp only [Prod.mk.injEq] at hzz
  obtain ⟨hz0, hz1, hz2⟩ := hzz
  have hmL : m ≤ L := by omega
  have hb : m * bytes ≤ 281474976710656 := Nat.le_trans (Nat.mul_le_mul_right _ hmL) hL
  have hm : m ≤ 281474976710656 := Nat.le_trans (Nat.le_mul_of_pos_right _ hb0) hb
  have hr := run_make (P := P) W t e i0 z ht hi hz0 .i64 .i64 (n : Int) (m : Int) (by omega) hnm
    (by
      have h3 : ((i0.bytes * m : Nat) : Int) ≤ 281474976710656 := by rw [hz2, Nat.mul_comm]; omega
      rwa [Int.natCast_mul] at h3) (by omega)
  simp only [Int.toNat_natCast] at hr
  rw [hz1] at hr
  have full : d.R e (W.alloc (.cells (madeCells z.cells (m * d.sz)) e)) base ok (.slice (some ⟨W.heap.size, 0, none⟩) m m) (List.replicate m z0) := by
    refine ⟨fun k hk => ?_, (madeCells z.cells (m * d.sz)).toList, ?_, ?_⟩
    · have : W.heap.size = k := by simpa [Value.ownBlock] using hk
      subst this
      exact hfresh
    · have h2 := mrow_lit (base := base) (e := e) (size := d.sz) W (madeCells z.cells (m * d.sz)) m hbase (by simp [maxLen]; omega) (by simpa using (reps_made hz hs0 hzero m).1)
      simpa using h2
    · refine (reps_made hz hs0 hzero m).imp_ (fun p c hp => d.M_mono (fun k hk => ⟨hok k hk.1, fun he => ?_⟩) (M_below (d.M_bound hp) (below_alloc (Below.refl _ _) _)))
      have h3 : k = W.heap.size := by simpa [Value.ownBlock] using he
      have := hk.2.2.1
      omega
  have part := R_take full (m := n) (by simp; omega)
  rw [List.take_replicate, Nat.min_eq_left (by omega : n ≤ m)] at part
  refine event_run hgd (v := .slice (some ⟨W.heap.size, 0, none⟩) n m) (w1 := W.alloc (.cells (madeCells z.cells (m * d.sz)) e)) ?_ (h _ _ part (HB.alloc hbase _) (World.grownBy_alloc W _ none) ⟨W.heap.size, by simp [Value.ownBlock], Nat.le_refl _⟩)
  simp [execOp, ho, hx, hy, hr]
end
end Kd
end Go.Proofs.YtlefbfdeelldjaaW.PrintWords
