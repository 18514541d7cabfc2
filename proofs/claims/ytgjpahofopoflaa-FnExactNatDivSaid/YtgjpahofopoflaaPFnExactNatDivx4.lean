-- Written by our own driver (wip/hand/hprint.py) over the seat's translation.
import Derived.Test.YtgjpahofopoflaaPFnExactNatDivx0
namespace Go.Proofs.Ytgjpahofopoflaa.PFnExactNatDiv
open Go.RowKit Go.Proofs.YtgjpahofopoflaaW.PrintWords Go.Proofs.YtgjpahofopoflaaW.PrintLast Go.Proofs.YtgjpahofopoflaaW.PrintMore
attribute [local go_sem] max2_int min2_int max_two min_two max_three min_three max_four min_four   -- for this text's walks alone
set_option linter.unusedVariables false
set_option linter.unusedSimpArgs false

/-! ### impl_small: function 103 -/
def impl_small.l0 : Nat → Int → List Int → Option (List Int)
 | 0, _, _ => none
 | k + 1, x0, x3 => if x0 > 0 then (if x3.length < 17592186044416 then (impl_small.l0 k (wrap64 (Int.tdiv x0 65536)) (x3 ++ [Int.tmod x0 65536])) else (none)) else (some x3)
def impl_small.f (k : Nat) (a0 : Int) : Option (List Int) := impl_small.l0 k a0 ([] : List Int)
theorem impl_small.mono_l : ∀ k, (∀ y0 y1, LeO (impl_small.l0 k y0 y1) (impl_small.l0 (k + 1) y0 y1))
 | 0 => fun _ _ r h => by simp [impl_small.l0] at h
 | k + 1 => by
  have ih0 := impl_small.mono_l k
  ·intro y0 y1
   unfold impl_small.l0
   repeat' first
   | (with_reducible exact ih0 _ _)
   | (with_reducible exact LeO.refl _)
   | (with_reducible exact LeO.none _)
   | (with_reducible refine LeO.ite ?_ ?_)
   | (with_reducible refine LeO.bind ?_ (fun _ => ?_))
   | exact ih0 _ _
   | exact LeO.none _
   | refine LeO.ite ?_ ?_
   | refine LeO.bind ?_ (fun _ => ?_)
theorem impl_small.mono : ∀ a0 k, LeO (impl_small.f k a0) (impl_small.f (k + 1) a0) := by
 intro a0 k
 have ih0 := impl_small.mono_l k
 unfold impl_small.f
 repeat' first
   | (with_reducible exact ih0 _ _)
   | (with_reducible exact LeO.refl _)
   | (with_reducible exact LeO.none _)
   | (with_reducible refine LeO.ite ?_ ?_)
   | (with_reducible refine LeO.bind ?_ (fun _ => ?_))
   | exact ih0 _ _
   | exact LeO.none _
   | refine LeO.ite ?_ ?_
   | refine LeO.bind ?_ (fun _ => ?_)
set_option maxHeartbeats 8000000 in
set_option maxRecDepth 100000 in
theorem impl_small.calls (k : Nat) (a0 : Int) (r : List Int) (w : World) (h : impl_small.f k a0 = some r) :
  Calls Try.prog 103 #[.int .i64 a0] w fun e w' => ∃ v0_ : Value, e = .returned (v0_) ∧ Kd.R (Kd.int .i64) 3 w' w.heap.size (fun _ => True) v0_ r ∧ Below w.heap.size w w' := by
 have HB := Aside0.mk (Below.refl w.heap.size w)
 have H : (impl_small.l0 k a0 ([] : List Int)) = some r := h
 clear h
 have H' := Aside0.mk H
 clear H
 go_enter Try.func103, Try.ntmps103
 go_wp2
 go_loopg [0, 3] k (fun kq v0 v3 w' => ∃ (x0_1 : Int) (x3_1 : List Int), v0 = .int .i64 x0_1 ∧ Aside0 (impl_small.l0 kq x0_1 x3_1 = some r) ∧ Aside0 (kq ≤ k) ∧ Aside0 (Kd.R (Kd.int .i64) 3 w' w.heap.size (fun _ => True) v3 x3_1) ∧ Aside0 (Below w.heap.size w w'))
 case atStart => exact ⟨(a0), (([] : List Int)), (by first | rfl | (simp; done) | (simp [*]; done)), H', ⟨Nat.le_refl _⟩, ⟨by first | exact Kd.R_nil _ _ _ _ _ | exact Kd.N_nil _ _ _ _ _ | exact Kd.V_nil _ _ _ _ _ | exact Kd.Q_nil _ _ _ _ _ | exact Kd.S_nil _ _ _ _ _⟩, ⟨hkS HB⟩⟩
 case round =>
  clear H'
  try clear c1
  obtain ⟨x0_1, x3_1, rfl, HA, HK1, HO_3, HB⟩ := hrel
  cases gk with
  | zero => exact absurd HA.out (by simp [impl_small.l0])
  | succ k1 =>
   have H := HA.out
   clear HA
   simp only [impl_small.l0] at H
   by_cases c2 : x0_1 > 0
   ·rw [if_pos c2] at H
    have c2b0 : decide (0 < x0_1) = true := decide_eq_true c2
    clear c2
    by_cases c3 : x3_1.length < 17592186044416
    ·rw [if_pos c3] at H
     have LMc3 := Aside0.mk c3
     clear c3
     obtain ⟨y128, hy128⟩ : ∃ y_ : List Int, y_ = (x3_1 ++ [Int.tmod x0_1 65536]) := ⟨_, rfl⟩
     replace H : (impl_small.l0 k1 (wrap64 (Int.tdiv x0_1 65536)) y128) = some r := by first | (rw [hy128]; with_reducible exact H) | (have H2_ := (Option.bind_some _ _).symm.trans H; rw [hy128]; with_reducible exact H2_) | (have H2_ := (Option.bind_some _ _).symm.trans H; with_reducible exact H2_) | with_reducible exact H | (rw [hy128]; exact H) | exact H
     have Ny128 := Aside0.mk hy128
     clear hy128
     have H' := Aside0.mk H
     clear H
     go_wp2_with (first | ((with_reducible refine gate_builtin (b := .append) (xs := #[.tmp 8, .tmp 11]) rfl ?_); at_builtin; refine Kd.R_append (Kd.int .i64) (w0 := w) w.heap.size rfl (.tmp 8) (.tmp 11) 29 3 (.int .i64 0) 8 rfl Try.underlying29 info3 rfl (by decide) (by omega) u3 x3_1 (Int.tmod x0_1 65536) [.int .i64 (Int.tmod x0_1 65536)] (fun _ => True) (fun _ => False) rfl rfl ?aP (fun _ hk => hk.elim) ?aF ?aO ?aB ?aS ?aL ?_; (case aP => exact rfl); (case aB => exact (hkS HB)); (case aF => exact (fun _ _ => trivial)); (case aO => exact (hkR HO_3)); (case aS => exact (below_size (hkS HB))); (case aL => have := LMc3.out; omega); intro v129 w4 ho hb hg hat; rw [← Ny128.out] at ho; have n_ := hkA (Aside0.mk (hb)) (Aside0.mk (ho)); clear HB HO_3; obtain ⟨HB, HO130⟩ := n_; clear ho hb hg hat))
     go_roundg k1
     case measure => have := HK1.out; omega
     case rel => exact ⟨(wrap64 (Int.tdiv x0_1 65536)), (y128), (by first | rfl | (simp; done) | (simp [*]; done)), H', ⟨by have := HK1.out; omega⟩, ⟨by (with_reducible repeat (first | apply Kd.R_alloc | apply Kd.R_drewN | apply Kd.R_drew)); exact HO130.out⟩, ⟨hkS HB⟩⟩
    ·rw [if_neg c3] at H
     exact absurd H (by simp)
   ·rw [if_neg c2] at H
    have c2b0 : decide (0 < x0_1) = false := decide_eq_false c2
    clear c2
    obtain rfl := Option.some.inj H
    go_wp2
    go_ret
    exact ⟨_, hkE, by (with_reducible repeat (first | apply Kd.R_alloc | apply Kd.R_drewN | apply Kd.R_drew)); exact HO_3.out, hkS HB⟩

-- NOT PRINTED: function 136 (bits_Len32)

/-! ### bits_Len64: function 137 -/
/-- How many bits a word of 64 bits wants. -/
def bits_Len64.f (a0 : Int) : Option Int := if 0 ≤ a0 ∧ a0 ≤ 18446744073709551615 then some (Go.Lib.bitLen a0.toNat : Int) else none
theorem bits_Len64.tab (n : Nat) (h : n < 256) (hq_ : n < Go.Lib.len8tab.size) : ((Go.Lib.len8tab[n]'hq_).toNat) = Go.Lib.bitLen n := by
 have l := Go.Lib.len8_of (n : Int) (by omega) (by omega)
 unfold Go.Lib.len8 at l
 rw [Int.toNat_natCast, getElem?_pos Go.Lib.len8tab n hq_, Option.getD_some] at l
 exact Int.ofNat_inj.1 l
theorem bits_Len64.fin (k : Int) (b n : Nat) (hk : 0 ≤ k) (h56 : k ≤ 56) (hb : b ≤ 8) (h : (n : Int) = k + b) : wrap64 (k + wrap64 b) = n := by
 unfold wrap64
 omega
theorem bits_Len64.fin0 (b : Nat) (hb : b ≤ 8) : wrap64 (wrap64 b) = b := by
 unfold wrap64
 omega
/-- One way through Len64: the table's cell at the word shifted by k, and k. -/
theorem bits_Len64.way (x : Int) (D : Nat) (k j : Int) (e : j.toNat = x.toNat / D) (hk : 0 ≤ k) (h56 : k ≤ 56) (hj : j.toNat < 256) (s : (Go.Lib.bitLen x.toNat : Int) = k + (Go.Lib.bitLen (x.toNat / D) : Int)) (hq_ : j.toNat < Go.Lib.len8tab.size) :
  wrap64 (k + wrap64 (((Go.Lib.len8tab[j.toNat]'hq_).toNat : Nat) : Int)) = (Go.Lib.bitLen x.toNat : Int) := by
 rw [bits_Len64.tab _ hj]
 have l := Go.Lib.bitLen_le j.toNat 8 (by omega) hj
 rw [e] at l ⊢
 exact bits_Len64.fin k _ _ hk h56 l s
theorem bits_Len64.quo56 (x : Int) (h0 : 0 ≤ x) : (x / 4294967296 / 65536 / 256).toNat = x.toNat / 72057594037927936 := by
 obtain ⟨n, rfl⟩ := Int.eq_ofNat_of_zero_le h0
 have : ((n : Int)  / 4294967296 / 65536 / 256) = ((n  / 4294967296 / 65536 / 256 : Nat) : Int) := by simp
 rw [this, Int.toNat_natCast, Int.toNat_natCast, Nat.div_div_eq_div_mul, Nat.div_div_eq_div_mul]
theorem bits_Len64.len56 (x : Int) (h0 : 0 ≤ x) (h1 : x ≤ 18446744073709551615) (h : 72057594037927936 ≤ x) : (Go.Lib.bitLen x.toNat : Int) = 56 + (Go.Lib.bitLen (x.toNat / 72057594037927936) : Int) := by
 rw [Go.Lib.bitLen_shift56 x.toNat (by omega) (by omega)]
 simp
theorem bits_Len64.quo48 (x : Int) (h0 : 0 ≤ x) : (x / 4294967296 / 65536).toNat = x.toNat / 281474976710656 := by
 obtain ⟨n, rfl⟩ := Int.eq_ofNat_of_zero_le h0
 have : ((n : Int)  / 4294967296 / 65536) = ((n  / 4294967296 / 65536 : Nat) : Int) := by simp
 rw [this, Int.toNat_natCast, Int.toNat_natCast, Nat.div_div_eq_div_mul]
theorem bits_Len64.len48 (x : Int) (h0 : 0 ≤ x) (h1 : x ≤ 18446744073709551615) (h : 281474976710656 ≤ x) : (Go.Lib.bitLen x.toNat : Int) = 48 + (Go.Lib.bitLen (x.toNat / 281474976710656) : Int) := by
 rw [Go.Lib.bitLen_shift48 x.toNat (by omega) (by omega)]
 simp
theorem bits_Len64.quo40 (x : Int) (h0 : 0 ≤ x) : (x / 4294967296 / 256).toNat = x.toNat / 1099511627776 := by
 obtain ⟨n, rfl⟩ := Int.eq_ofNat_of_zero_le h0
 have : ((n : Int)  / 4294967296 / 256) = ((n  / 4294967296 / 256 : Nat) : Int) := by simp
 rw [this, Int.toNat_natCast, Int.toNat_natCast, Nat.div_div_eq_div_mul]
theorem bits_Len64.len40 (x : Int) (h0 : 0 ≤ x) (h1 : x ≤ 18446744073709551615) (h : 1099511627776 ≤ x) : (Go.Lib.bitLen x.toNat : Int) = 40 + (Go.Lib.bitLen (x.toNat / 1099511627776) : Int) := by
 rw [Go.Lib.bitLen_shift40 x.toNat (by omega) (by omega)]
 simp
theorem bits_Len64.quo32 (x : Int) (h0 : 0 ≤ x) : (x / 4294967296).toNat = x.toNat / 4294967296 := by
 obtain ⟨n, rfl⟩ := Int.eq_ofNat_of_zero_le h0
 have : ((n : Int)  / 4294967296) = ((n  / 4294967296 : Nat) : Int) := by simp
 rw [this, Int.toNat_natCast, Int.toNat_natCast]
theorem bits_Len64.len32 (x : Int) (h0 : 0 ≤ x) (h1 : x ≤ 18446744073709551615) (h : 4294967296 ≤ x) : (Go.Lib.bitLen x.toNat : Int) = 32 + (Go.Lib.bitLen (x.toNat / 4294967296) : Int) := by
 rw [Go.Lib.bitLen_shift32 x.toNat (by omega) (by omega)]
 simp
theorem bits_Len64.quo24 (x : Int) (h0 : 0 ≤ x) : (x / 65536 / 256).toNat = x.toNat / 16777216 := by
 obtain ⟨n, rfl⟩ := Int.eq_ofNat_of_zero_le h0
 have : ((n : Int)  / 65536 / 256) = ((n  / 65536 / 256 : Nat) : Int) := by simp
 rw [this, Int.toNat_natCast, Int.toNat_natCast, Nat.div_div_eq_div_mul]
theorem bits_Len64.len24 (x : Int) (h0 : 0 ≤ x) (h1 : x ≤ 18446744073709551615) (h : 16777216 ≤ x) : (Go.Lib.bitLen x.toNat : Int) = 24 + (Go.Lib.bitLen (x.toNat / 16777216) : Int) := by
 rw [Go.Lib.bitLen_shift24 x.toNat (by omega) (by omega)]
 simp
theorem bits_Len64.quo16 (x : Int) (h0 : 0 ≤ x) : (x / 65536).toNat = x.toNat / 65536 := by
 obtain ⟨n, rfl⟩ := Int.eq_ofNat_of_zero_le h0
 have : ((n : Int)  / 65536) = ((n  / 65536 : Nat) : Int) := by simp
 rw [this, Int.toNat_natCast, Int.toNat_natCast]
theorem bits_Len64.len16 (x : Int) (h0 : 0 ≤ x) (h1 : x ≤ 18446744073709551615) (h : 65536 ≤ x) : (Go.Lib.bitLen x.toNat : Int) = 16 + (Go.Lib.bitLen (x.toNat / 65536) : Int) := by
 rw [Go.Lib.bitLen_shift16 x.toNat (by omega) (by omega)]
 simp
theorem bits_Len64.quo8 (x : Int) (h0 : 0 ≤ x) : (x / 256).toNat = x.toNat / 256 := by
 obtain ⟨n, rfl⟩ := Int.eq_ofNat_of_zero_le h0
 have : ((n : Int)  / 256) = ((n  / 256 : Nat) : Int) := by simp
 rw [this, Int.toNat_natCast, Int.toNat_natCast]
theorem bits_Len64.len8 (x : Int) (h0 : 0 ≤ x) (h1 : x ≤ 18446744073709551615) (h : 256 ≤ x) : (Go.Lib.bitLen x.toNat : Int) = 8 + (Go.Lib.bitLen (x.toNat / 256) : Int) := by
 rw [Go.Lib.bitLen_shift8 x.toNat (by omega) (by omega)]
 simp
set_option maxHeartbeats 4000000 in
set_option maxRecDepth 100000 in
theorem bits_Len64.any (x : Int) (w : World) (h0 : 0 ≤ x) (h1 : x ≤ 18446744073709551615) :
  Calls Try.prog 137 #[.int .u64 x] w fun e w' => e = .returned (.int .i64 (Go.Lib.bitLen x.toNat)) ∧ w = w' := by
 have hsz : Go.Lib.len8tab.size = 256 := by rfl
 go_enter Try.func137, Try.ntmps137
 go_wp2
 all_goals (go_ret; refine ⟨congrArg Ending.returned (congrArg (Value.int IntKind.i64) ?_), rfl⟩)
 ·exact bits_Len64.way x 72057594037927936 56 (x / 4294967296 / 65536 / 256) (bits_Len64.quo56 x h0) (by omega) (by omega) (by omega) (bits_Len64.len56 x h0 h1 (by omega)) _
 ·exact bits_Len64.way x 281474976710656 48 (x / 4294967296 / 65536) (bits_Len64.quo48 x h0) (by omega) (by omega) (by omega) (bits_Len64.len48 x h0 h1 (by omega)) _
 ·exact bits_Len64.way x 1099511627776 40 (x / 4294967296 / 256) (bits_Len64.quo40 x h0) (by omega) (by omega) (by omega) (bits_Len64.len40 x h0 h1 (by omega)) _
 ·exact bits_Len64.way x 4294967296 32 (x / 4294967296) (bits_Len64.quo32 x h0) (by omega) (by omega) (by omega) (bits_Len64.len32 x h0 h1 (by omega)) _
 ·exact bits_Len64.way x 16777216 24 (x / 65536 / 256) (bits_Len64.quo24 x h0) (by omega) (by omega) (by omega) (bits_Len64.len24 x h0 h1 (by omega)) _
 ·exact bits_Len64.way x 65536 16 (x / 65536) (bits_Len64.quo16 x h0) (by omega) (by omega) (by omega) (bits_Len64.len16 x h0 h1 (by omega)) _
 ·exact bits_Len64.way x 256 8 (x / 256) (bits_Len64.quo8 x h0) (by omega) (by omega) (by omega) (bits_Len64.len8 x h0 h1 (by omega)) _
 ·rw [bits_Len64.tab _ (by omega)]
  exact bits_Len64.fin0 _ (Go.Lib.bitLen_le x.toNat 8 (by omega) (by omega))
theorem bits_Len64.calls (a0 : Int) (r : Int) (w : World) (h : bits_Len64.f a0 = some r) :
  Calls Try.prog 137 #[.int .u64 a0] w fun e w' => e = .returned (.int .i64 r) ∧ Drawn0 w w' := by
 replace h : (if 0 ≤ a0 ∧ a0 ≤ 18446744073709551615 then some (Go.Lib.bitLen a0.toNat : Int) else none) = some r := h
 by_cases hb : 0 ≤ a0 ∧ a0 ≤ 18446744073709551615
 ·rw [if_pos hb] at h
  obtain rfl := Option.some.inj h
  refine (bits_Len64.any a0 w hb.1 hb.2).mono ?_
  rintro e w' ⟨rfl, rfl⟩
  exact ⟨rfl, Drawn0.refl _⟩
 ·rw [if_neg hb] at h
  cases h


/-! ### bits_Len: function 104 -/
def bits_Len.f (a0 : Int) : Option (Int) := (bits_Len64.f a0).bind fun t131 => (some t131)
set_option maxHeartbeats 8000000 in
set_option maxRecDepth 100000 in
theorem bits_Len.calls (a0 : Int) (r : Int) (w : World) (h : bits_Len.f a0 = some r) :
  Calls Try.prog 104 #[.int .u64 a0] w fun e w' => e = .returned (.int .i64 r) ∧ Drawn0 w w' := by
 have H : ((bits_Len64.f a0).bind fun t131 => (some t131)) = some r := h
 clear h
 replace H := hBi H
 obtain ⟨t131, A20, H⟩ := H
 replace H : (some t131) = some r := H
 have A2 := Aside0.mk A20
 clear A20
 obtain rfl := Option.some.inj H
 go_enter Try.func104, Try.ntmps104
 go_wp2_with (first | ((with_reducible refine gate_callee (f := 137) rfl ?_); refine hkGo (N := some 7) Try.func137 #[.int .u64 a0] ?_; (with_reducible refine (bits_Len64.calls a0 t131 _ A2.out).mono ?_); rintro e w' ⟨rfl, ⟨nd, rfl⟩⟩; refine ⟨_, rfl, ?_⟩))
 go_ret
 exact ⟨by first | rfl | (simp; done) | (simp [*]; done), by repeat (first | exact Drawn0.refl _ | apply Drawn0.step)⟩

end Go.Proofs.Ytgjpahofopoflaa.PFnExactNatDiv
