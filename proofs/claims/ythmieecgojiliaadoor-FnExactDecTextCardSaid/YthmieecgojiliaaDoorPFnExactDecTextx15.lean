-- Written by our own driver (wip/hand/hprint.py) over the seat's translation.
import Derived.Test.YthmieecgojiliaaDoorPFnExactDecTextx0
namespace Go.Proofs.YthmieecgojiliaaDoor.PFnExactDecText
open Go.RowKit Go.Proofs.YthmieecgojiliaaDoorW.PrintWords Go.Proofs.YthmieecgojiliaaDoorW.PrintLast Go.Proofs.YthmieecgojiliaaDoorW.PrintMore
attribute [local go_sem] max2_int min2_int max_two min_two max_three min_three max_four min_four   -- for this text's walks alone
set_option linter.unusedVariables false
set_option linter.unusedSimpArgs false

/-! ### slices_Concat_byte_byte: function 34 -/
/-- Three rows of bytes, one behind the other. -/
def slices_Concat_byte_byte.f (l0 l1 l2 : List Int) : Option (List Int) := if l0.length + l1.length + l2.length < 1099511627776 then some (l0 ++ l1 ++ l2) else none
/-- slices.Grow of nil: an empty row with room. -/
theorem slices_Concat_byte_byte.grown0 {w : World} : Kd.R (Kd.int .u8) 5 w w.heap.size (fun _ => True) (.slice none 0 0) ([] : List Int) := Kd.R_nil _ _ _ _ _
set_option maxHeartbeats 4000000 in
set_option maxRecDepth 100000 in
theorem slices_Concat_byte_byte.grow (n : Nat) (w : World) (hn0 : n ≤ 1099511627776) :
  Calls Tryd.prog 48 #[.slice none 0 0, .int .i64 (n : Int)] w fun e w' => ∃ v0_ : Value, e = .returned v0_ ∧ Kd.R (Kd.int .u8) 5 w' w.heap.size (fun _ => True) v0_ ([] : List Int) ∧ Below w.heap.size w w' := by
 have LM := Aside0.mk hn0
 have wim : IntKind.i64.wrap (n : Int) = (n : Int) := by rw [IntKind.wrap_i64]; omega
 have w0 : IntKind.i64.wrap 0 = 0 := by rw [IntKind.wrap_i64]; omega
 have hneg : decide ((n : Int) < 0) = false := decide_eq_false (by omega)
 clear hn0
 have HB := Aside0.mk (Below.refl w.heap.size w)
 by_cases hz : 0 < n
 ·have hpos : decide ((0 : Int) < (n : Int)) = true := decide_eq_true (by omega)
  obtain ⟨i0, hi0, _, hsz0, _⟩ := info_parts info5
  have hcut0 := cut_to (P := Tryd.prog) 28 5 .i64 Tryd.underlying28 hi0 none 0 0 0 (by omega) (by omega) (Nat.le_refl _)
  simp only [Int.toNat_zero] at hcut0
  go_enter Tryd.func48, Tryd.ntmps48
  go_wp2_with (first
   | ((with_reducible refine gate_builtin (b := .append) (xs := #[.tmp 20, .tmp 21]) rfl ?_); refine Kd.R_append_zeros (Kd.int .u8) (w0 := w) w.heap.size rfl (.tmp 20) (.tmp 21) 28 3 5 (.int .u8 0) 1 rfl Tryd.underlying28 Tryd.underlying3 info5 rfl (by decide) (by omega) (.slice none 0 0) ([] : List Int) 0 (n : Int) (fun _ => True) rfl rfl rfl (fun _ _ => trivial) slices_Concat_byte_byte.grown0 (by omega) HB.out (Nat.le_refl _) (by have := LM.out; simp; omega) ?_; intro v1 w1 ho hb hg hat; clear hg hat; obtain ⟨Ao, co, eo⟩ := Kd.R_slice ho; subst eo; have hcut1 := cut_to (P := Tryd.prog) 28 5 .i64 Tryd.underlying28 hi0 Ao _ co 0 (by omega) (by omega) (Kd.R_reads' ho).2.1; simp only [Int.toNat_zero] at hcut1; have HO := Aside0.mk ho; clear HB; have HB := Aside0.mk hb; clear ho hb))
  go_ret
  exact ⟨_, rfl, by simpa using Kd.R_take HO.out (m := 0) (Nat.zero_le _), HB.out⟩
 ·obtain rfl : n = 0 := by omega
  go_enter Tryd.func48, Tryd.ntmps48
  go_wp2
  go_ret
  exact ⟨_, rfl, slices_Concat_byte_byte.grown0, HB.out⟩
set_option maxHeartbeats 8000000 in
set_option maxRecDepth 100000 in
theorem slices_Concat_byte_byte.core (A0 : Option Addr) (c0 : Nat) (l0 : List Int) (A1 : Option Addr) (c1 : Nat) (l1 : List Int) (A2 : Option Addr) (c2 : Nat) (l2 : List Int) (w : World) (hr0 : Kd.C (Kd.int .u8) w A0 l0.length l0) (hr1 : Kd.C (Kd.int .u8) w A1 l1.length l1) (hr2 : Kd.C (Kd.int .u8) w A2 l2.length l2)
  (hl : l0.length + l1.length + l2.length < 1099511627776) (g : Nat) (hg : w.heap[g]? = some (.cells #[.slice A0 l0.length c0, .slice A1 l1.length c1, .slice A2 l2.length c2] 28 (0, 0))) :
  Calls Tryd.prog 34 #[.slice (some ⟨g, 0, none⟩) 3 3] w fun e w' => ∃ v0_ : Value, e = .returned (v0_) ∧ Kd.R (Kd.int .u8) 5 w' w.heap.size (fun _ => True) v0_ (l0 ++ l1 ++ l2) ∧ Below w.heap.size w w' := by
 have LM := Aside0.mk hl
 have HR0 := Aside0.mk hr0
 have HR1 := Aside0.mk hr1
 have HR2 := Aside0.mk hr2
 have HG := Aside0.mk hg
 have HGR := Aside0.mk (slices_Concat_byte_byte.grow (l0.length + l1.length + l2.length))
 have wz : IntKind.i64.wrap 0 = 0 := by rw [IntKind.wrap_i64]; omega
 have wn0 : IntKind.i64.wrap (0 + (l0.length : Int)) = ((l0.length : Nat) : Int) := by rw [IntKind.wrap_i64]; omega
 have wn0' : IntKind.i64.wrap ((l0.length : Int)) = ((l0.length : Nat) : Int) := by rw [IntKind.wrap_i64]; omega
 have wn1 : IntKind.i64.wrap ((l0.length : Int) + (l1.length : Int)) = ((l0.length + l1.length : Nat) : Int) := by rw [IntKind.wrap_i64]; omega
 have wn2 : IntKind.i64.wrap (((l0.length + l1.length : Nat) : Int) + (l2.length : Int)) = ((l0.length + l1.length + l2.length : Nat) : Int) := by rw [IntKind.wrap_i64]; omega
 have hc0 : w.cell? ⟨g, 0, none⟩ = some (.slice A0 l0.length c0) := (blk_cell hg 0).trans rfl
 have hc1 : w.cell? ⟨g, 1, none⟩ = some (.slice A1 l1.length c1) := (blk_cell hg 1).trans rfl
 have hc2 : w.cell? ⟨g, 2, none⟩ = some (.slice A2 l2.length c2) := (blk_cell hg 2).trans rfl
 have s0 : decide (((l0.length : Nat) : Int) < 0) = false := decide_eq_false (by omega)
 have s1 : decide (((l0.length + l1.length : Nat) : Int) < 0) = false := decide_eq_false (by omega)
 have s2 : decide (((l0.length + l1.length + l2.length : Nat) : Int) < 0) = false := decide_eq_false (by omega)
 have hmx : l0.length + l1.length + l2.length ≤ 1099511627776 := by omega
 clear hr0 hr1 hr2 hl hg
 obtain ⟨S1, hS1⟩ : ∃ S : Nat, S = l0.length + l1.length := ⟨_, rfl⟩
 obtain ⟨S2, hS2⟩ : ∃ S : Nat, S = l0.length + l1.length + l2.length := ⟨_, rfl⟩
 rw [← hS2] at wn2 s2 hmx HGR
 rw [← hS1] at wn1 wn2 s1
 clear hS1
 have HMX := Aside0.mk hmx
 have HS2 := Aside0.mk hS2
 clear hmx hS2
 go_enter Tryd.func34, Tryd.ntmps34
 go_wp2
 go_loopg [3, 11] 4 (fun gg s3 s11 wr => ∃ q : Nat, wr = w.drewN q ∧ ((3 ≤ gg ∧ s11 = .int .i64 0 ∧ s3 = .int .i64 0) ∨ (2 ≤ gg ∧ s11 = .int .i64 1 ∧ s3 = .int .i64 (l0.length : Int)) ∨ (1 ≤ gg ∧ s11 = .int .i64 2 ∧ s3 = .int .i64 (S1 : Int)) ∨ (s11 = .int .i64 3 ∧ s3 = .int .i64 (S2 : Int))))
 case atStart => exact ⟨0, rfl, .inl ⟨by omega, rfl, rfl⟩⟩
 case round =>
  obtain ⟨q, rfl, h | h | h | h⟩ := hrel
  ·obtain ⟨hgk, rfl, rfl⟩ := h
   go_wp2
   go_roundg 2
   case measure => omega
   case rel => exact ⟨_, rfl, .inr (.inl ⟨by omega, rfl, rfl⟩)⟩
  ·obtain ⟨hgk, rfl, rfl⟩ := h
   go_wp2
   go_roundg 1
   case measure => omega
   case rel => exact ⟨_, rfl, .inr (.inr (.inl ⟨by omega, rfl, rfl⟩))⟩
  ·obtain ⟨hgk, rfl, rfl⟩ := h
   go_wp2
   go_roundg 0
   case measure => omega
   case rel => exact ⟨_, rfl, .inr (.inr (.inr ⟨rfl, rfl⟩))⟩
  ·obtain ⟨rfl, rfl⟩ := h
   have HB := Aside0.mk (pw_below_drewN (Below.refl w.heap.size w) q)
   go_wp2_with (first
    | ((with_reducible refine gate_callee (f := 48) rfl ?_); refine hkGo (N := some 24) Tryd.func48 #[.slice none 0 0, .int .i64 (S2 : Int)] ?_; (with_reducible refine (HGR.out _ HMX.out).mono ?_); rintro e w1 ⟨v1, rfl, ho0, hb⟩; refine ⟨_, rfl, ?_⟩; have n_ := hkA (Aside0.mk (show Below w.heap.size w w1 from HB.out.trans hb)) (Aside0.mk (show Kd.R (Kd.int .u8) 5 w1 w.heap.size (fun _ => True) v1 [] from ho0)); clear HB ho0 hb; obtain ⟨HB, HO⟩ := n_))
   go_loopg [6, 27] 4 (fun gg s6 s27 wr => Aside0 (Below w.heap.size w wr) ∧ ((3 ≤ gg ∧ s27 = .int .i64 0 ∧ Aside0 (Kd.R (Kd.int .u8) 5 wr w.heap.size (fun _ => True) s6 ([] : List Int))) ∨ (2 ≤ gg ∧ s27 = .int .i64 1 ∧ Aside0 (Kd.R (Kd.int .u8) 5 wr w.heap.size (fun _ => True) s6 l0)) ∨ (1 ≤ gg ∧ s27 = .int .i64 2 ∧ Aside0 (Kd.R (Kd.int .u8) 5 wr w.heap.size (fun _ => True) s6 (l0 ++ l1))) ∨ (s27 = .int .i64 3 ∧ Aside0 (Kd.R (Kd.int .u8) 5 wr w.heap.size (fun _ => True) s6 (l0 ++ l1 ++ l2)))))
   case atStart => exact ⟨HB, .inl ⟨by omega, rfl, HO⟩⟩
   case round =>
    clear HB HO
    obtain ⟨HB, h | h | h | h⟩ := hrel
    ·obtain ⟨hgk, rfl, HO⟩ := h
     have hcw := pw_cell_below HB.out hc0
     clear hc0 hc1 hc2
     go_wp2_with (first
     | ((with_reducible refine gate_builtin (b := .append) (xs := #[.tmp 31, .tmp 32]) rfl ?_); at_builtin; refine Kd.R_append_rows (Kd.int .u8) (w0 := w) w.heap.size rfl (.tmp 31) (.tmp 32) 28 5 (.int .u8 0) 1 rfl Tryd.underlying28 info5 rfl (by decide) (by omega) _ ([] : List Int) l0 _ _ _ (fun _ => True) (fun _ => False) rfl rfl ?aO ?aR (fun _ _ h => h) (fun _ h => h.elim) ?aF ?aB ?aS ?aL ?_; (case aR => exact Kd.C_below HR0.out HB.out); (case aB => exact HB.out); (case aF => exact (fun _ _ => trivial)); (case aO => exact HO.out); (case aS => exact below_size HB.out); (case aL => have := LM.out; simp; omega); intro v2 w2 ho hb hg hat; clear hg hat; have n_ := hkA (Aside0.mk hb) (Aside0.mk ho); clear HB HO ho hb; obtain ⟨HB, HO⟩ := n_))
     go_roundg 2
     case measure => omega
     case rel => exact ⟨HB, .inr (.inl ⟨by omega, rfl, by simpa using HO⟩)⟩
    ·obtain ⟨hgk, rfl, HO⟩ := h
     have hcw := pw_cell_below HB.out hc1
     clear hc0 hc1 hc2
     go_wp2_with (first
     | ((with_reducible refine gate_builtin (b := .append) (xs := #[.tmp 31, .tmp 32]) rfl ?_); at_builtin; refine Kd.R_append_rows (Kd.int .u8) (w0 := w) w.heap.size rfl (.tmp 31) (.tmp 32) 28 5 (.int .u8 0) 1 rfl Tryd.underlying28 info5 rfl (by decide) (by omega) _ l0 l1 _ _ _ (fun _ => True) (fun _ => False) rfl rfl ?aO ?aR (fun _ _ h => h) (fun _ h => h.elim) ?aF ?aB ?aS ?aL ?_; (case aR => exact Kd.C_below HR1.out HB.out); (case aB => exact HB.out); (case aF => exact (fun _ _ => trivial)); (case aO => exact HO.out); (case aS => exact below_size HB.out); (case aL => have := LM.out; simp; omega); intro v2 w2 ho hb hg hat; clear hg hat; have n_ := hkA (Aside0.mk hb) (Aside0.mk ho); clear HB HO ho hb; obtain ⟨HB, HO⟩ := n_))
     go_roundg 1
     case measure => omega
     case rel => exact ⟨HB, .inr (.inr (.inl ⟨by omega, rfl, HO⟩))⟩
    ·obtain ⟨hgk, rfl, HO⟩ := h
     have hcw := pw_cell_below HB.out hc2
     clear hc0 hc1 hc2
     go_wp2_with (first
     | ((with_reducible refine gate_builtin (b := .append) (xs := #[.tmp 31, .tmp 32]) rfl ?_); at_builtin; refine Kd.R_append_rows (Kd.int .u8) (w0 := w) w.heap.size rfl (.tmp 31) (.tmp 32) 28 5 (.int .u8 0) 1 rfl Tryd.underlying28 info5 rfl (by decide) (by omega) _ (l0 ++ l1) l2 _ _ _ (fun _ => True) (fun _ => False) rfl rfl ?aO ?aR (fun _ _ h => h) (fun _ h => h.elim) ?aF ?aB ?aS ?aL ?_; (case aR => exact Kd.C_below HR2.out HB.out); (case aB => exact HB.out); (case aF => exact (fun _ _ => trivial)); (case aO => exact HO.out); (case aS => exact below_size HB.out); (case aL => have := LM.out; simp; omega); intro v2 w2 ho hb hg hat; clear hg hat; have n_ := hkA (Aside0.mk hb) (Aside0.mk ho); clear HB HO ho hb; obtain ⟨HB, HO⟩ := n_))
     go_roundg 0
     case measure => omega
     case rel => exact ⟨HB, .inr (.inr (.inr ⟨rfl, HO⟩))⟩
    ·obtain ⟨rfl, HO⟩ := h
     go_wp2
     go_ret
     exact ⟨_, rfl, by rw [← List.append_assoc]; exact HO.out, HB.out⟩
theorem slices_Concat_byte_byte.calls (A0 : Option Addr) (c0 : Nat) (l0 : List Int) (A1 : Option Addr) (c1 : Nat) (l1 : List Int) (A2 : Option Addr) (c2 : Nat) (l2 : List Int) (r : List Int) (w : World) (hr0 : Kd.C (Kd.int .u8) w A0 l0.length l0) (hc0 : l0.length ≤ c0) (hr1 : Kd.C (Kd.int .u8) w A1 l1.length l1) (hc1 : l1.length ≤ c1) (hr2 : Kd.C (Kd.int .u8) w A2 l2.length l2) (hc2 : l2.length ≤ c2) (h : slices_Concat_byte_byte.f l0 l1 l2 = some r) (g : Nat) (hg : w.heap[g]? = some (.cells #[.slice A0 l0.length c0, .slice A1 l1.length c1, .slice A2 l2.length c2] 28 (0, 0))) :
  Calls Tryd.prog 34 #[.slice (some ⟨g, 0, none⟩) 3 3] w fun e w' => ∃ v0_ : Value, e = .returned (v0_) ∧ Kd.R (Kd.int .u8) 5 w' w.heap.size (fun _ => True) v0_ r ∧ Below w.heap.size w w' := by
 replace h : (if l0.length + l1.length + l2.length < 1099511627776 then some (l0 ++ l1 ++ l2) else none) = some r := h
 by_cases hb : l0.length + l1.length + l2.length < 1099511627776
 ·rw [if_pos hb] at h
  obtain rfl := Option.some.inj h
  exact slices_Concat_byte_byte.core A0 c0 l0 A1 c1 l1 A2 c2 l2 w hr0 hr1 hr2 hb g hg
 ·rw [if_neg hb] at h
  cases h


/-! ### impl_signedText: function 35 -/
def impl_signedText.f (a0 : Bool) (l1 : List Int) : Option (List Int) := if a0 = true then ((some (([45] : List Int) : List Int)).bind fun y393 => (if y393.length + l1.length < 140737488355328 then (some (y393 ++ l1)) else (none))) else (some l1)
set_option maxHeartbeats 8000000 in
set_option maxRecDepth 100000 in
theorem impl_signedText.calls (a0 : Bool) (P1_ : Nat → Prop) (u9000_ : Value) (l1 : List Int) (r : List Int) (w0 w : World) (hB : Below w0.heap.size w0 w) (ho1 : Kd.R (Kd.int .u8) 5 w w0.heap.size P1_ u9000_ l1) (h : impl_signedText.f a0 l1 = some r) :
  Calls Tryd.prog 35 #[.bool a0, u9000_] w fun e w' => ∃ v0_ : Value, e = .returned (v0_) ∧ Kd.R (Kd.int .u8) 5 w' w0.heap.size (fun k_ => (P1_ k_ ∨ w.heap.size ≤ k_)) v0_ r ∧ Below w0.heap.size w0 w' ∧ Kept w w' (fun k_ => P1_ k_) := by
 have HO1 := Aside0.mk (show Kd.R (Kd.int .u8) 5 w w0.heap.size (fun k_ => (P1_ k_ ∨ w.heap.size ≤ k_)) u9000_ l1 from Kd.R_mono ho1 (fun k_ hk => (.inl hk)))
 have HK := Aside0.mk (Kept.refl w (fun k_ => P1_ k_))
 have HW0 := Aside0.mk hB.size
 have HB := Aside0.mk hB
 clear hB
 have H : (if a0 = true then ((some (([45] : List Int) : List Int)).bind fun y393 => (if y393.length + l1.length < 140737488355328 then (some (y393 ++ l1)) else (none))) else (some l1)) = some r := h
 clear h
 by_cases c3 : a0 = true
 ·subst c3
  have H1 : ((some (([45] : List Int) : List Int)).bind fun y393 => (if y393.length + l1.length < 140737488355328 then (some (y393 ++ l1)) else (none))) = some r := by rw [if_pos rfl] at H; exact H
  clear H
  have H := H1
  clear H1
  obtain ⟨y393, hy393⟩ : ∃ y_ : List Int, y_ = (([45] : List Int)) := ⟨_, rfl⟩
  replace H : (if y393.length + l1.length < 140737488355328 then (some (y393 ++ l1)) else (none)) = some r := by first | (rw [hy393]; with_reducible exact H) | (have H2_ := (Option.bind_some _ _).symm.trans H; rw [hy393]; with_reducible exact H2_) | (have H2_ := (Option.bind_some _ _).symm.trans H; with_reducible exact H2_) | with_reducible exact H | (rw [hy393]; exact H) | exact H
  have Ny393 := Aside0.mk hy393
  clear hy393
  by_cases c4 : y393.length + l1.length < 140737488355328
  ·rw [if_pos c4] at H
   have LMc4 := Aside0.mk c4
   clear c4
   obtain ⟨y396, hy396⟩ : ∃ y_ : List Int, y_ = (y393 ++ l1) := ⟨_, rfl⟩
   replace H : (some y396) = some r := by first | (rw [hy396]; with_reducible exact H) | (have H2_ := (Option.bind_some _ _).symm.trans H; rw [hy396]; with_reducible exact H2_) | (have H2_ := (Option.bind_some _ _).symm.trans H; with_reducible exact H2_) | with_reducible exact H | (rw [hy396]; exact H) | exact H
   have Ny396 := Aside0.mk hy396
   clear hy396
   obtain rfl := Option.some.inj H
   go_enter Tryd.func35, Tryd.ntmps35
   go_wp2_with (first | ((with_reducible refine gate_dst (N := 6) rfl ?_); (first | (refine Kd.R_litmark (Kd.int .u8) _ 5 ?hg (N := 6) ?hd ?hg2 ?t2 ?ho2 ?ht2 ?he2 rfl (xs := ([45] : List Int)) (inner := [.int .u8 45]) (ok := fun _ => True) (okp := fun _ => True) ?hev ?hr ?hp (fun _ hk => hk) trivial (Below.refl _ _) (Nat.le_refl _) (by simp) ?_; (case hd => rfl); (case hg => rfl); (case hg2 => rfl); (case ho2 => rfl); (case ht2 => kernel_rfl); (case he2 => kernel_rfl); (case hev => first | rfl | (go_simp; done) | (go_simp; rfl)); (case hr => first | (go_simp; done) | (go_simp; rfl))) | (refine Kd.R_lit (Kd.int .u8) _ 5 ?hg (N := 6) ?hd (xs := ([45] : List Int)) (inner := [.int .u8 45]) (ok := fun _ => True) (okp := fun _ => True) ?hr ?hp (fun _ hk => hk) trivial (Below.refl _ _) (Nat.le_refl _) (by simp) ?_; (case hd => rfl); (case hg => rfl); (case hr => first | (go_simp; done) | (go_simp; rfl)))); (case hp => exact (Reps.one (show Kd.M (Kd.int .u8) _ _ _ 45 [.int .u8 45] from rfl) (Reps.none _ _))); intro v394 w5 ho6 hb hg_ hnew_; clear hg_ hnew_; (first | rw [← Ny393.out] at ho6 | (simp only [Int.reduceToNat] at ho6; rw [← Ny393.out] at ho6) | (simp only [Int.toNat_zero, List.replicate_zero] at ho6; rw [← Ny393.out] at ho6)); have n_ := hkA (Aside0.mk (Kd.R_elder' (hkR HO1) (Kd.R_base ho6) hb)) (hkA (Aside0.mk (Kd.R_lower (Kd.R_new' (Kd.R_newM (M := fun k_ => (P1_ k_ ∨ w.heap.size ≤ k_)) ho6 (by first | exact HK.out.1 | exact (show Kept w _ (fun k_ => P1_ k_) from by repeat (first | (with_reducible first | exact HK.out | apply Kept.alloc | apply Kept.drewN | apply Kept.drew) | exact HK.out)).1) (fun k_ h_ => .inr h_)) (Kd.R_lt (hkR HO1))) (below_size (hkS HB)))) (hkA (Aside0.mk (Kept.below (S := (fun k_ => P1_ k_)) (by repeat (first | (with_reducible first | exact HK.out | apply Kept.alloc | apply Kept.drewN | apply Kept.drew) | exact HK.out)) hb)) (hkU HB hb))); clear HO1 HK HB; obtain ⟨HO1, HO395, HK, HB⟩ := n_; clear hb ho6; obtain ⟨Ao8, co8, eo8⟩ := Kd.R_slice HO1.out; subst eo8) | ((with_reducible refine gate_builtin (b := .append) (xs := #[.tmp 7, .tmp 8]) rfl ?_); at_builtin; refine Kd.R_append_rows (Kd.int .u8) (w0 := w0) w0.heap.size rfl (.tmp 7) (.tmp 8) 28 5 (.int .u8 0) 1 rfl Tryd.underlying28 info5 rfl (by decide) (by omega) v394 y393 l1 _ _ _ (fun k_ => (P1_ k_ ∨ w.heap.size ≤ k_) ∧ some k_ ≠ (.slice Ao8 l1.length co8 : Value).ownBlock) (fun _ => False) rfl rfl ?aO ?aR (fun _ _ h => h) (fun _ h => h.elim) ?aF ?aB ?aS ?aL ?_; (case aR => exact hkC ((Kd.R_reads' HO1.out).2.2)); (case aB => exact (hkS HB)); (case aF => exact (fun k_ hk => ⟨(.inr (Nat.le_trans (by first | exact HK.out.1 | exact (show Kept w _ (fun k_ => P1_ k_) from by repeat (first | (with_reducible first | exact HK.out | apply Kept.alloc | apply Kept.drewN | apply Kept.drew) | exact HK.out)).1) hk)), Kd.fresh' (Kd.R_lt (hkR HO1)) k_ hk⟩)); (case aO => exact (by (with_reducible repeat (first | apply Kd.R_alloc | apply Kd.R_drewN | apply Kd.R_drew)); exact Kd.R_mono HO395.out (fun _ hk => ⟨hk.1.1, hk.2⟩))); (case aS => exact (below_size (hkS HB))); (case aL => have := LMc4.out; omega); intro v397 w7 ho hb hg hat; rw [← Ny396.out] at ho; have n_ := hkA (Aside0.mk (Kd.R_after (ok := (fun k_ => (P1_ k_ ∨ w.heap.size ≤ k_))) (hkR HO1) hg hat)) (hkA (Aside0.mk (hb)) (hkA (Aside0.mk (Kept.of_grown (S := (fun k_ => P1_ k_)) hg (by repeat (first | (with_reducible first | exact HK.out | apply Kept.alloc | apply Kept.drewN | apply Kept.drew) | exact HK.out)) (fun k_ e_ => (HO395.out.1 k_ e_).1.1))) (Aside0.mk (ho)))); clear HO1 HB HK HO395; obtain ⟨HO1, HB, HK, HO398⟩ := n_; clear ho hb hg hat))
   go_ret
   exact ⟨_, hkE, by (with_reducible repeat (first | apply Kd.R_alloc | apply Kd.R_drewN | apply Kd.R_drew)); exact Kd.R_mono HO398.out (fun _ hk => hk.1), hkS HB, by repeat (first | (with_reducible first | exact HK.out | apply Kept.alloc | apply Kept.drewN | apply Kept.drew) | exact HK.out)⟩
  ·rw [if_neg c4] at H
   exact absurd H (by simp)
 ·replace c3 := Bool.eq_false_iff.mpr c3
  subst c3
  have H1 : (some l1) = some r := by rw [if_neg (show ¬ (false = true) by decide)] at H; exact H
  clear H
  have H := H1
  clear H1
  obtain rfl := Option.some.inj H
  go_enter Tryd.func35, Tryd.ntmps35
  go_wp2
  go_ret
  exact ⟨_, hkE, by (with_reducible repeat (first | apply Kd.R_alloc | apply Kd.R_drewN | apply Kd.R_drew)); exact HO1.out, hkS HB, by repeat (first | (with_reducible first | exact HK.out | apply Kept.alloc | apply Kept.drewN | apply Kept.drew) | exact HK.out)⟩

end Go.Proofs.YthmieecgojiliaaDoor.PFnExactDecText
