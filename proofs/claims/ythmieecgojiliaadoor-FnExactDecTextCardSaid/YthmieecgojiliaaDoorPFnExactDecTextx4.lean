-- Written by our own driver (wip/hand/hprint.py) over the seat's translation.
import Derived.Test.YthmieecgojiliaaDoorPFnExactDecTextx0
import Derived.Test.YthmieecgojiliaaDoorPFnExactDecTextx2
namespace Go.Proofs.YthmieecgojiliaaDoor.PFnExactDecText
open Go.RowKit Go.Proofs.YthmieecgojiliaaDoorW.PrintWords Go.Proofs.YthmieecgojiliaaDoorW.PrintLast Go.Proofs.YthmieecgojiliaaDoorW.PrintMore
attribute [local go_sem] max2_int min2_int max_two min_two max_three min_three max_four min_four   -- for this text's walks alone
set_option linter.unusedVariables false
set_option linter.unusedSimpArgs false

/-! ### spec_l2text: function 24 -/
mutual
def spec_l2text.l0 : Nat → List Int → List Int → Option (List Int)
 | 0, _, _ => none
 | k + 1, x3, x143000 => if (x143000.length : Int) > 0 then ((spec_l2small.f k x143000 10).bind fun bt146 => (if x3.length < 140737488355328 then (spec_l2text.l0 k (x3 ++ [(wrap64 (48 + bt146.2)) % 256]) bt146.1) else (none))) else (spec_l2text.l1 k x3 ([] : List Int) (wrap64 ((x3.length : Int) - 1)))
def spec_l2text.l1 : Nat → List Int → List Int → Int → Option (List Int)
 | 0, _, _, _ => none
 | k + 1, x3, x6, x7 => if x7 ≥ 0 then (if 0 ≤ x7 then (if x7 < (x3.length : Int) then (if x6.length < 140737488355328 then (spec_l2text.l1 k x3 (x6 ++ [rd x3 x7]) (wrap64 (x7 - 1))) else (none)) else (none)) else (none)) else (some x6)
end
def spec_l2text.f (k : Nat) (l0_0 : List Int) : Option (List Int) := if (l0_0.length : Int) = 0 then (some (([48] : List Int))) else (spec_l2text.l0 k ([] : List Int) l0_0)
theorem spec_l2text.mono_l : ∀ k, (∀ y0 y1, LeO (spec_l2text.l0 k y0 y1) (spec_l2text.l0 (k + 1) y0 y1)) ∧ (∀ y0 y1 y2, LeO (spec_l2text.l1 k y0 y1 y2) (spec_l2text.l1 (k + 1) y0 y1 y2))
 | 0 => ⟨fun _ _ r h => by simp [spec_l2text.l0] at h, fun _ _ _ r h => by simp [spec_l2text.l1] at h⟩
 | k + 1 => by
  obtain ⟨ih0, ih1⟩ := spec_l2text.mono_l k
  refine ⟨?_, ?_⟩
  ·intro y0 y1
   unfold spec_l2text.l0
   repeat' first
   | (with_reducible exact ih0 _ _)
   | (with_reducible exact ih1 _ _ _)
   | (with_reducible exact spec_l2small.mono _ _ _)
   | (with_reducible exact LeO.refl _)
   | (with_reducible exact LeO.none _)
   | (with_reducible refine LeO.ite ?_ ?_)
   | (with_reducible refine LeO.bind ?_ (fun _ => ?_))
   | exact ih0 _ _
   | exact ih1 _ _ _
   | exact spec_l2small.mono _ _ _
   | exact LeO.none _
   | refine LeO.ite ?_ ?_
   | refine LeO.bind ?_ (fun _ => ?_)
  ·intro y0 y1 y2
   unfold spec_l2text.l1
   repeat' first
   | (with_reducible exact ih0 _ _)
   | (with_reducible exact ih1 _ _ _)
   | (with_reducible exact spec_l2small.mono _ _ _)
   | (with_reducible exact LeO.refl _)
   | (with_reducible exact LeO.none _)
   | (with_reducible refine LeO.ite ?_ ?_)
   | (with_reducible refine LeO.bind ?_ (fun _ => ?_))
   | exact ih0 _ _
   | exact ih1 _ _ _
   | exact spec_l2small.mono _ _ _
   | exact LeO.none _
   | refine LeO.ite ?_ ?_
   | refine LeO.bind ?_ (fun _ => ?_)
theorem spec_l2text.mono : ∀ a0 k, LeO (spec_l2text.f k a0) (spec_l2text.f (k + 1) a0) := by
 intro a0 k
 obtain ⟨ih0, ih1⟩ := spec_l2text.mono_l k
 unfold spec_l2text.f
 repeat' first
   | (with_reducible exact ih0 _ _)
   | (with_reducible exact ih1 _ _ _)
   | (with_reducible exact spec_l2small.mono _ _ _)
   | (with_reducible exact LeO.refl _)
   | (with_reducible exact LeO.none _)
   | (with_reducible refine LeO.ite ?_ ?_)
   | (with_reducible refine LeO.bind ?_ (fun _ => ?_))
   | exact ih0 _ _
   | exact ih1 _ _ _
   | exact spec_l2small.mono _ _ _
   | exact LeO.none _
   | refine LeO.ite ?_ ?_
   | refine LeO.bind ?_ (fun _ => ?_)
set_option maxHeartbeats 8000000 in
set_option maxRecDepth 100000 in
theorem spec_l2text.calls (k : Nat) (P0_0_ : Nat → Prop) (A0_0 : Option Addr) (c0_0 : Nat) (l0_0 : List Int) (r : List Int) (w : World) (hs0_0 : Kd.V (Kd.int .i64) 3 w w.heap.size (fun k_ => P0_0_ k_) (.slice A0_0 l0_0.length c0_0) l0_0) (h : spec_l2text.f k l0_0 = some r) :
  Calls Tryd.prog 24 #[.agg #[.slice A0_0 l0_0.length c0_0]] w fun e w' => ∃ v0_ : Value, e = .returned (v0_) ∧ Kd.R (Kd.int .u8) 5 w' w.heap.size (fun k_ => (w.heap.size ≤ k_)) v0_ r ∧ Below w.heap.size w w' := by
 have hu30 := Tryd.underlying30
 have HO0_0 := Aside0.mk (show Kd.V (Kd.int .i64) 3 w w.heap.size (fun k_ => (P0_0_ k_ ∨ w.heap.size ≤ k_)) (.slice A0_0 l0_0.length c0_0) l0_0 from Kd.V_mono hs0_0 (fun k_ hk => .inl hk))
 have HB := Aside0.mk (Below.refl w.heap.size w)
 have H : (if (l0_0.length : Int) = 0 then (some (([48] : List Int))) else (spec_l2text.l0 k ([] : List Int) l0_0)) = some r := h
 clear h
 by_cases c2 : (l0_0.length : Int) = 0
 ·rw [if_pos c2] at H
  have c2b0 : ((l0_0.length : Int) == 0) = true := beq_iff_eq.mpr c2
  have c2b1 : ((l0_0.length : Int) != 0) = false := bne_eq_false_iff_eq.mpr c2
  clear c2
  obtain ⟨y143, hy143⟩ : ∃ y_ : List Int, y_ = (([48] : List Int)) := ⟨_, rfl⟩
  replace H : (some y143) = some r := by first | (rw [hy143]; with_reducible exact H) | (have H2_ := (Option.bind_some _ _).symm.trans H; rw [hy143]; with_reducible exact H2_) | (have H2_ := (Option.bind_some _ _).symm.trans H; with_reducible exact H2_) | with_reducible exact H | (rw [hy143]; exact H) | exact H
  have Ny143 := Aside0.mk hy143
  clear hy143
  obtain rfl := Option.some.inj H
  go_enter Tryd.func24, Tryd.ntmps24
  go_wp2_with (first | ((with_reducible refine gate_dst (N := 1) rfl ?_); refine hkBox (N := 1) (cs := #[.slice A0_0 l0_0.length c0_0]) (t := 30) ?_; intro gb142 hg w3 hbox hb; have n_ := hkA (Aside0.mk (Kd.V_below (Kd.V_elderB (by (with_reducible repeat (first | apply Kd.V_alloc | apply Kd.V_drewN | apply Kd.V_drew)); exact HO0_0.out) gb142 (Nat.le_of_eq hg.symm)) hb)) (hkA (hkU HB hb) (hkA (Aside0.mk (hbox)) (hkA (hkG hg (hkS HB)) (hkG hg (hkS HB))))); clear HO0_0 HB; obtain ⟨HO0_0, HB, BK142, GW142, GE142⟩ := n_; clear hb hbox hg; obtain ⟨hcz4_0, hfz4_0⟩ := hkc1 BK142) | ((with_reducible refine gate_dst (N := 12) rfl ?_); (first | (refine Kd.R_litmark (Kd.int .u8) _ 5 ?hg (N := 12) ?hd ?hg2 ?t2 ?ho2 ?ht2 ?he2 rfl (xs := ([48] : List Int)) (inner := [.int .u8 48]) (ok := fun _ => True) (okp := fun _ => True) ?hev ?hr ?hp (fun _ hk => hk) trivial (Below.refl _ _) (Nat.le_refl _) (by simp) ?_; (case hd => rfl); (case hg => rfl); (case hg2 => rfl); (case ho2 => rfl); (case ht2 => kernel_rfl); (case he2 => kernel_rfl); (case hev => first | rfl | (go_simp; done) | (go_simp; rfl)); (case hr => first | (go_simp; done) | (go_simp; rfl))) | (refine Kd.R_lit (Kd.int .u8) _ 5 ?hg (N := 12) ?hd (xs := ([48] : List Int)) (inner := [.int .u8 48]) (ok := fun _ => True) (okp := fun _ => True) ?hr ?hp (fun _ hk => hk) trivial (Below.refl _ _) (Nat.le_refl _) (by simp) ?_; (case hd => rfl); (case hg => rfl); (case hr => first | (go_simp; done) | (go_simp; rfl)))); (case hp => exact (Reps.one (show Kd.M (Kd.int .u8) _ _ _ 48 [.int .u8 48] from rfl) (Reps.none _ _))); intro v144 w5 ho6 hb hg_ hnew_; clear hg_ hnew_; (first | rw [← Ny143.out] at ho6 | (simp only [Int.reduceToNat] at ho6; rw [← Ny143.out] at ho6) | (simp only [Int.toNat_zero, List.replicate_zero] at ho6; rw [← Ny143.out] at ho6)); have n_ := hkA (Aside0.mk (Kd.V_elder' (by (with_reducible repeat (first | apply Kd.V_alloc | apply Kd.V_drewN | apply Kd.V_drew)); exact HO0_0.out) (Kd.R_base ho6) hb)) (hkA (Aside0.mk (Kd.R_lower (Kd.R_newM (M := fun k_ => (w.heap.size ≤ k_)) ho6 (below_size (hkS HB)) (fun k_ h_ => h_)) (below_size (hkS HB)))) (hkA (hkBb BK142 hb) (hkU HB hb))); clear HO0_0 BK142 HB; obtain ⟨HO0_0, HO145, BK142, HB⟩ := n_; clear hb ho6))
  go_ret
  exact ⟨_, hkE, by (with_reducible repeat (first | apply Kd.R_alloc | apply Kd.R_drewN | apply Kd.R_drew)); exact Kd.R_mono HO145.out (fun _ hk => hk.1), hkS HB⟩
 ·rw [if_neg c2] at H
  have c2b0 : ((l0_0.length : Int) == 0) = false := beq_eq_false_iff_ne.mpr c2
  have c2b1 : ((l0_0.length : Int) != 0) = true := bne_iff_ne.mpr c2
  have c2b2 : ¬ (l0_0 = []) := fun h_ => c2 (by rw [h_]; rfl)
  have H' := Aside0.mk H
  clear H
  go_enter Tryd.func24, Tryd.ntmps24
  go_wp2_with (first | ((with_reducible refine gate_dst (N := 1) rfl ?_); refine hkBox (N := 1) (cs := #[.slice A0_0 l0_0.length c0_0]) (t := 30) ?_; intro gb142 hg w7 hbox hb; have n_ := hkA (Aside0.mk (Kd.V_below (Kd.V_elderB (by (with_reducible repeat (first | apply Kd.V_alloc | apply Kd.V_drewN | apply Kd.V_drew)); exact HO0_0.out) gb142 (Nat.le_of_eq hg.symm)) hb)) (hkA (hkU HB hb) (hkA (Aside0.mk (hbox)) (hkA (hkG hg (hkS HB)) (hkG hg (hkS HB))))); clear HO0_0 HB; obtain ⟨HO0_0, HB, BK142, GW142, GE142⟩ := n_; clear hb hbox hg; obtain ⟨hcz8_0, hfz8_0⟩ := hkc1 BK142))
  go_loopg [3] k (fun kq v3 w' => ∃ (x3_1 : List Int) (x143000_1 : List Int) (u143000 : Value), Aside0 (spec_l2text.l0 kq x3_1 x143000_1 = some r) ∧ Aside0 (kq ≤ k) ∧ Aside0 (Kd.R (Kd.int .u8) 5 w' w.heap.size (fun k_ => (w.heap.size ≤ k_)) v3 x3_1) ∧ Aside0 (Kd.V (Kd.int .i64) 3 w' w.heap.size (fun k_ => (P0_0_ k_ ∨ w.heap.size ≤ k_) ∧ some k_ ≠ (v3 : Value).ownBlock ∧ k_ ≠ gb142) u143000 x143000_1) ∧ Aside0 (w'.heap[gb142]? = some (.cells #[u143000] 30 (0, 0))) ∧ Aside0 (Below w.heap.size w w'))
  case atStart => exact ⟨(([] : List Int)), (l0_0), (.slice A0_0 l0_0.length c0_0), H', ⟨Nat.le_refl _⟩, ⟨by first | exact Kd.R_nil _ _ _ _ _ | exact Kd.N_nil _ _ _ _ _ | exact Kd.V_nil _ _ _ _ _ | exact Kd.Q_nil _ _ _ _ _ | exact Kd.S_nil _ _ _ _ _⟩, ⟨by (with_reducible repeat (first | apply Kd.V_alloc | apply Kd.V_drewN | apply Kd.V_drew)); exact Kd.V_mono HO0_0.out (fun _ hk => ⟨hk.1, ⟨(by simp [Value.ownBlock]), hk.2⟩⟩)⟩, ⟨by refine hkz ?_; exact BK142.out⟩, ⟨hkS HB⟩⟩
  case round =>
   clear H'
   try clear c2
   try clear c2b0
   try clear c2b1
   try clear c2b2
   try clear p2
   try clear hcz4_0 hcz8_0 hfz4_0 hfz8_0
   obtain ⟨x3_1, x143000_1, u143000, HA, HK1, HO_3, HO_143000, BK142, HB⟩ := hrel
   cases gk with
   | zero => exact absurd HA.out (by simp [spec_l2text.l0])
   | succ k1 =>
    have H := HA.out
    clear HA
    simp only [spec_l2text.l0] at H
    by_cases c9 : (x143000_1.length : Int) > 0
    ·rw [if_pos c9] at H
     have c9b0 : decide (0 < (x143000_1.length : Int)) = true := decide_eq_true c9
     have c9b1 : decide (0 < x143000_1.length) = true := decide_eq_true (by omega)
     clear c9
     replace H := hBi H
     obtain ⟨⟨t146, t149⟩, A100, H⟩ := H
     replace H : (if x3_1.length < 140737488355328 then (spec_l2text.l0 k1 (x3_1 ++ [(wrap64 (48 + t149)) % 256]) t146) else (none)) = some r := H
     have A10 := Aside0.mk A100
     clear A100
     by_cases c11 : x3_1.length < 140737488355328
     ·rw [if_pos c11] at H
      have LMc11 := Aside0.mk c11
      clear c11
      obtain ⟨y151, hy151⟩ : ∃ y_ : List Int, y_ = (x3_1 ++ [(wrap64 (48 + t149)) % 256]) := ⟨_, rfl⟩
      replace H : (spec_l2text.l0 k1 y151 t146) = some r := by first | (rw [hy151]; with_reducible exact H) | (have H2_ := (Option.bind_some _ _).symm.trans H; rw [hy151]; with_reducible exact H2_) | (have H2_ := (Option.bind_some _ _).symm.trans H; with_reducible exact H2_) | with_reducible exact H | (rw [hy151]; exact H) | exact H
      have Ny151 := Aside0.mk hy151
      clear hy151
      have H' := Aside0.mk H
      clear H
      obtain ⟨hcz12_0, hfz12_0⟩ := hkc1 BK142
      obtain ⟨Ao13, co13, eo13⟩ := Kd.V_slice HO_143000.out
      subst eo13
      go_wp2_with (first | ((with_reducible refine gate_callee (f := 23) rfl ?_); refine hkGo (N := some 20) Tryd.func23 #[.agg #[.slice Ao13 x143000_1.length co13], .int .i64 10] ?_; (with_reducible refine (spec_l2small.calls k1 _ _ x143000_1 10 t146 t149 _ ?side1 ?side2 A10.out).mono ?_); (case side1 => exact hkC ((Kd.V_reads' HO_143000.out).2.2)); (case side2 => exact (Kd.V_reads' HO_143000.out).2.1); rintro e w14 ⟨v147, rfl, ho0, hb⟩; refine ⟨_, rfl, ?_⟩; have n_ := hkA (hkRb HO_3 hb) (hkA (Aside0.mk (Kd.V_elder' (by (with_reducible repeat (first | apply Kd.V_alloc | apply Kd.V_drewN | apply Kd.V_drew)); exact HO_143000.out) (Kd.R_base ho0) hb)) (hkA (Aside0.mk (Kd.R_lower (Kd.R_newM (M := fun k_ => (w.heap.size ≤ k_)) ho0 (below_size (hkS HB)) (fun k_ h_ => h_)) (below_size (hkS HB)))) (hkA (hkBb BK142 hb) (hkU HB hb)))); clear HO_3 HO_143000 BK142 HB; obtain ⟨HO_3, HO_143000, HO148, BK142, HB⟩ := n_; (try clear hb); (try clear hk); (try clear ho0)) | ((with_reducible refine gate_dst (N := 4) rfl ?_); refine hkBox (N := 4) (cs := #[.slice none 0 0]) (t := 30) ?_; intro gb150 hg w15 hbox hb; have n_ := hkA (hkRb HO_3 hb) (hkA (Aside0.mk (Kd.V_below (Kd.V_elderB (by (with_reducible repeat (first | apply Kd.V_alloc | apply Kd.V_drewN | apply Kd.V_drew)); exact HO_143000.out) gb150 (Nat.le_of_eq hg.symm)) hb)) (hkA (hkRb HO148 hb) (hkA (hkBb BK142 hb) (hkA (hkU HB hb) (hkA (Aside0.mk (hbox)) (hkA (hkG hg (hkS HB)) (hkA (hkG hg (hkS HB)) (hkA (hkN hg BK142) (hkM hg BK142))))))))); clear HO_3 HO_143000 HO148 BK142 HB; obtain ⟨HO_3, HO_143000, HO148, BK142, HB, BK150, GW150, GE150, NB142_150, NB150_142⟩ := n_; clear hb hbox hg; obtain ⟨Ao16, co16, eo16⟩ := Kd.R_slice HO148.out; subst eo16; have hnb17 := NB150_142.out; have hnc17 := NB142_150.out; obtain ⟨hcz18_0, hfz18_0⟩ := hkc1 BK150) | ((with_reducible refine gate_builtin (b := .append) (xs := #[.tmp 23, .tmp 27]) rfl ?_); at_builtin; refine Kd.R_append (Kd.int .u8) (w0 := w) w.heap.size rfl (.tmp 23) (.tmp 27) 28 5 (.int .u8 0) 1 rfl Tryd.underlying28 info5 rfl (by decide) (by omega) u3 x3_1 ((wrap64 (48 + t149)) % 256) [.int .u8 ((wrap64 (48 + t149)) % 256)] (fun k_ => (w.heap.size ≤ k_)) (fun _ => False) rfl (by first | (go_simp; done) | (go_simp; rfl)) ?aP (fun _ hk => hk.elim) ?aF ?aO ?aB ?aS ?aL ?_; (case aP => exact rfl); (case aB => exact (hkS HB)); (case aF => exact (fun k_ hk => (Nat.le_trans (below_size (hkS HB)) hk))); (case aO => exact (by (with_reducible repeat (first | apply Kd.R_alloc | apply Kd.R_drewN | apply Kd.R_drew)); exact Kd.R_mono (Kd.R_far (p := ⟨gb150, 0, none⟩) (Kd.R_types HO_3.out BK150.out (by decide)) (fun _ hk => hk.2) (.slice Ao16 t146.length co16)) (fun _ hk => hk.1))); (case aS => exact (below_size (hkS HB))); (case aL => have := LMc11.out; omega); intro v152 w19 ho hb hg hat; rw [← Ny151.out] at ho; have n_ := hkA (Aside0.mk (Kd.V_afterv (ok := (fun k_ => (P0_0_ k_ ∨ w.heap.size ≤ k_) ∧ some k_ ≠ (.slice Ao16 t146.length co16 : Value).ownBlock ∧ k_ ≠ gb142 ∧ k_ ≠ gb150)) (by (with_reducible repeat (first | apply Kd.V_alloc | apply Kd.V_drewN | apply Kd.V_drew)); exact Kd.V_mono (Kd.V_far (p := ⟨gb150, 0, none⟩) (Kd.V_mono HO_143000.out (fun k_ hk => (⟨hk, hk.2⟩ : _ ∧ k_ ≠ gb150))) (fun _ hk => hk.2) (.slice Ao16 t146.length co16)) (fun _ hk => ⟨⟨hk.1.1.1.1, ⟨hk.1.1.2, ⟨hk.1.1.1.2.2, hk.1.2⟩⟩⟩, hk.1.1.1.2.1⟩)) hg hat)) (hkA (Aside0.mk (blk_grown (g := gb142) (o := .cells #[.slice Ao13 x143000_1.length co13] 30 (0, 0)) hkPp hg (Kd.R_ne HO_3.out BK142.out (by decide)))) (hkA (Aside0.mk (Kd.R_over' (by (with_reducible repeat (first | apply Kd.R_alloc | apply Kd.R_drewN | apply Kd.R_drew)); exact (Kd.R_mono (Kd.R_far (p := ⟨gb150, 0, none⟩) (Kd.R_types HO148.out BK150.out (by decide)) (fun _ hk => hk.2) (.slice Ao16 t146.length co16)) (fun _ h_ => h_.1))) (Kd.R_typed (by (with_reducible repeat (first | apply Kd.R_alloc | apply Kd.R_drewN | apply Kd.R_drew)); exact (Kd.R_mono (Kd.R_far (p := ⟨gb150, 0, none⟩) (Kd.R_types HO_3.out BK150.out (by decide)) (fun _ hk => hk.2) (.slice Ao16 t146.length co16)) (fun _ h_ => h_.1)))) (by decide) hg)) (hkA (Aside0.mk (blk_grown (g := gb150) (o := .cells #[.slice Ao16 t146.length co16] 30 (0, 0)) hkPp hg (Kd.R_ne HO_3.out BK150.out (by decide)))) (hkA (Aside0.mk (hb)) (Aside0.mk (ho)))))); clear HO_143000 BK142 HO148 BK150 HB HO_3; obtain ⟨HO_143000, BK142, HO148, BK150, HB, HO153⟩ := n_; clear ho hb hg hat; obtain ⟨hcz20_0, hfz20_0⟩ := hkc1 BK150; obtain ⟨hcz21_0, hfz21_0⟩ := hkc1 BK142))
      go_roundg k1
      case measure => have := HK1.out; omega
      case rel => exact ⟨(y151), (t146), (.slice Ao16 t146.length co16), H', ⟨by have := HK1.out; omega⟩, ⟨by (with_reducible repeat (first | apply Kd.R_alloc | apply Kd.R_drewN | apply Kd.R_drew)); exact Kd.R_mono (Kd.R_far (p := ⟨gb142, 0, none⟩) (Kd.R_types HO153.out BK142.out (by decide)) (fun _ hk => hk.2) (.slice Ao16 t146.length co16)) (fun _ hk => hk.1)⟩, ⟨Kd.V_mono (Kd.R_V (by (with_reducible repeat (first | apply Kd.R_alloc | apply Kd.R_drewN | apply Kd.R_drew)); exact Kd.R_mono (Kd.R_far (p := ⟨gb142, 0, none⟩) (Kd.R_types (Kd.R_types (Kd.R_apart' HO148.out (Kd.R_typed HO153.out) (by decide)) BK142.out (by decide)) BK142.out (by decide)) (fun _ hk => hk.2) (.slice Ao16 t146.length co16)) (fun _ hk => hk))) (fun k_ hk => by first | exact ⟨(.inr (hk.1)), hk.2⟩ | exact (.inr (hk)) | (refine ⟨.inr ?_, ?_⟩ <;> first | exact hk.1.1.1.1 | exact hk.1.1.1 | exact ⟨hk.1.1.2, hk.1.2⟩ | exact hk.1.1.2 | exact hk.1.2 | exact hk.2))⟩, ⟨by refine hkz ?_; refine blk_put (cs := #[.slice Ao13 x143000_1.length co13]) ?_ 0 _ rfl; refine hkz ?_; exact BK142.out⟩, ⟨hkS HB⟩⟩
     ·rw [if_neg c11] at H
      exact absurd H (by simp)
    ·rw [if_neg c9] at H
     have c9b0 : decide (0 < (x143000_1.length : Int)) = false := decide_eq_false c9
     have c9b1 : decide (0 < x143000_1.length) = false := decide_eq_false (by omega)
     clear c9
     have H' := Aside0.mk H
     clear H
     obtain ⟨hcz22_0, hfz22_0⟩ := hkc1 BK142
     obtain ⟨Ao23, co23, eo23⟩ := Kd.V_slice HO_143000.out
     subst eo23
     obtain ⟨Ao24, co24, eo24⟩ := Kd.R_slice HO_3.out
     subst eo24
     go_wp2
     go_loopg [6, 7] k1 (fun kq v6 v7 w' => ∃ (x6_2 : List Int) (x7_2 : Int), v7 = .int .i64 x7_2 ∧ Aside0 (spec_l2text.l1 kq x3_1 x6_2 x7_2 = some r) ∧ Aside0 (kq ≤ k1) ∧ Aside0 (Kd.R (Kd.int .u8) 5 w' w.heap.size (fun k_ => (w.heap.size ≤ k_) ∧ some k_ ≠ (v6 : Value).ownBlock) (.slice Ao24 x3_1.length co24) x3_1) ∧ Aside0 (Kd.R (Kd.int .u8) 5 w' w.heap.size (fun k_ => (w.heap.size ≤ k_) ∧ some k_ ≠ ((.slice Ao24 x3_1.length co24) : Value).ownBlock) v6 x6_2) ∧ Aside0 (Kd.V (Kd.int .i64) 3 w' w.heap.size (fun k_ => (P0_0_ k_ ∨ w.heap.size ≤ k_) ∧ some k_ ≠ ((.slice Ao24 x3_1.length co24) : Value).ownBlock ∧ some k_ ≠ (v6 : Value).ownBlock ∧ k_ ≠ gb142) (.slice Ao23 x143000_1.length co23) x143000_1) ∧ Aside0 (w'.heap[gb142]? = some (.cells #[(.slice Ao23 x143000_1.length co23)] 30 (0, 0))) ∧ Aside0 (Below w.heap.size w w'))
     case atStart => exact ⟨(([] : List Int)), (wrap64 ((x3_1.length : Int) - 1)), (by first | rfl | (simp; done) | (simp [*]; done)), H', ⟨Nat.le_refl _⟩, ⟨by (with_reducible repeat (first | apply Kd.R_alloc | apply Kd.R_drewN | apply Kd.R_drew)); exact Kd.R_mono HO_3.out (fun _ hk => ⟨hk, (by simp [Value.ownBlock])⟩)⟩, ⟨by first | exact Kd.R_nil _ _ _ _ _ | exact Kd.N_nil _ _ _ _ _ | exact Kd.V_nil _ _ _ _ _ | exact Kd.Q_nil _ _ _ _ _ | exact Kd.S_nil _ _ _ _ _⟩, ⟨by (with_reducible repeat (first | apply Kd.V_alloc | apply Kd.V_drewN | apply Kd.V_drew)); exact Kd.V_mono HO_143000.out (fun _ hk => ⟨hk.1, ⟨hk.2.1, ⟨(by simp [Value.ownBlock]), hk.2.2⟩⟩⟩)⟩, ⟨by refine hkz ?_; exact BK142.out⟩, ⟨hkS HB⟩⟩
     case round =>
      clear H'
      try clear c1
      try clear c2
      try clear c2b0
      try clear c2b1
      try clear c2b2
      try clear p2
      try clear p6
      try clear c9
      try clear c9b0
      try clear c9b1
      try clear c11
      try clear c17
      try clear c23
      try clear c24
      try clear hcz12_0 hcz18_0 hcz20_0 hcz21_0 hcz22_0 hcz4_0 hcz8_0 hfz12_0 hfz18_0 hfz20_0 hfz21_0 hfz22_0 hfz4_0 hfz8_0
      try clear p2
      obtain ⟨x6_2, x7_2, rfl, HA, HK2, HO_3, HO_6, HO_143000, BK142, HB⟩ := hrel
      cases gk with
      | zero => exact absurd HA.out (by simp [spec_l2text.l1])
      | succ k2 =>
       have H := HA.out
       clear HA
       simp only [spec_l2text.l1] at H
       by_cases c25 : x7_2 ≥ 0
       ·rw [if_pos c25] at H
        have c25b0 : decide (0 ≤ x7_2) = true := decide_eq_true c25
        clear c25
        by_cases c26 : 0 ≤ x7_2
        ·rw [if_pos c26] at H
         have c26b0 : decide (0 ≤ x7_2) = true := decide_eq_true c26
         clear c26
         by_cases c27 : x7_2 < (x3_1.length : Int)
         ·rw [if_pos c27] at H
          have c27b0 : decide (x7_2 < (x3_1.length : Int)) = true := decide_eq_true c27
          clear c27
          by_cases c28 : x6_2.length < 140737488355328
          ·rw [if_pos c28] at H
           have LMc28 := Aside0.mk c28
           clear c28
           obtain ⟨y155, hy155⟩ : ∃ y_ : List Int, y_ = (x6_2 ++ [rd x3_1 x7_2]) := ⟨_, rfl⟩
           replace H : (spec_l2text.l1 k2 x3_1 y155 (wrap64 (x7_2 - 1))) = some r := by first | (rw [hy155]; with_reducible exact H) | (have H2_ := (Option.bind_some _ _).symm.trans H; rw [hy155]; with_reducible exact H2_) | (have H2_ := (Option.bind_some _ _).symm.trans H; with_reducible exact H2_) | with_reducible exact H | (rw [hy155]; exact H) | exact H
           have Ny155 := Aside0.mk hy155
           clear hy155
           have H' := Aside0.mk H
           clear H
           have p154 : 0 ≤ (x7_2 : Int) := of_decide_eq_true (by first | (with_reducible assumption) | assumption)
           have q154 : x7_2 < (x3_1.length : Int) := of_decide_eq_true (by first | (with_reducible assumption) | assumption)
           obtain ⟨ad154, e154, hx154_0⟩ := Kd.at_int (Kd.R_reads' HO_3.out).2.2 x7_2 p154 q154
           cases e154
           replace p154 := eq_true p154
           replace q154 := eq_true q154
           go_wp2_with (first | ((with_reducible refine gate_builtin (b := .append) (xs := #[.tmp 37, .tmp 42]) rfl ?_); at_builtin; refine Kd.R_append (Kd.int .u8) (w0 := w) w.heap.size rfl (.tmp 37) (.tmp 42) 28 5 (.int .u8 0) 1 rfl Tryd.underlying28 info5 rfl (by decide) (by omega) u6 x6_2 (rd x3_1 x7_2) [.int .u8 (rd x3_1 x7_2)] (fun k_ => (w.heap.size ≤ k_) ∧ some k_ ≠ (.slice (some ad154) x3_1.length co24 : Value).ownBlock) (fun _ => False) rfl rfl ?aP (fun _ hk => hk.elim) ?aF ?aO ?aB ?aS ?aL ?_; (case aP => exact rfl); (case aB => exact (hkS HB)); (case aF => exact (fun k_ hk => ⟨(Nat.le_trans (below_size (hkS HB)) hk), Kd.fresh' (Kd.R_lt (hkR HO_3)) k_ hk⟩)); (case aO => exact (hkR HO_6)); (case aS => exact (below_size (hkS HB))); (case aL => have := LMc28.out; omega); intro v156 w29 ho hb hg hat; rw [← Ny155.out] at ho; have n_ := hkA (Aside0.mk (Kd.R_after (ok := (fun k_ => (w.heap.size ≤ k_))) (hkR HO_3) hg hat)) (hkA (Aside0.mk (Kd.V_afterv (ok := (fun k_ => (P0_0_ k_ ∨ w.heap.size ≤ k_) ∧ some k_ ≠ (.slice (some ad154) x3_1.length co24 : Value).ownBlock ∧ k_ ≠ gb142)) (by (with_reducible repeat (first | apply Kd.V_alloc | apply Kd.V_drewN | apply Kd.V_drew)); exact Kd.V_mono HO_143000.out (fun _ hk => ⟨⟨hk.1, ⟨hk.2.1, hk.2.2.2⟩⟩, hk.2.2.1⟩)) hg hat)) (hkA (Aside0.mk (blk_grown (g := gb142) (o := .cells #[.slice Ao23 x143000_1.length co23] 30 (0, 0)) (hkB BK142) hg (Kd.R_ne HO_6.out BK142.out (by decide)))) (hkA (Aside0.mk (hb)) (Aside0.mk (ho))))); clear HO_3 HO_143000 BK142 HB HO_6; obtain ⟨HO_3, HO_143000, BK142, HB, HO157⟩ := n_; clear ho hb hg hat))
           go_roundg k2
           case measure => have := HK1.out; have := HK2.out; omega
           case rel => exact ⟨(y155), (wrap64 (x7_2 - 1)), (by first | rfl | (simp; done) | (simp [*]; done)), H', ⟨by have := HK1.out; have := HK2.out; omega⟩, ⟨by (with_reducible repeat (first | apply Kd.R_alloc | apply Kd.R_drewN | apply Kd.R_drew)); exact HO_3.out⟩, ⟨by (with_reducible repeat (first | apply Kd.R_alloc | apply Kd.R_drewN | apply Kd.R_drew)); exact HO157.out⟩, ⟨by (with_reducible repeat (first | apply Kd.V_alloc | apply Kd.V_drewN | apply Kd.V_drew)); exact Kd.V_mono HO_143000.out (fun _ hk => ⟨hk.1.1, ⟨hk.1.2.1, ⟨hk.2, hk.1.2.2⟩⟩⟩)⟩, ⟨by refine hkz ?_; exact BK142.out⟩, ⟨hkS HB⟩⟩
          ·rw [if_neg c28] at H
           exact absurd H (by simp)
         ·rw [if_neg c27] at H
          exact absurd H (by simp)
        ·rw [if_neg c26] at H
         exact absurd H (by simp)
       ·rw [if_neg c25] at H
        have c25b0 : decide (0 ≤ x7_2) = false := decide_eq_false c25
        clear c25
        obtain rfl := Option.some.inj H
        go_wp2
        go_ret
        exact ⟨_, hkE, by (with_reducible repeat (first | apply Kd.R_alloc | apply Kd.R_drewN | apply Kd.R_drew)); exact Kd.R_mono HO_6.out (fun _ hk => hk.1), hkS HB⟩

/-! ### spec_l3text: function 25 -/
def spec_l3text.f (k : Nat) (a0_0 : Bool) (l0_1 : List Int) : Option (List Int) := if a0_0 = true then ((some (([45] : List Int) : List Int)).bind fun y159 => ((spec_l2text.f k l0_1).bind fun t162 => (if y159.length + t162.length < 140737488355328 then (some (y159 ++ t162)) else (none)))) else ((spec_l2text.f k l0_1).bind fun t168 => (some t168))
theorem spec_l3text.mono : ∀ a0 a1 k, LeO (spec_l3text.f k a0 a1) (spec_l3text.f (k + 1) a0 a1) := by
 intro a0 a1 k
 unfold spec_l3text.f
 repeat' first
   | (with_reducible exact spec_l2text.mono _ _)
   | (with_reducible exact LeO.refl _)
   | (with_reducible exact LeO.none _)
   | (with_reducible refine LeO.ite ?_ ?_)
   | (with_reducible refine LeO.bind ?_ (fun _ => ?_))
   | exact spec_l2text.mono _ _
   | exact LeO.none _
   | refine LeO.ite ?_ ?_
   | refine LeO.bind ?_ (fun _ => ?_)
set_option maxHeartbeats 8000000 in
set_option maxRecDepth 100000 in
theorem spec_l3text.calls (k : Nat) (a0_0 : Bool) (A0_1 : Option Addr) (c0_1 : Nat) (l0_1 : List Int) (r : List Int) (w : World) (hr0_1 : Kd.C (Kd.int .i64) w A0_1 l0_1.length l0_1) (hc0_1 : l0_1.length ≤ c0_1) (h : spec_l3text.f k a0_0 l0_1 = some r) :
  Calls Tryd.prog 25 #[.agg #[.bool a0_0, .slice A0_1 l0_1.length c0_1]] w fun e w' => ∃ v0_ : Value, e = .returned (v0_) ∧ Kd.R (Kd.int .u8) 5 w' w.heap.size (fun _ => True) v0_ r ∧ Below w.heap.size w w' := by
 have hu51 := Tryd.underlying51
 have hu30 := Tryd.underlying30
 have HR0_1 := Aside0.mk hr0_1
 have HC0_1 := Aside0.mk hc0_1
 clear hr0_1 hc0_1
 have HB := Aside0.mk (Below.refl w.heap.size w)
 have H : (if a0_0 = true then ((some (([45] : List Int) : List Int)).bind fun y159 => ((spec_l2text.f k l0_1).bind fun t162 => (if y159.length + t162.length < 140737488355328 then (some (y159 ++ t162)) else (none)))) else ((spec_l2text.f k l0_1).bind fun t168 => (some t168))) = some r := h
 clear h
 by_cases c2 : a0_0 = true
 ·subst c2
  have H1 : ((some (([45] : List Int) : List Int)).bind fun y159 => ((spec_l2text.f k l0_1).bind fun t162 => (if y159.length + t162.length < 140737488355328 then (some (y159 ++ t162)) else (none)))) = some r := by rw [if_pos rfl] at H; exact H
  clear H
  have H := H1
  clear H1
  obtain ⟨y159, hy159⟩ : ∃ y_ : List Int, y_ = (([45] : List Int)) := ⟨_, rfl⟩
  replace H : ((spec_l2text.f k l0_1).bind fun t162 => (if y159.length + t162.length < 140737488355328 then (some (y159 ++ t162)) else (none))) = some r := by first | (rw [hy159]; with_reducible exact H) | (have H2_ := (Option.bind_some _ _).symm.trans H; rw [hy159]; with_reducible exact H2_) | (have H2_ := (Option.bind_some _ _).symm.trans H; with_reducible exact H2_) | with_reducible exact H | (rw [hy159]; exact H) | exact H
  have Ny159 := Aside0.mk hy159
  clear hy159
  replace H := hBi H
  obtain ⟨t162, A30, H⟩ := H
  replace H : (if y159.length + t162.length < 140737488355328 then (some (y159 ++ t162)) else (none)) = some r := H
  have A3 := Aside0.mk A30
  clear A30
  by_cases c4 : y159.length + t162.length < 140737488355328
  ·rw [if_pos c4] at H
   have LMc4 := Aside0.mk c4
   clear c4
   obtain ⟨y165, hy165⟩ : ∃ y_ : List Int, y_ = (y159 ++ t162) := ⟨_, rfl⟩
   replace H : (some y165) = some r := by first | (rw [hy165]; with_reducible exact H) | (have H2_ := (Option.bind_some _ _).symm.trans H; rw [hy165]; with_reducible exact H2_) | (have H2_ := (Option.bind_some _ _).symm.trans H; with_reducible exact H2_) | with_reducible exact H | (rw [hy165]; exact H) | exact H
   have Ny165 := Aside0.mk hy165
   clear hy165
   obtain rfl := Option.some.inj H
   go_enter Tryd.func25, Tryd.ntmps25
   go_wp2_with (first | ((with_reducible refine gate_dst (N := 1) rfl ?_); refine hkBox (N := 1) (cs := #[.bool true, .slice A0_1 l0_1.length c0_1]) (t := 51) ?_; intro gb158 hg w5 hbox hb; have n_ := hkA (hkU HB hb) (hkA (Aside0.mk (hbox)) (hkA (hkG hg (hkS HB)) (hkG hg (hkS HB)))); clear HB; obtain ⟨HB, BK158, GW158, GE158⟩ := n_; clear hb hbox hg; obtain ⟨hcz6_0, hfz6_0, hcz6_1, hfz6_1⟩ := hkc2 BK158) | ((with_reducible refine gate_dst (N := 5) rfl ?_); (first | (refine Kd.R_litmark (Kd.int .u8) _ 5 ?hg (N := 5) ?hd ?hg2 ?t2 ?ho2 ?ht2 ?he2 rfl (xs := ([45] : List Int)) (inner := [.int .u8 45]) (ok := fun _ => True) (okp := fun _ => True) ?hev ?hr ?hp (fun _ hk => hk) trivial (Below.refl _ _) (Nat.le_refl _) (by simp) ?_; (case hd => rfl); (case hg => rfl); (case hg2 => rfl); (case ho2 => rfl); (case ht2 => kernel_rfl); (case he2 => kernel_rfl); (case hev => first | rfl | (go_simp; done) | (go_simp; rfl)); (case hr => first | (go_simp; done) | (go_simp; rfl))) | (refine Kd.R_lit (Kd.int .u8) _ 5 ?hg (N := 5) ?hd (xs := ([45] : List Int)) (inner := [.int .u8 45]) (ok := fun _ => True) (okp := fun _ => True) ?hr ?hp (fun _ hk => hk) trivial (Below.refl _ _) (Nat.le_refl _) (by simp) ?_; (case hd => rfl); (case hg => rfl); (case hr => first | (go_simp; done) | (go_simp; rfl)))); (case hp => exact (Reps.one (show Kd.M (Kd.int .u8) _ _ _ 45 [.int .u8 45] from rfl) (Reps.none _ _))); intro v160 w7 ho8 hb hg_ hnew_; clear hg_ hnew_; (first | rw [← Ny159.out] at ho8 | (simp only [Int.reduceToNat] at ho8; rw [← Ny159.out] at ho8) | (simp only [Int.toNat_zero, List.replicate_zero] at ho8; rw [← Ny159.out] at ho8)); have n_ := hkA (Aside0.mk (Kd.R_lower ho8 (below_size (hkS HB)))) (hkA (hkBb BK158 hb) (hkU HB hb)); clear BK158 HB; obtain ⟨HO161, BK158, HB⟩ := n_; clear hb ho8; obtain ⟨hcz9_0, hfz9_0, hcz9_1, hfz9_1⟩ := hkc2 BK158) | ((with_reducible refine gate_callee (f := 24) rfl ?_); refine hkGo (N := some 8) Tryd.func24 #[.agg #[.slice A0_1 l0_1.length c0_1]] ?_; (with_reducible refine (spec_l2text.calls k (fun k_ => k_ < w.heap.size) _ _ l0_1 t162 _ ?side1 A3.out).mono ?_); (case side1 => exact Kd.V_mk HC0_1.out (Kd.F_below (Kd.C_F (Kd.heap_int .i64) HR0_1.out) (hkS HB))); rintro e w10 ⟨v163, rfl, ho0, hb⟩; refine ⟨_, rfl, ?_⟩; have n_ := hkA (Aside0.mk (Kd.R_elder' (hkR HO161) (Kd.R_base ho0) hb)) (hkA (Aside0.mk (Kd.R_lower (Kd.R_new' (Kd.R_mono (ok' := fun k_ => True) ho0 (fun _ hk_ => trivial)) (Kd.R_lt (hkR HO161))) (below_size (hkS HB)))) (hkA (hkBb BK158 hb) (hkU HB hb))); clear HO161 BK158 HB; obtain ⟨HO161, HO164, BK158, HB⟩ := n_; (try clear hb); (try clear hk); (try clear ho0); obtain ⟨Ao12, co12, eo12⟩ := Kd.R_slice HO164.out; subst eo12) | ((with_reducible refine gate_builtin (b := .append) (xs := #[.tmp 5, .tmp 8]) rfl ?_); at_builtin; refine Kd.R_append_rows (Kd.int .u8) (w0 := w) w.heap.size rfl (.tmp 5) (.tmp 8) 28 5 (.int .u8 0) 1 rfl Tryd.underlying28 info5 rfl (by decide) (by omega) v160 y159 t162 _ _ _ (fun k_ => some k_ ≠ (.slice Ao12 t162.length co12 : Value).ownBlock) (fun _ => False) rfl rfl ?aO ?aR (fun _ _ h => h) (fun _ h => h.elim) ?aF ?aB ?aS ?aL ?_; (case aR => exact hkC ((Kd.R_reads' HO164.out).2.2)); (case aB => exact (hkS HB)); (case aF => exact (fun k_ hk => Kd.fresh' (Kd.R_lt (hkR HO164)) k_ hk)); (case aO => exact (by (with_reducible repeat (first | apply Kd.R_alloc | apply Kd.R_drewN | apply Kd.R_drew)); exact Kd.R_mono HO161.out (fun _ hk => hk.2))); (case aS => exact (below_size (hkS HB))); (case aL => have := LMc4.out; omega); intro v166 w11 ho hb hg hat; rw [← Ny165.out] at ho; have n_ := hkA (Aside0.mk (blk_grown (g := gb158) (o := .cells #[.bool true, .slice A0_1 l0_1.length c0_1] 51 (0, 0)) (hkB BK158) hg (Kd.R_ne HO161.out BK158.out (by decide)))) (hkA (Aside0.mk (Kd.R_after (ok := (fun _ => True)) (hkR HO164) hg hat)) (hkA (Aside0.mk (hb)) (Aside0.mk (ho)))); clear BK158 HO164 HB HO161; obtain ⟨BK158, HO164, HB, HO167⟩ := n_; clear ho hb hg hat))
   go_ret
   exact ⟨_, hkE, by (with_reducible repeat (first | apply Kd.R_alloc | apply Kd.R_drewN | apply Kd.R_drew)); exact Kd.R_mono HO167.out (fun _ hk => trivial), hkS HB⟩
  ·rw [if_neg c4] at H
   exact absurd H (by simp)
 ·replace c2 := Bool.eq_false_iff.mpr c2
  subst c2
  have H1 : ((spec_l2text.f k l0_1).bind fun t168 => (some t168)) = some r := by rw [if_neg (show ¬ (false = true) by decide)] at H; exact H
  clear H
  have H := H1
  clear H1
  replace H := hBi H
  obtain ⟨t168, A130, H⟩ := H
  replace H : (some t168) = some r := H
  have A13 := Aside0.mk A130
  clear A130
  obtain rfl := Option.some.inj H
  go_enter Tryd.func25, Tryd.ntmps25
  go_wp2_with (first | ((with_reducible refine gate_dst (N := 1) rfl ?_); refine hkBox (N := 1) (cs := #[.bool false, .slice A0_1 l0_1.length c0_1]) (t := 51) ?_; intro gb158 hg w14 hbox hb; have n_ := hkA (hkU HB hb) (hkA (Aside0.mk (hbox)) (hkA (hkG hg (hkS HB)) (hkG hg (hkS HB)))); clear HB; obtain ⟨HB, BK158, GW158, GE158⟩ := n_; clear hb hbox hg; obtain ⟨hcz15_0, hfz15_0, hcz15_1, hfz15_1⟩ := hkc2 BK158) | ((with_reducible refine gate_callee (f := 24) rfl ?_); refine hkGo (N := some 12) Tryd.func24 #[.agg #[.slice A0_1 l0_1.length c0_1]] ?_; (with_reducible refine (spec_l2text.calls k (fun k_ => k_ < w.heap.size) _ _ l0_1 t168 _ ?side1 A13.out).mono ?_); (case side1 => exact Kd.V_mk HC0_1.out (Kd.F_below (Kd.C_F (Kd.heap_int .i64) HR0_1.out) (hkS HB))); rintro e w16 ⟨v169, rfl, ho0, hb⟩; refine ⟨_, rfl, ?_⟩; have n_ := hkA (Aside0.mk (Kd.R_lower (Kd.R_mono (ok' := fun k_ => True) ho0 (fun _ hk_ => trivial)) (below_size (hkS HB)))) (hkA (hkBb BK158 hb) (hkU HB hb)); clear BK158 HB; obtain ⟨HO170, BK158, HB⟩ := n_; (try clear hb); (try clear ho0)))
  go_ret
  exact ⟨_, hkE, by (with_reducible repeat (first | apply Kd.R_alloc | apply Kd.R_drewN | apply Kd.R_drew)); exact HO170.out, hkS HB⟩

end Go.Proofs.YthmieecgojiliaaDoor.PFnExactDecText
