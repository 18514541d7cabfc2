-- Written by our own driver (wip/hand/hprint.py) over the seat's translation.
import Derived.Test.YthmieecgojiliaaDoorPFnExactDecTextx0
import Derived.Test.YthmieecgojiliaaDoorPFnExactDecTextx4
import Derived.Test.YthmieecgojiliaaDoorPFnExactDecTextx7
namespace Go.Proofs.YthmieecgojiliaaDoor.PFnExactDecText
open Go.RowKit Go.Proofs.YthmieecgojiliaaDoorW.PrintWords Go.Proofs.YthmieecgojiliaaDoorW.PrintLast Go.Proofs.YthmieecgojiliaaDoorW.PrintMore
attribute [local go_sem] max2_int min2_int max_two min_two max_three min_three max_four min_four   -- for this text's walks alone
set_option linter.unusedVariables false
set_option linter.unusedSimpArgs false

/-! ### spec_l6text: function 15 -/
mutual
def spec_l6text.j0 : Nat → List Int → Bool → List Int → Int → Option (List Int)
 | 0, _, _, _, _ => none
 | k + 1, x3, x226000, x226001, x226002 => (spec_l2text.f k x226001).bind fun t232 => (if (wrap64 ((t232.length : Int) + x226002)) > 21 then (spec_l6text.j1 k x3 t232 (wrap64 ((t232.length : Int) + x226002)) true x226000 x226001 x226002) else (spec_l6text.j1 k x3 t232 (wrap64 ((t232.length : Int) + x226002)) (decide ((wrap64 ((t232.length : Int) + x226002)) < (-5))) x226000 x226001 x226002))
def spec_l6text.j1 : Nat → List Int → List Int → Int → Bool → Bool → List Int → Int → Option (List Int)
 | 0, _, _, _, _, _, _, _ => none
 | k + 1, x3, x4, x5, x21, x226000, x226001, x226002 => if x21 = true then (if 0 < (x4.length : Int) then ((some (([rd x4 0] : List Int) : List Int)).bind fun y236 => (if x3.length + y236.length < 140737488355328 then ((some (x3 ++ y236 : List Int)).bind fun y239 => (if (x4.length : Int) > 1 then ((some (([46] : List Int) : List Int)).bind fun y242 => (if y239.length + y242.length < 140737488355328 then ((some (y239 ++ y242 : List Int)).bind fun y245 => (if 1 ≤ (x4.length : Int) then ((some (x4.drop 1 : List Int)).bind fun y248 => (if y245.length + y248.length < 140737488355328 then ((some (y245 ++ y248 : List Int)).bind fun y252 => ((some (([101] : List Int) : List Int)).bind fun y255 => (if y252.length + y255.length < 140737488355328 then ((some (y252 ++ y255 : List Int)).bind fun y258 => ((spec_l3of.f k (wrap64 (x5 - 1))).bind fun bt261 => ((spec_l3text.f k bt261.1 bt261.2).bind fun t265 => (if y258.length + t265.length < 140737488355328 then (some (y258 ++ t265)) else (none))))) else (none)))) else (none))) else (none))) else (none))) else ((some (([101] : List Int) : List Int)).bind fun y271 => (if y239.length + y271.length < 140737488355328 then ((some (y239 ++ y271 : List Int)).bind fun y274 => ((spec_l3of.f k (wrap64 (x5 - 1))).bind fun bt277 => ((spec_l3text.f k bt277.1 bt277.2).bind fun t281 => (if y274.length + t281.length < 140737488355328 then (some (y274 ++ t281)) else (none))))) else (none))))) else (none))) else (none)) else (if x226002 ≥ 0 then (if x3.length + x4.length < 140737488355328 then (spec_l6text.l0 k (x3 ++ x4) 0 x226000 x226001 x226002) else (none)) else (if x5 > 0 then (if 0 ≤ x5 then (if x5 ≤ (x4.length : Int) then ((some (x4.take (x5 : Int).toNat : List Int)).bind fun y296 => (if x3.length + y296.length < 140737488355328 then ((some (x3 ++ y296 : List Int)).bind fun y300 => ((some (([46] : List Int) : List Int)).bind fun y303 => (if y300.length + y303.length < 140737488355328 then ((some (y300 ++ y303 : List Int)).bind fun y306 => ((some (x4.drop (x5 : Int).toNat : List Int)).bind fun y309 => (if y306.length + y309.length < 140737488355328 then (some (y306 ++ y309)) else (none)))) else (none)))) else (none))) else (none)) else (none)) else (if x3.length + 2 < 140737488355328 then (spec_l6text.l1 k (x3 ++ bytesOf (⟨#[48, 46]⟩ : ByteArray)) x4 x5) else (none))))
def spec_l6text.l0 : Nat → List Int → Int → Bool → List Int → Int → Option (List Int)
 | 0, _, _, _, _, _ => none
 | k + 1, x3, x6, x226000, x226001, x226002 => if x6 < x226002 then ((some (([48] : List Int) : List Int)).bind fun y290 => (if x3.length + y290.length < 140737488355328 then (spec_l6text.l0 k (x3 ++ y290) (wrap64 (x6 + 1)) x226000 x226001 x226002) else (none))) else (some x3)
def spec_l6text.l1 : Nat → List Int → List Int → Int → Option (List Int)
 | 0, _, _, _ => none
 | k + 1, x3, x4, x7 => if x7 < 0 then ((some (([48] : List Int) : List Int)).bind fun y319 => (if x3.length + y319.length < 140737488355328 then (spec_l6text.l1 k (x3 ++ y319) x4 (wrap64 (x7 + 1))) else (none))) else (if x3.length + x4.length < 140737488355328 then (some (x3 ++ x4)) else (none))
end
def spec_l6text.f (k : Nat) (a0_0 : Bool) (l0_1 : List Int) (a0_2 : Int) : Option (List Int) := if a0_0 = true then ((some (([45] : List Int) : List Int)).bind fun y226 => (if ([] : List Int).length + y226.length < 140737488355328 then (spec_l6text.j0 k (([] : List Int) ++ y226) a0_0 l0_1 a0_2) else (none))) else (spec_l6text.j0 k ([] : List Int) a0_0 l0_1 a0_2)
theorem spec_l6text.mono_l : ∀ k, (∀ y0 y1 y2 y3, LeO (spec_l6text.j0 k y0 y1 y2 y3) (spec_l6text.j0 (k + 1) y0 y1 y2 y3)) ∧ (∀ y0 y1 y2 y3 y4 y5 y6, LeO (spec_l6text.j1 k y0 y1 y2 y3 y4 y5 y6) (spec_l6text.j1 (k + 1) y0 y1 y2 y3 y4 y5 y6)) ∧ (∀ y0 y1 y2 y3 y4, LeO (spec_l6text.l0 k y0 y1 y2 y3 y4) (spec_l6text.l0 (k + 1) y0 y1 y2 y3 y4)) ∧ (∀ y0 y1 y2, LeO (spec_l6text.l1 k y0 y1 y2) (spec_l6text.l1 (k + 1) y0 y1 y2))
 | 0 => ⟨fun _ _ _ _ r h => by simp [spec_l6text.j0] at h, fun _ _ _ _ _ _ _ r h => by simp [spec_l6text.j1] at h, fun _ _ _ _ _ r h => by simp [spec_l6text.l0] at h, fun _ _ _ r h => by simp [spec_l6text.l1] at h⟩
 | k + 1 => by
  obtain ⟨ih0, ih1, ih2, ih3⟩ := spec_l6text.mono_l k
  refine ⟨?_, ?_, ?_, ?_⟩
  ·intro y0 y1 y2 y3
   unfold spec_l6text.j0
   repeat' first
   | (with_reducible exact ih0 _ _ _ _)
   | (with_reducible exact ih1 _ _ _ _ _ _ _)
   | (with_reducible exact ih2 _ _ _ _ _)
   | (with_reducible exact ih3 _ _ _)
   | (with_reducible exact spec_l2text.mono _ _)
   | (with_reducible exact spec_l3of.mono _ _)
   | (with_reducible exact spec_l3text.mono _ _ _)
   | (with_reducible exact LeO.refl _)
   | (with_reducible exact LeO.none _)
   | (with_reducible refine LeO.ite ?_ ?_)
   | (with_reducible refine LeO.bind ?_ (fun _ => ?_))
   | exact ih0 _ _ _ _
   | exact ih1 _ _ _ _ _ _ _
   | exact ih2 _ _ _ _ _
   | exact ih3 _ _ _
   | exact spec_l2text.mono _ _
   | exact spec_l3of.mono _ _
   | exact spec_l3text.mono _ _ _
   | exact LeO.none _
   | refine LeO.ite ?_ ?_
   | refine LeO.bind ?_ (fun _ => ?_)
  ·intro y0 y1 y2 y3 y4 y5 y6
   unfold spec_l6text.j1
   repeat' first
   | (with_reducible exact ih0 _ _ _ _)
   | (with_reducible exact ih1 _ _ _ _ _ _ _)
   | (with_reducible exact ih2 _ _ _ _ _)
   | (with_reducible exact ih3 _ _ _)
   | (with_reducible exact spec_l2text.mono _ _)
   | (with_reducible exact spec_l3of.mono _ _)
   | (with_reducible exact spec_l3text.mono _ _ _)
   | (with_reducible exact LeO.refl _)
   | (with_reducible exact LeO.none _)
   | (with_reducible refine LeO.ite ?_ ?_)
   | (with_reducible refine LeO.bind ?_ (fun _ => ?_))
   | exact ih0 _ _ _ _
   | exact ih1 _ _ _ _ _ _ _
   | exact ih2 _ _ _ _ _
   | exact ih3 _ _ _
   | exact spec_l2text.mono _ _
   | exact spec_l3of.mono _ _
   | exact spec_l3text.mono _ _ _
   | exact LeO.none _
   | refine LeO.ite ?_ ?_
   | refine LeO.bind ?_ (fun _ => ?_)
  ·intro y0 y1 y2 y3 y4
   unfold spec_l6text.l0
   repeat' first
   | (with_reducible exact ih0 _ _ _ _)
   | (with_reducible exact ih1 _ _ _ _ _ _ _)
   | (with_reducible exact ih2 _ _ _ _ _)
   | (with_reducible exact ih3 _ _ _)
   | (with_reducible exact spec_l2text.mono _ _)
   | (with_reducible exact spec_l3of.mono _ _)
   | (with_reducible exact spec_l3text.mono _ _ _)
   | (with_reducible exact LeO.refl _)
   | (with_reducible exact LeO.none _)
   | (with_reducible refine LeO.ite ?_ ?_)
   | (with_reducible refine LeO.bind ?_ (fun _ => ?_))
   | exact ih0 _ _ _ _
   | exact ih1 _ _ _ _ _ _ _
   | exact ih2 _ _ _ _ _
   | exact ih3 _ _ _
   | exact spec_l2text.mono _ _
   | exact spec_l3of.mono _ _
   | exact spec_l3text.mono _ _ _
   | exact LeO.none _
   | refine LeO.ite ?_ ?_
   | refine LeO.bind ?_ (fun _ => ?_)
  ·intro y0 y1 y2
   unfold spec_l6text.l1
   repeat' first
   | (with_reducible exact ih0 _ _ _ _)
   | (with_reducible exact ih1 _ _ _ _ _ _ _)
   | (with_reducible exact ih2 _ _ _ _ _)
   | (with_reducible exact ih3 _ _ _)
   | (with_reducible exact spec_l2text.mono _ _)
   | (with_reducible exact spec_l3of.mono _ _)
   | (with_reducible exact spec_l3text.mono _ _ _)
   | (with_reducible exact LeO.refl _)
   | (with_reducible exact LeO.none _)
   | (with_reducible refine LeO.ite ?_ ?_)
   | (with_reducible refine LeO.bind ?_ (fun _ => ?_))
   | exact ih0 _ _ _ _
   | exact ih1 _ _ _ _ _ _ _
   | exact ih2 _ _ _ _ _
   | exact ih3 _ _ _
   | exact spec_l2text.mono _ _
   | exact spec_l3of.mono _ _
   | exact spec_l3text.mono _ _ _
   | exact LeO.none _
   | refine LeO.ite ?_ ?_
   | refine LeO.bind ?_ (fun _ => ?_)
theorem spec_l6text.mono : ∀ a0 a1 a2 k, LeO (spec_l6text.f k a0 a1 a2) (spec_l6text.f (k + 1) a0 a1 a2) := by
 intro a0 a1 a2 k
 obtain ⟨ih0, ih1, ih2, ih3⟩ := spec_l6text.mono_l k
 unfold spec_l6text.f
 repeat' first
   | (with_reducible exact ih0 _ _ _ _)
   | (with_reducible exact ih1 _ _ _ _ _ _ _)
   | (with_reducible exact ih2 _ _ _ _ _)
   | (with_reducible exact ih3 _ _ _)
   | (with_reducible exact spec_l2text.mono _ _)
   | (with_reducible exact spec_l3of.mono _ _)
   | (with_reducible exact spec_l3text.mono _ _ _)
   | (with_reducible exact LeO.refl _)
   | (with_reducible exact LeO.none _)
   | (with_reducible refine LeO.ite ?_ ?_)
   | (with_reducible refine LeO.bind ?_ (fun _ => ?_))
   | exact ih0 _ _ _ _
   | exact ih1 _ _ _ _ _ _ _
   | exact ih2 _ _ _ _ _
   | exact ih3 _ _ _
   | exact spec_l2text.mono _ _
   | exact spec_l3of.mono _ _
   | exact spec_l3text.mono _ _ _
   | exact LeO.none _
   | refine LeO.ite ?_ ?_
   | refine LeO.bind ?_ (fun _ => ?_)
def spec_l6text.T19 : Bool × List (List Nat × List Nat) := (true, [([], []), ([], []), ([], []), ([1, 2], [1, 2]), ([0, 3], [0, 3]), ([], []), ([4, 5, 4], [4, 5]), ([], []), ([], []), ([7, 8], [7, 8]), ([6, 9, 6], [6, 9]), ([10, 10, 0, 1, 2, 3, 4, 5, 6, 7, 8, 9, 10], [10])])
def spec_l6text.B19 : List Nat := [0, 0, 0, 6, 15, 0, 63, 0, 0, 384, 1023, 2047]
theorem spec_l6text.tab19 : rtab .any (opsOf Tryd.f15 19) = spec_l6text.T19 := by kernel_rfl
theorem spec_l6text.bits19 : waitsOk spec_l6text.T19.2 spec_l6text.B19 = true := by kernel_rfl
set_option maxHeartbeats 8000000 in
set_option maxRecDepth 100000 in
theorem spec_l6text.calls (k : Nat) (a0_0 : Bool) (A0_1 : Option Addr) (c0_1 : Nat) (l0_1 : List Int) (a0_2 : Int) (r : List Int) (w : World) (hr0_1 : Kd.C (Kd.int .i64) w A0_1 l0_1.length l0_1) (hc0_1 : l0_1.length ≤ c0_1) (h : spec_l6text.f k a0_0 l0_1 a0_2 = some r) :
  Calls Tryd.prog 15 #[.agg #[.bool a0_0, .slice A0_1 l0_1.length c0_1, .int .i64 a0_2]] w fun e w' => ∃ v0_ : Value, e = .returned (v0_) ∧ Kd.R (Kd.int .u8) 5 w' w.heap.size (fun _ => True) v0_ r ∧ Below w.heap.size w w' := by
 have hu32 := Tryd.underlying32
 have hu30 := Tryd.underlying30
 have HR0_1 := Aside0.mk hr0_1
 have HC0_1 := Aside0.mk hc0_1
 clear hr0_1 hc0_1
 have HB := Aside0.mk (Below.refl w.heap.size w)
 have H : (if a0_0 = true then ((some (([45] : List Int) : List Int)).bind fun y226 => (if ([] : List Int).length + y226.length < 140737488355328 then (spec_l6text.j0 k (([] : List Int) ++ y226) a0_0 l0_1 a0_2) else (none))) else (spec_l6text.j0 k ([] : List Int) a0_0 l0_1 a0_2)) = some r := h
 clear h
 have HC2 := Aside0.mk H
 clear H
 go_enter Tryd.func15, Tryd.ntmps15
 go_upto_if 9 with (first | ((with_reducible refine gate_dst (N := 1) rfl ?_); refine hkBox (N := 1) (cs := #[.bool a0_0, .slice A0_1 l0_1.length c0_1, .int .i64 a0_2]) (t := 32) ?_; intro gb225 hg w3 hbox hb; have n_ := hkA (hkU HB hb) (hkA (Aside0.mk (hbox)) (hkA (hkG hg (hkS HB)) (hkG hg (hkS HB)))); clear HB; obtain ⟨HB, BK225, GW225, GE225⟩ := n_; clear hb hbox hg; obtain ⟨hcz4_0, hfz4_0, hcz4_1, hfz4_1, hcz4_2, hfz4_2⟩ := hkc3 BK225))
 (try simp only [Act.put, List.setIfInBounds_toArray, List.set_cons_zero, List.set_cons_succ])
 go_cut [3] (fun v3 wc => ∃ (kq : Nat) (x3_1 : List Int), Aside0 (spec_l6text.j0 kq x3_1 a0_0 l0_1 a0_2 = some r) ∧ Aside0 (kq ≤ k) ∧ Aside0 (Kd.R (Kd.int .u8) 5 wc w.heap.size (fun _ => True) v3 x3_1) ∧ Aside0 (wc.heap[gb225]? = some (.cells #[.bool a0_0, (.slice A0_1 l0_1.length c0_1), .int .i64 a0_2] 32 (0, 0))) ∧ Aside0 (Below w.heap.size w wc))
 case first =>
  have H := HC2.out
  clear HC2
  by_cases c5 : a0_0 = true
  ·subst c5
   have H1 : ((some (([45] : List Int) : List Int)).bind fun y226 => (if ([] : List Int).length + y226.length < 140737488355328 then (spec_l6text.j0 k (([] : List Int) ++ y226) true l0_1 a0_2) else (none))) = some r := by rw [if_pos rfl] at H; exact H
   clear H
   have H := H1
   clear H1
   obtain ⟨y226, hy226⟩ : ∃ y_ : List Int, y_ = (([45] : List Int)) := ⟨_, rfl⟩
   replace H : (if ([] : List Int).length + y226.length < 140737488355328 then (spec_l6text.j0 k (([] : List Int) ++ y226) true l0_1 a0_2) else (none)) = some r := by first | (rw [hy226]; with_reducible exact H) | (have H2_ := (Option.bind_some _ _).symm.trans H; rw [hy226]; with_reducible exact H2_) | (have H2_ := (Option.bind_some _ _).symm.trans H; with_reducible exact H2_) | with_reducible exact H | (rw [hy226]; exact H) | exact H
   have Ny226 := Aside0.mk hy226
   clear hy226
   by_cases c6 : ([] : List Int).length + y226.length < 140737488355328
   ·rw [if_pos c6] at H
    have LMc6 := Aside0.mk c6
    clear c6
    obtain ⟨y229, hy229⟩ : ∃ y_ : List Int, y_ = (([] : List Int) ++ y226) := ⟨_, rfl⟩
    replace H : (spec_l6text.j0 k y229 true l0_1 a0_2) = some r := by first | (rw [hy229]; with_reducible exact H) | (have H2_ := (Option.bind_some _ _).symm.trans H; rw [hy229]; with_reducible exact H2_) | (have H2_ := (Option.bind_some _ _).symm.trans H; with_reducible exact H2_) | with_reducible exact H | (rw [hy229]; exact H) | exact H
    have Ny229 := Aside0.mk hy229
    clear hy229
    have H' := Aside0.mk H
    clear H
    go_wp2_with (first | ((with_reducible refine gate_dst (N := 11) rfl ?_); (first | (refine Kd.R_litmark (Kd.int .u8) _ 5 ?hg (N := 11) ?hd ?hg2 ?t2 ?ho2 ?ht2 ?he2 rfl (xs := ([45] : List Int)) (inner := [.int .u8 45]) (ok := fun _ => True) (okp := fun _ => True) ?hev ?hr ?hp (fun _ hk => hk) trivial (Below.refl _ _) (Nat.le_refl _) (by simp) ?_; (case hd => rfl); (case hg => rfl); (case hg2 => rfl); (case ho2 => rfl); (case ht2 => kernel_rfl); (case he2 => kernel_rfl); (case hev => first | rfl | (go_simp; done) | (go_simp; rfl)); (case hr => first | (go_simp; done) | (go_simp; rfl))) | (refine Kd.R_lit (Kd.int .u8) _ 5 ?hg (N := 11) ?hd (xs := ([45] : List Int)) (inner := [.int .u8 45]) (ok := fun _ => True) (okp := fun _ => True) ?hr ?hp (fun _ hk => hk) trivial (Below.refl _ _) (Nat.le_refl _) (by simp) ?_; (case hd => rfl); (case hg => rfl); (case hr => first | (go_simp; done) | (go_simp; rfl)))); (case hp => exact (Reps.one (show Kd.M (Kd.int .u8) _ _ _ 45 [.int .u8 45] from rfl) (Reps.none _ _))); intro v227 w7 ho8 hb hg_ hnew_; clear hg_ hnew_; (first | rw [← Ny226.out] at ho8 | (simp only [Int.reduceToNat] at ho8; rw [← Ny226.out] at ho8) | (simp only [Int.toNat_zero, List.replicate_zero] at ho8; rw [← Ny226.out] at ho8)); have n_ := hkA (Aside0.mk (Kd.R_lower ho8 (below_size (hkS HB)))) (hkA (hkBb BK225 hb) (hkU HB hb)); clear BK225 HB; obtain ⟨HO228, BK225, HB⟩ := n_; clear hb ho8; obtain ⟨Ao10, co10, eo10⟩ := Kd.R_slice HO228.out; subst eo10) | ((with_reducible refine gate_builtin (b := .append) (xs := #[.tmp 10, .tmp 11]) rfl ?_); at_builtin; refine Kd.R_append_rows (Kd.int .u8) (w0 := w) w.heap.size rfl (.tmp 10) (.tmp 11) 28 5 (.int .u8 0) 1 rfl Tryd.underlying28 info5 rfl (by decide) (by omega) (.slice none 0 0) ([] : List Int) y226 _ _ _ (fun k_ => some k_ ≠ (.slice Ao10 y226.length co10 : Value).ownBlock) (fun _ => False) rfl rfl ?aO ?aR (fun _ _ h => h) (fun _ h => h.elim) ?aF ?aB ?aS ?aL ?_; (case aR => exact hkC ((Kd.R_reads' HO228.out).2.2)); (case aB => exact (hkS HB)); (case aF => exact (fun k_ hk => Kd.fresh' (Kd.R_lt (hkR HO228)) k_ hk)); (case aO => exact ((Kd.R_nil _ _ _ _ (fun k_ => some k_ ≠ (.slice Ao10 y226.length co10 : Value).ownBlock)))); (case aS => exact (below_size (hkS HB))); (case aL => have := LMc6.out; omega); intro v230 w9 ho hb hg hat; rw [← Ny229.out] at ho; have n_ := hkA (Aside0.mk (blk_grown (g := gb225) (o := .cells #[.bool true, .slice A0_1 l0_1.length c0_1, .int .i64 a0_2] 32 (0, 0)) (hkB BK225) hg (by simp [Value.ownBlock]))) (hkA (Aside0.mk (Kd.R_after (Kd.R_apart_nil (hkR HO228)) hg hat)) (hkA (Aside0.mk (hb)) (Aside0.mk (ho)))); clear BK225 HO228 HB; obtain ⟨BK225, HO228, HB, HO231⟩ := n_; clear ho hb hg hat))
    go_meet
    case rel => exact ⟨_, (y229), H', ⟨by first | omega | exact Nat.le_refl _⟩, ⟨by (with_reducible repeat (first | apply Kd.R_alloc | apply Kd.R_drewN | apply Kd.R_drew)); exact Kd.R_mono HO231.out (fun _ hk => trivial)⟩, ⟨by refine hkz ?_; exact BK225.out⟩, ⟨hkS HB⟩⟩
   ·rw [if_neg c6] at H
    exact absurd H (by simp)
  ·replace c5 := Bool.eq_false_iff.mpr c5
   subst c5
   have H1 : (spec_l6text.j0 k ([] : List Int) false l0_1 a0_2) = some r := by rw [if_neg (show ¬ (false = true) by decide)] at H; exact H
   clear H
   have H := H1
   clear H1
   have H' := Aside0.mk H
   clear H
   go_wp2
   go_meet
   case rel => exact ⟨_, (([] : List Int)), H', ⟨by first | omega | exact Nat.le_refl _⟩, ⟨by first | exact Kd.R_nil _ _ _ _ _ | exact Kd.N_nil _ _ _ _ _ | exact Kd.V_nil _ _ _ _ _ | exact Kd.Q_nil _ _ _ _ _ | exact Kd.S_nil _ _ _ _ _⟩, ⟨by refine hkz ?_; exact BK225.out⟩, ⟨hkS HB⟩⟩
 case rest =>
  clear HC2
  try clear c1
  try clear p2
  try clear c5
  try clear c6
  try clear hcz4_0 hcz4_1 hcz4_2 hfz4_0 hfz4_1 hfz4_2
  obtain ⟨kq, x3_1, HA, HJ1, HO_3, BK225, HB⟩ := hcut
  cases kq with
  | zero => exact absurd HA.out (by simp [spec_l6text.j0])
  | succ kj1 =>
   have H := HA.out
   clear HA
   simp only [spec_l6text.j0] at H
   replace H := hBi H
   obtain ⟨t232, A110, H⟩ := H
   replace H : (if (wrap64 ((t232.length : Int) + a0_2)) > 21 then (spec_l6text.j1 kj1 x3_1 t232 (wrap64 ((t232.length : Int) + a0_2)) true a0_0 l0_1 a0_2) else (spec_l6text.j1 kj1 x3_1 t232 (wrap64 ((t232.length : Int) + a0_2)) (decide ((wrap64 ((t232.length : Int) + a0_2)) < (-5))) a0_0 l0_1 a0_2)) = some r := H
   have A11 := Aside0.mk A110
   clear A110
   have HC12 := Aside0.mk H
   clear H
   obtain ⟨hcz13_0, hfz13_0, hcz13_1, hfz13_1, hcz13_2, hfz13_2⟩ := hkc3 BK225
   go_upto_region 6 with (first | ((with_reducible refine gate_callee (f := 24) rfl ?_); refine hkGo (N := some 15) Tryd.func24 #[.agg #[.slice A0_1 l0_1.length c0_1]] ?_; (with_reducible refine (spec_l2text.calls kj1 (fun k_ => k_ < w.heap.size) _ _ l0_1 t232 _ ?side1 A11.out).mono ?_); (case side1 => exact Kd.V_mk HC0_1.out (Kd.F_below (Kd.C_F (Kd.heap_int .i64) HR0_1.out) (hkS HB))); rintro e w14 ⟨v233, rfl, ho0, hb⟩; refine ⟨_, rfl, ?_⟩; have n_ := hkA (Aside0.mk (Kd.R_elder' (hkR HO_3) (Kd.R_base ho0) hb)) (hkA (Aside0.mk (Kd.R_lower (Kd.R_new' (Kd.R_mono (ok' := fun k_ => True) ho0 (fun _ hk_ => trivial)) (Kd.R_lt (hkR HO_3))) (below_size (hkS HB)))) (hkA (hkBb BK225 hb) (hkU HB hb))); clear HO_3 BK225 HB; obtain ⟨HO_3, HO234, BK225, HB⟩ := n_; (try clear hb); (try clear ho0); obtain ⟨Ao15, co15, eo15⟩ := Kd.R_slice HO234.out; subst eo15; obtain ⟨hcz16_0, hfz16_0, hcz16_1, hfz16_1, hcz16_2, hfz16_2⟩ := hkc3 BK225))
   (try simp only [Act.put, List.setIfInBounds_toArray, List.set_cons_zero, List.set_cons_succ])
   go_cut [21] (fun v21 wc => ∃ (kq : Nat) (x21_11 : Bool), v21 = .bool x21_11 ∧ Aside0 (spec_l6text.j1 kq x3_1 t232 (wrap64 ((t232.length : Int) + a0_2)) x21_11 a0_0 l0_1 a0_2 = some r) ∧ Aside0 (kq ≤ kj1) ∧ Aside0 (Kd.R (Kd.int .u8) 5 wc w.heap.size (fun k_ => some k_ ≠ ((.slice Ao15 t232.length co15) : Value).ownBlock) u3 x3_1) ∧ Aside0 (Kd.R (Kd.int .u8) 5 wc w.heap.size (fun k_ => some k_ ≠ (u3 : Value).ownBlock) (.slice Ao15 t232.length co15) t232) ∧ Aside0 (wc.heap[gb225]? = some (.cells #[.bool a0_0, (.slice A0_1 l0_1.length c0_1), .int .i64 a0_2] 32 (0, 0))) ∧ Aside0 (Below w.heap.size w wc))
   case first =>
    have H := HC12.out
    clear HC12
    by_cases c17 : (wrap64 ((t232.length : Int) + a0_2)) > 21
    ·rw [if_pos c17] at H
     have c17b0 : decide (21 < (wrap64 ((t232.length : Int) + a0_2))) = true := decide_eq_true c17
     clear c17
     (first | rw [c17b0] | (simp only [i64_w, i32_w]; rw [c17b0]) | skip)
     have H' := Aside0.mk H
     clear H
     go_wp2
     go_meet
     case rel => exact ⟨_, (true), (by first | rfl | (simp; done) | (simp [*]; done)), H', ⟨by have := HJ1.out; first | omega | exact Nat.le_refl _⟩, ⟨by (with_reducible repeat (first | apply Kd.R_alloc | apply Kd.R_drewN | apply Kd.R_drew)); exact Kd.R_mono HO_3.out (fun _ hk => hk.2)⟩, ⟨by (with_reducible repeat (first | apply Kd.R_alloc | apply Kd.R_drewN | apply Kd.R_drew)); exact Kd.R_mono HO234.out (fun _ hk => hk.2)⟩, ⟨by refine hkz ?_; exact BK225.out⟩, ⟨hkS HB⟩⟩
    ·rw [if_neg c17] at H
     have c17b0 : decide (21 < (wrap64 ((t232.length : Int) + a0_2))) = false := decide_eq_false c17
     clear c17
     (first | rw [c17b0] | (simp only [i64_w, i32_w]; rw [c17b0]) | skip)
     have H' := Aside0.mk H
     clear H
     go_wp2
     go_meet
     case rel => exact ⟨_, (decide ((wrap64 ((t232.length : Int) + a0_2)) < (-5))), (by first | rfl | (simp; done) | (simp [*]; done)), H', ⟨by have := HJ1.out; first | omega | exact Nat.le_refl _⟩, ⟨by (with_reducible repeat (first | apply Kd.R_alloc | apply Kd.R_drewN | apply Kd.R_drew)); exact Kd.R_mono HO_3.out (fun _ hk => hk.2)⟩, ⟨by (with_reducible repeat (first | apply Kd.R_alloc | apply Kd.R_drewN | apply Kd.R_drew)); exact Kd.R_mono HO234.out (fun _ hk => hk.2)⟩, ⟨by refine hkz ?_; exact BK225.out⟩, ⟨hkS HB⟩⟩
   case rest =>
    clear HC12
    try clear c1
    try clear c2
    try clear p2
    try clear c5
    try clear c6
    try clear p6
    try clear c15
    try clear c17
    try clear c17b0
    try clear hcz13_0 hcz13_1 hcz13_2 hcz16_0 hcz16_1 hcz16_2 hcz4_0 hcz4_1 hcz4_2 hfz13_0 hfz13_1 hfz13_2 hfz16_0 hfz16_1 hfz16_2 hfz4_0 hfz4_1 hfz4_2
    try clear p2
    obtain ⟨kq, x21_11, rfl, HA, HJ11, HO_3, HO_4, BK225, HB⟩ := hcut
    cases kq with
    | zero => exact absurd HA.out (by simp [spec_l6text.j1])
    | succ kj11 =>
     have H := HA.out
     clear HA
     simp only [spec_l6text.j1] at H
     by_cases c18 : x21_11 = true
     ·subst c18
      have H1 : (if 0 < (t232.length : Int) then ((some (([rd t232 0] : List Int) : List Int)).bind fun y236 => (if x3_1.length + y236.length < 140737488355328 then ((some (x3_1 ++ y236 : List Int)).bind fun y239 => (if (t232.length : Int) > 1 then ((some (([46] : List Int) : List Int)).bind fun y242 => (if y239.length + y242.length < 140737488355328 then ((some (y239 ++ y242 : List Int)).bind fun y245 => (if 1 ≤ (t232.length : Int) then ((some (t232.drop 1 : List Int)).bind fun y248 => (if y245.length + y248.length < 140737488355328 then ((some (y245 ++ y248 : List Int)).bind fun y252 => ((some (([101] : List Int) : List Int)).bind fun y255 => (if y252.length + y255.length < 140737488355328 then ((some (y252 ++ y255 : List Int)).bind fun y258 => ((spec_l3of.f kj11 (wrap64 ((wrap64 ((t232.length : Int) + a0_2)) - 1))).bind fun bt261 => ((spec_l3text.f kj11 bt261.1 bt261.2).bind fun t265 => (if y258.length + t265.length < 140737488355328 then (some (y258 ++ t265)) else (none))))) else (none)))) else (none))) else (none))) else (none))) else ((some (([101] : List Int) : List Int)).bind fun y271 => (if y239.length + y271.length < 140737488355328 then ((some (y239 ++ y271 : List Int)).bind fun y274 => ((spec_l3of.f kj11 (wrap64 ((wrap64 ((t232.length : Int) + a0_2)) - 1))).bind fun bt277 => ((spec_l3text.f kj11 bt277.1 bt277.2).bind fun t281 => (if y274.length + t281.length < 140737488355328 then (some (y274 ++ t281)) else (none))))) else (none))))) else (none))) else (none)) = some r := by rw [if_pos rfl] at H; exact H
      clear H
      have H := H1
      clear H1
      by_cases c19 : 0 < (t232.length : Int)
      ·rw [if_pos c19] at H
       have c19b0 : decide (0 < (t232.length : Int)) = true := decide_eq_true c19
       have c19b1 : decide (0 < t232.length) = true := decide_eq_true (by omega)
       clear c19
       obtain ⟨y236, hy236⟩ : ∃ y_ : List Int, y_ = (([rd t232 0] : List Int)) := ⟨_, rfl⟩
       replace H : (if x3_1.length + y236.length < 140737488355328 then ((some (x3_1 ++ y236 : List Int)).bind fun y239 => (if (t232.length : Int) > 1 then ((some (([46] : List Int) : List Int)).bind fun y242 => (if y239.length + y242.length < 140737488355328 then ((some (y239 ++ y242 : List Int)).bind fun y245 => (if 1 ≤ (t232.length : Int) then ((some (t232.drop 1 : List Int)).bind fun y248 => (if y245.length + y248.length < 140737488355328 then ((some (y245 ++ y248 : List Int)).bind fun y252 => ((some (([101] : List Int) : List Int)).bind fun y255 => (if y252.length + y255.length < 140737488355328 then ((some (y252 ++ y255 : List Int)).bind fun y258 => ((spec_l3of.f kj11 (wrap64 ((wrap64 ((t232.length : Int) + a0_2)) - 1))).bind fun bt261 => ((spec_l3text.f kj11 bt261.1 bt261.2).bind fun t265 => (if y258.length + t265.length < 140737488355328 then (some (y258 ++ t265)) else (none))))) else (none)))) else (none))) else (none))) else (none))) else ((some (([101] : List Int) : List Int)).bind fun y271 => (if y239.length + y271.length < 140737488355328 then ((some (y239 ++ y271 : List Int)).bind fun y274 => ((spec_l3of.f kj11 (wrap64 ((wrap64 ((t232.length : Int) + a0_2)) - 1))).bind fun bt277 => ((spec_l3text.f kj11 bt277.1 bt277.2).bind fun t281 => (if y274.length + t281.length < 140737488355328 then (some (y274 ++ t281)) else (none))))) else (none))))) else (none)) = some r := by first | (rw [hy236]; with_reducible exact H) | (have H2_ := (Option.bind_some _ _).symm.trans H; rw [hy236]; with_reducible exact H2_) | (have H2_ := (Option.bind_some _ _).symm.trans H; with_reducible exact H2_) | with_reducible exact H | (rw [hy236]; exact H) | exact H
       have Ny236 := Aside0.mk hy236
       clear hy236
       by_cases c20 : x3_1.length + y236.length < 140737488355328
       ·rw [if_pos c20] at H
        have LMc20 := Aside0.mk c20
        clear c20
        obtain ⟨y239, hy239⟩ : ∃ y_ : List Int, y_ = (x3_1 ++ y236) := ⟨_, rfl⟩
        replace H : (if (t232.length : Int) > 1 then ((some (([46] : List Int) : List Int)).bind fun y242 => (if y239.length + y242.length < 140737488355328 then ((some (y239 ++ y242 : List Int)).bind fun y245 => (if 1 ≤ (t232.length : Int) then ((some (t232.drop 1 : List Int)).bind fun y248 => (if y245.length + y248.length < 140737488355328 then ((some (y245 ++ y248 : List Int)).bind fun y252 => ((some (([101] : List Int) : List Int)).bind fun y255 => (if y252.length + y255.length < 140737488355328 then ((some (y252 ++ y255 : List Int)).bind fun y258 => ((spec_l3of.f kj11 (wrap64 ((wrap64 ((t232.length : Int) + a0_2)) - 1))).bind fun bt261 => ((spec_l3text.f kj11 bt261.1 bt261.2).bind fun t265 => (if y258.length + t265.length < 140737488355328 then (some (y258 ++ t265)) else (none))))) else (none)))) else (none))) else (none))) else (none))) else ((some (([101] : List Int) : List Int)).bind fun y271 => (if y239.length + y271.length < 140737488355328 then ((some (y239 ++ y271 : List Int)).bind fun y274 => ((spec_l3of.f kj11 (wrap64 ((wrap64 ((t232.length : Int) + a0_2)) - 1))).bind fun bt277 => ((spec_l3text.f kj11 bt277.1 bt277.2).bind fun t281 => (if y274.length + t281.length < 140737488355328 then (some (y274 ++ t281)) else (none))))) else (none)))) = some r := by first | (rw [hy239]; with_reducible exact H) | (have H2_ := (Option.bind_some _ _).symm.trans H; rw [hy239]; with_reducible exact H2_) | (have H2_ := (Option.bind_some _ _).symm.trans H; with_reducible exact H2_) | with_reducible exact H | (rw [hy239]; exact H) | exact H
        have Ny239 := Aside0.mk hy239
        clear hy239
        by_cases c21 : (t232.length : Int) > 1
        ·rw [if_pos c21] at H
         have c21b0 : decide (1 < (t232.length : Int)) = true := decide_eq_true c21
         have c21b1 : decide (1 < t232.length) = true := decide_eq_true (by omega)
         clear c21
         obtain ⟨y242, hy242⟩ : ∃ y_ : List Int, y_ = (([46] : List Int)) := ⟨_, rfl⟩
         replace H : (if y239.length + y242.length < 140737488355328 then ((some (y239 ++ y242 : List Int)).bind fun y245 => (if 1 ≤ (t232.length : Int) then ((some (t232.drop 1 : List Int)).bind fun y248 => (if y245.length + y248.length < 140737488355328 then ((some (y245 ++ y248 : List Int)).bind fun y252 => ((some (([101] : List Int) : List Int)).bind fun y255 => (if y252.length + y255.length < 140737488355328 then ((some (y252 ++ y255 : List Int)).bind fun y258 => ((spec_l3of.f kj11 (wrap64 ((wrap64 ((t232.length : Int) + a0_2)) - 1))).bind fun bt261 => ((spec_l3text.f kj11 bt261.1 bt261.2).bind fun t265 => (if y258.length + t265.length < 140737488355328 then (some (y258 ++ t265)) else (none))))) else (none)))) else (none))) else (none))) else (none)) = some r := by first | (rw [hy242]; with_reducible exact H) | (have H2_ := (Option.bind_some _ _).symm.trans H; rw [hy242]; with_reducible exact H2_) | (have H2_ := (Option.bind_some _ _).symm.trans H; with_reducible exact H2_) | with_reducible exact H | (rw [hy242]; exact H) | exact H
         have Ny242 := Aside0.mk hy242
         clear hy242
         by_cases c22 : y239.length + y242.length < 140737488355328
         ·rw [if_pos c22] at H
          have LMc22 := Aside0.mk c22
          clear c22
          obtain ⟨y245, hy245⟩ : ∃ y_ : List Int, y_ = (y239 ++ y242) := ⟨_, rfl⟩
          replace H : (if 1 ≤ (t232.length : Int) then ((some (t232.drop 1 : List Int)).bind fun y248 => (if y245.length + y248.length < 140737488355328 then ((some (y245 ++ y248 : List Int)).bind fun y252 => ((some (([101] : List Int) : List Int)).bind fun y255 => (if y252.length + y255.length < 140737488355328 then ((some (y252 ++ y255 : List Int)).bind fun y258 => ((spec_l3of.f kj11 (wrap64 ((wrap64 ((t232.length : Int) + a0_2)) - 1))).bind fun bt261 => ((spec_l3text.f kj11 bt261.1 bt261.2).bind fun t265 => (if y258.length + t265.length < 140737488355328 then (some (y258 ++ t265)) else (none))))) else (none)))) else (none))) else (none)) = some r := by first | (rw [hy245]; with_reducible exact H) | (have H2_ := (Option.bind_some _ _).symm.trans H; rw [hy245]; with_reducible exact H2_) | (have H2_ := (Option.bind_some _ _).symm.trans H; with_reducible exact H2_) | with_reducible exact H | (rw [hy245]; exact H) | exact H
          have Ny245 := Aside0.mk hy245
          clear hy245
          by_cases c23 : 1 ≤ (t232.length : Int)
          ·rw [if_pos c23] at H
           have c23b0 := eq_true c23
           have c23b1 : decide (1 ≤ (t232.length : Int)) = true := decide_eq_true c23
           clear c23
           obtain ⟨y248, hy248⟩ : ∃ y_ : List Int, y_ = (t232.drop 1) := ⟨_, rfl⟩
           replace H : (if y245.length + y248.length < 140737488355328 then ((some (y245 ++ y248 : List Int)).bind fun y252 => ((some (([101] : List Int) : List Int)).bind fun y255 => (if y252.length + y255.length < 140737488355328 then ((some (y252 ++ y255 : List Int)).bind fun y258 => ((spec_l3of.f kj11 (wrap64 ((wrap64 ((t232.length : Int) + a0_2)) - 1))).bind fun bt261 => ((spec_l3text.f kj11 bt261.1 bt261.2).bind fun t265 => (if y258.length + t265.length < 140737488355328 then (some (y258 ++ t265)) else (none))))) else (none)))) else (none)) = some r := by first | (rw [hy248]; with_reducible exact H) | (have H2_ := (Option.bind_some _ _).symm.trans H; rw [hy248]; with_reducible exact H2_) | (have H2_ := (Option.bind_some _ _).symm.trans H; with_reducible exact H2_) | with_reducible exact H | (rw [hy248]; exact H) | exact H
           have Ny248 := Aside0.mk hy248
           clear hy248
           by_cases c24 : y245.length + y248.length < 140737488355328
           ·rw [if_pos c24] at H
            have LMc24 := Aside0.mk c24
            clear c24
            obtain ⟨y252, hy252⟩ : ∃ y_ : List Int, y_ = (y245 ++ y248) := ⟨_, rfl⟩
            replace H : ((some (([101] : List Int) : List Int)).bind fun y255 => (if y252.length + y255.length < 140737488355328 then ((some (y252 ++ y255 : List Int)).bind fun y258 => ((spec_l3of.f kj11 (wrap64 ((wrap64 ((t232.length : Int) + a0_2)) - 1))).bind fun bt261 => ((spec_l3text.f kj11 bt261.1 bt261.2).bind fun t265 => (if y258.length + t265.length < 140737488355328 then (some (y258 ++ t265)) else (none))))) else (none))) = some r := by first | (rw [hy252]; with_reducible exact H) | (have H2_ := (Option.bind_some _ _).symm.trans H; rw [hy252]; with_reducible exact H2_) | (have H2_ := (Option.bind_some _ _).symm.trans H; with_reducible exact H2_) | with_reducible exact H | (rw [hy252]; exact H) | exact H
            have Ny252 := Aside0.mk hy252
            clear hy252
            obtain ⟨y255, hy255⟩ : ∃ y_ : List Int, y_ = (([101] : List Int)) := ⟨_, rfl⟩
            replace H : (if y252.length + y255.length < 140737488355328 then ((some (y252 ++ y255 : List Int)).bind fun y258 => ((spec_l3of.f kj11 (wrap64 ((wrap64 ((t232.length : Int) + a0_2)) - 1))).bind fun bt261 => ((spec_l3text.f kj11 bt261.1 bt261.2).bind fun t265 => (if y258.length + t265.length < 140737488355328 then (some (y258 ++ t265)) else (none))))) else (none)) = some r := by first | (rw [hy255]; with_reducible exact H) | (have H2_ := (Option.bind_some _ _).symm.trans H; rw [hy255]; with_reducible exact H2_) | (have H2_ := (Option.bind_some _ _).symm.trans H; with_reducible exact H2_) | with_reducible exact H | (rw [hy255]; exact H) | exact H
            have Ny255 := Aside0.mk hy255
            clear hy255
            by_cases c25 : y252.length + y255.length < 140737488355328
            ·rw [if_pos c25] at H
             have LMc25 := Aside0.mk c25
             clear c25
             obtain ⟨y258, hy258⟩ : ∃ y_ : List Int, y_ = (y252 ++ y255) := ⟨_, rfl⟩
             replace H : ((spec_l3of.f kj11 (wrap64 ((wrap64 ((t232.length : Int) + a0_2)) - 1))).bind fun bt261 => ((spec_l3text.f kj11 bt261.1 bt261.2).bind fun t265 => (if y258.length + t265.length < 140737488355328 then (some (y258 ++ t265)) else (none)))) = some r := by first | (rw [hy258]; with_reducible exact H) | (have H2_ := (Option.bind_some _ _).symm.trans H; rw [hy258]; with_reducible exact H2_) | (have H2_ := (Option.bind_some _ _).symm.trans H; with_reducible exact H2_) | with_reducible exact H | (rw [hy258]; exact H) | exact H
             have Ny258 := Aside0.mk hy258
             clear hy258
             replace H := hBi H
             obtain ⟨⟨t261, t262⟩, A260, H⟩ := H
             replace H : ((spec_l3text.f kj11 t261 t262).bind fun t265 => (if y258.length + t265.length < 140737488355328 then (some (y258 ++ t265)) else (none))) = some r := H
             have A26 := Aside0.mk A260
             clear A260
             replace H := hBi H
             obtain ⟨t265, A270, H⟩ := H
             replace H : (if y258.length + t265.length < 140737488355328 then (some (y258 ++ t265)) else (none)) = some r := H
             have A27 := Aside0.mk A270
             clear A270
             by_cases c28 : y258.length + t265.length < 140737488355328
             ·rw [if_pos c28] at H
              have LMc28 := Aside0.mk c28
              clear c28
              obtain ⟨y268, hy268⟩ : ∃ y_ : List Int, y_ = (y258 ++ t265) := ⟨_, rfl⟩
              replace H : (some y268) = some r := by first | (rw [hy268]; with_reducible exact H) | (have H2_ := (Option.bind_some _ _).symm.trans H; rw [hy268]; with_reducible exact H2_) | (have H2_ := (Option.bind_some _ _).symm.trans H; with_reducible exact H2_) | with_reducible exact H | (rw [hy268]; exact H) | exact H
              have Ny268 := Aside0.mk hy268
              clear hy268
              obtain rfl := Option.some.inj H
              have p235 : 0 ≤ (0 : Int) := (by omega)
              have q235 : 0 < (t232.length : Int) := of_decide_eq_true (by first | (with_reducible assumption) | assumption)
              obtain ⟨ad235, e235, hx235_0⟩ := Kd.at_int (Kd.R_reads' HO_4.out).2.2 0 p235 q235
              cases e235
              have qi235 : (0 < t232.length) = True := eq_true (by omega)
              (try rw [show ((0 : Int)).toNat = 0 from rfl] at hx235_0)
              (try rw [Addr.add_zero'] at hx235_0)
              replace p235 := eq_true p235
              replace q235 := eq_true q235
              try go_wp2_with (first | ((with_reducible refine gate_dst (N := 32) rfl ?_); refine Kd.R_lit (Kd.int .u8) _ 5 ?hg (N := 32) ?hd (xs := ([rd t232 0] : List Int)) (inner := [.int .u8 (rd t232 0)]) (ok := fun _ => True) (okp := fun _ => True) ?hr ?hp (fun _ hk => hk) trivial (Below.refl _ _) (Nat.le_refl _) (by simp) ?_; (case hd => rfl); (case hg => rfl); (case hr => first | (go_simp; done) | (go_simp; rfl)); (case hp => exact (Reps.one (show Kd.M (Kd.int .u8) _ _ _ (rd t232 0) [.int .u8 (rd t232 0)] from rfl) (Reps.none _ _))); intro v237 w29 ho30 hb hg_ hnew_; clear hg_ hnew_; (first | rw [← Ny236.out] at ho30 | (simp only [Int.reduceToNat] at ho30; rw [← Ny236.out] at ho30) | (simp only [Int.toNat_zero, List.replicate_zero] at ho30; rw [← Ny236.out] at ho30)); have n_ := hkA (Aside0.mk (Kd.R_elder' (hkR HO_3) (Kd.R_base ho30) hb)) (hkA (Aside0.mk (Kd.R_elder' (hkR HO_4) (Kd.R_base ho30) hb)) (hkA (Aside0.mk (Kd.R_lower (Kd.R_new' (Kd.R_new' ho30 (Kd.R_lt (hkR HO_3))) (Kd.R_lt (hkR HO_4))) (below_size (hkS HB)))) (hkA (hkBb BK225 hb) (hkU HB hb)))); clear HO_3 HO_4 BK225 HB; obtain ⟨HO_3, HO_4, HO238, BK225, HB⟩ := n_; clear hb ho30; obtain ⟨Ao32, co32, eo32⟩ := Kd.R_slice HO238.out; subst eo32) | ((with_reducible refine gate_builtin (b := .append) (xs := #[.tmp 28, .tmp 32]) rfl ?_); at_builtin; refine Kd.R_append_rows (Kd.int .u8) (w0 := w) w.heap.size rfl (.tmp 28) (.tmp 32) 28 5 (.int .u8 0) 1 rfl Tryd.underlying28 info5 rfl (by decide) (by omega) u3 x3_1 y236 _ _ _ (fun k_ => some k_ ≠ (.slice (some ad235) t232.length co15 : Value).ownBlock ∧ some k_ ≠ (.slice Ao32 y236.length co32 : Value).ownBlock) (fun _ => False) rfl rfl ?aO ?aR (fun _ _ h => h) (fun _ h => h.elim) ?aF ?aB ?aS ?aL ?_; (case aR => exact hkC ((Kd.R_reads' HO238.out).2.2)); (case aB => exact (hkS HB)); (case aF => exact (fun k_ hk => ⟨Kd.fresh' (Kd.R_lt (hkR HO_4)) k_ hk, Kd.fresh' (Kd.R_lt (hkR HO238)) k_ hk⟩)); (case aO => exact (hkR HO_3)); (case aS => exact (below_size (hkS HB))); (case aL => have := LMc20.out; omega); intro v240 w31 ho hb hg hat; rw [← Ny239.out] at ho; have n_ := hkA (Aside0.mk (Kd.R_after (ok := (fun k_ => some k_ ≠ (.slice Ao32 y236.length co32 : Value).ownBlock)) (by (with_reducible repeat (first | apply Kd.R_alloc | apply Kd.R_drewN | apply Kd.R_drew)); exact Kd.R_mono HO_4.out (fun _ hk => ⟨hk.2, hk.1⟩)) hg hat)) (hkA (Aside0.mk (blk_grown (g := gb225) (o := .cells #[.bool a0_0, .slice A0_1 l0_1.length c0_1, .int .i64 a0_2] 32 (0, 0)) (hkB BK225) hg (Kd.R_ne HO_3.out BK225.out (by decide)))) (hkA (Aside0.mk (Kd.R_after (ok := (fun k_ => some k_ ≠ (.slice (some ad235) t232.length co15 : Value).ownBlock)) (by (with_reducible repeat (first | apply Kd.R_alloc | apply Kd.R_drewN | apply Kd.R_drew)); exact Kd.R_mono HO238.out (fun _ hk => ⟨hk.2, hk.1.2⟩)) hg hat)) (hkA (Aside0.mk (hb)) (Aside0.mk (ho))))); clear HO_4 BK225 HO238 HB HO_3; obtain ⟨HO_4, BK225, HO238, HB, HO241⟩ := n_; clear ho hb hg hat))
              have n_ := hkA (Aside0.mk (Kd.R_drew HO_4.out)) (hkA (Aside0.mk (Kd.R_drew HO238.out)) (hkA (Aside0.mk (Kd.R_drew HO241.out)) (hkA (Aside0.mk (blk_drew BK225.out)) (Aside0.mk (below_drew1 HB.out)))))
              clear HO_4 HO238 HO241 BK225 HB
              obtain ⟨HO_4, HO238, HO241, BK225, HB⟩ := n_
              have q34 : (1 : Int) ≤ ((t232.length : Int) : Int) := of_decide_eq_true (by first | (with_reducible assumption) | assumption)
              obtain ⟨i034, hi034, _, hsz34, _⟩ := info_parts info5
              have hroom34 : t232.length ≤ co15 := (Kd.R_reads' HO_4.out).2.1
              have hC34 : Kd.C (Kd.int .u8) _ (some ad235) t232.length t232 := (Kd.R_reads' HO_4.out).2.2
              have hcut34 := cut_from (P := Tryd.prog) 28 5 .i64 Tryd.underlying28 hi034 1 hsz34 (some ad235) t232.length co15 1 (by omega) q34
              have hr34 := Kd.C_drop (m := (1 : Int).toNat) (c := co15) hC34 (by omega) hroom34
              obtain ⟨A34, hA34⟩ : ∃ A1, A1 = (if co15 = (1 : Int).toNat then (some ad235) else ((some ad235) : Option Addr).map (·.add ((1 : Int).toNat * 1))) := ⟨_, rfl⟩
              obtain ⟨c34, hc34⟩ : ∃ c1, c1 = co15 - (1 : Int).toNat := ⟨_, rfl⟩
              have hy34 : y248.length = t232.length - (1 : Int).toNat := (by rw [Ny248.out, List.length_drop] <;> omega)
              rw [show (t232).drop (1 : Int).toNat = y248 from Ny248.out.symm] at hr34
              replace hr34 : Kd.C (Kd.int .u8) _ A34 y248.length y248 := (by rw [hA34]; exact hr34)
              rw [← hy34, ← hA34, ← hc34] at hcut34
              have HR251 := Aside0.mk hr34
              have HC251 := Aside0.mk (show y248.length ≤ c34 from by rw [hy34, hc34]; exact Nat.sub_le_sub_right hroom34 _)
              clear hr34 hC34 hroom34 hi034 hsz34 hc34
              have KY34 := Aside0.mk hy34
              have KA34 := Aside0.mk hA34
              clear hy34 hA34
              have KL34 := Aside0.mk (show 1 ≤ t232.length from by omega)
              replace q34 := eq_true q34
              refine start_ (n := 7) (S := fun w' => True) (ds := []) #[false, false, false, false, false, false, false] (by kernel_rfl) rfl rfl trivial (fun hHeld => ?_)
              generalize w31.drew = w33 at HO_4 HO238 HO241 BK225 HB HR251 hHeld ⊢
              refine hkPu (i := 0) (N := some 37) ?_
              refine hkPu (i := 3) (N := some 40) ?_
              refine hkPu (i := 4) (N := some 41) ?_
              refine one_ (i := 1) (N := some 38) #[true, true, false, true, true, false, false] rfl rfl (by kernel_rfl) (by decide) (fun K hK => ?_)
              refine Kd.R_lit_step (Kd.int .u8) _ 5 ?hg (N := 38) ?hd (xs := ([46] : List Int)) (inner := [.int .u8 46]) (ok := fun _ => True) (okp := fun _ => True) ?hr ?hp (fun _ hk => hk) trivial (Below.refl _ _) (Nat.le_refl _) (by simp) ?_; (case hd => rfl); (case hg => rfl); (case hr => first | (go_simp; done) | (go_simp; rfl)); (case hp => exact (Reps.one (show Kd.M (Kd.int .u8) _ _ _ 46 [.int .u8 46] from rfl) (Reps.none _ _)))
              intro v243 w35 ho36 hb hg_ hnew_
              clear hg_ hnew_
              (first | rw [← Ny242.out] at ho36 | (simp only [Int.reduceToNat] at ho36; rw [← Ny242.out] at ho36) | (simp only [Int.toNat_zero, List.replicate_zero] at ho36; rw [← Ny242.out] at ho36))
              have n_ := hkA (Aside0.mk (Kd.R_elder' (hkR HO_4) (Kd.R_base ho36) hb)) (hkA (Aside0.mk (Kd.R_elder' (hkR HO238) (Kd.R_base ho36) hb)) (hkA (Aside0.mk (Kd.R_elder' (hkR HO241) (Kd.R_base ho36) hb)) (hkA (Aside0.mk (Kd.R_lower (Kd.R_new' (Kd.R_new' (Kd.R_new' ho36 (Kd.R_lt (hkR HO_4))) (Kd.R_lt (hkR HO238))) (Kd.R_lt (hkR HO241))) (below_size (hkS HB)))) (hkA (hkBb BK225 hb) (hkA (Aside0.mk (Kd.C_below (by repeat (first | (with_reducible exact HR251.out) | (with_reducible refine Kd.C_alloc ?_ _) | (with_reducible refine Kd.C_drewN ?_ _) | (with_reducible refine Kd.C_drew ?_) | exact HR251.out)) hb)) (hkU HB hb))))))
              clear HO_4 HO238 HO241 BK225 HR251 HB
              obtain ⟨HO_4, HO238, HO241, HO244, BK225, HR251, HB⟩ := n_
              clear hb ho36
              obtain ⟨Ao38, co38, eo38⟩ := Kd.R_slice HO244.out
              (first | subst eo38 | (injection eo38 with f1_ f2_ f3_; have f4_ := f1_.symm; have f5_ := f3_.symm; clear f1_ f2_ f3_; subst f4_; subst f5_))
              refine hK.out _ _ trivial (fun hHeld => ?_)
              clear hK K
              refine hkNo (N := some 38) ?_
              refine one_ (i := 2) (N := some 39) #[true, true, true, true, true, false, false] rfl rfl (by kernel_rfl) (by decide) (fun K hK => ?_)
              refine Kd.R_append_rows_step (Kd.int .u8) (w0 := w) w.heap.size (by rfl) (.tmp 37) (.tmp 38) 28 5 (.int .u8 0) 1 rfl Tryd.underlying28 info5 rfl (by decide) (by omega) v240 y239 y242 _ _ _ (fun k_ => some k_ ≠ (.slice (some ad235) t232.length co15 : Value).ownBlock ∧ some k_ ≠ (.slice Ao32 y236.length co32 : Value).ownBlock ∧ some k_ ≠ (.slice Ao38 y242.length co38 : Value).ownBlock) (fun _ => False) rfl rfl ?aO ?aR (fun _ _ h => h) (fun _ h => h.elim) ?aF ?aB ?aS ?aL ?_
              (case aR => exact hkC ((Kd.R_reads' HO244.out).2.2))
              (case aB => exact (hkS HB))
              (case aF => exact (fun k_ hk => ⟨Kd.fresh' (Kd.R_lt (hkR HO_4)) k_ hk, Kd.fresh' (Kd.R_lt (hkR HO238)) k_ hk, Kd.fresh' (Kd.R_lt (hkR HO244)) k_ hk⟩))
              (case aO => exact (by (with_reducible repeat (first | apply Kd.R_alloc | apply Kd.R_drewN | apply Kd.R_drew)); exact Kd.R_mono HO241.out (fun _ hk => ⟨hk.1.1, ⟨hk.1.2, hk.2⟩⟩)))
              (case aS => exact (below_size (hkS HB)))
              (case aL => have := LMc22.out; omega)
              intro v246 w37 ho hb hg hat
              rw [← Ny245.out] at ho
              have n_ := hkA (Aside0.mk (Kd.R_after (ok := (fun k_ => some k_ ≠ (.slice Ao32 y236.length co32 : Value).ownBlock ∧ some k_ ≠ (.slice Ao38 y242.length co38 : Value).ownBlock)) (by (with_reducible repeat (first | apply Kd.R_alloc | apply Kd.R_drewN | apply Kd.R_drew)); exact Kd.R_mono HO_4.out (fun _ hk => ⟨⟨hk.1.1, hk.2⟩, hk.1.2⟩)) hg hat)) (hkA (Aside0.mk (blk_grown (g := gb225) (o := .cells #[.bool a0_0, .slice A0_1 l0_1.length c0_1, .int .i64 a0_2] 32 (0, 0)) (hkB BK225) hg (Kd.R_ne HO241.out BK225.out (by decide)))) (hkA (Aside0.mk (Kd.R_after (ok := (fun k_ => some k_ ≠ (.slice (some ad235) t232.length co15 : Value).ownBlock ∧ some k_ ≠ (.slice Ao38 y242.length co38 : Value).ownBlock)) (by (with_reducible repeat (first | apply Kd.R_alloc | apply Kd.R_drewN | apply Kd.R_drew)); exact Kd.R_mono HO238.out (fun _ hk => ⟨⟨hk.1.1, hk.2⟩, hk.1.2⟩)) hg hat)) (hkA (Aside0.mk (Kd.R_after (ok := (fun k_ => some k_ ≠ (.slice (some ad235) t232.length co15 : Value).ownBlock ∧ some k_ ≠ (.slice Ao32 y236.length co32 : Value).ownBlock)) (by (with_reducible repeat (first | apply Kd.R_alloc | apply Kd.R_drewN | apply Kd.R_drew)); exact Kd.R_mono HO244.out (fun _ hk => ⟨⟨hk.1.1.2, hk.1.2⟩, hk.2⟩)) hg hat)) (hkA (Aside0.mk (hb)) (hkA (Aside0.mk ((show Kd.C (Kd.int .u8) w37 A34 y248.length y248 from by rw [Ny248.out, KA34.out]; exact Kd.C_drop (m := 1) (c := co15) ((Kd.R_reads' (Kd.R_after (ok := (fun k_ => some k_ ≠ (.slice Ao32 y236.length co32 : Value).ownBlock ∧ some k_ ≠ (.slice Ao38 y242.length co38 : Value).ownBlock)) (by (with_reducible repeat (first | apply Kd.R_alloc | apply Kd.R_drewN | apply Kd.R_drew)); exact Kd.R_mono HO_4.out (fun _ hk => ⟨⟨hk.1.1, hk.2⟩, hk.1.2⟩)) hg hat)).2.2) KL34.out ((Kd.R_reads' (Kd.R_after (ok := (fun k_ => some k_ ≠ (.slice Ao32 y236.length co32 : Value).ownBlock ∧ some k_ ≠ (.slice Ao38 y242.length co38 : Value).ownBlock)) (by (with_reducible repeat (first | apply Kd.R_alloc | apply Kd.R_drewN | apply Kd.R_drew)); exact Kd.R_mono HO_4.out (fun _ hk => ⟨⟨hk.1.1, hk.2⟩, hk.1.2⟩)) hg hat)).2.1)))) (Aside0.mk (ho)))))))
              clear HO_4 BK225 HO238 HO244 HB HR251 HO241
              obtain ⟨HO_4, BK225, HO238, HO244, HB, HR251, HO247⟩ := n_
              clear ho hb hg hat
              refine hK.out _ _ trivial (fun hHeld => ?_)
              clear hK K
              refine hkNo (N := some 39) ?_
              refine one_ (i := 5) (N := some 42) #[true, true, true, true, true, true, false] rfl rfl (by kernel_rfl) (by decide) (fun K hK => ?_)
              refine Kd.R_append_rows_step (Kd.int .u8) (w0 := w) w.heap.size (by rfl) (.tmp 39) (.tmp 41) 28 5 (.int .u8 0) 1 rfl Tryd.underlying28 info5 rfl (by decide) (by omega) v246 y245 y248 _ _ _ (fun k_ => some k_ ≠ (.slice (some ad235) t232.length co15 : Value).ownBlock ∧ some k_ ≠ (.slice Ao32 y236.length co32 : Value).ownBlock ∧ some k_ ≠ (.slice Ao38 y242.length co38 : Value).ownBlock) (fun _ => False) rfl rfl ?aO ?aR (fun _ _ h => h) (fun _ h => h.elim) ?aF ?aB ?aS ?aL ?_
              (case aR => repeat (first | exact (by repeat (first | (with_reducible exact HR251.out) | (with_reducible refine Kd.C_alloc ?_ _) | (with_reducible refine Kd.C_drewN ?_ _) | (with_reducible refine Kd.C_drew ?_) | exact HR251.out)) | (with_reducible refine Kd.C_alloc ?_ _) | (with_reducible refine Kd.C_drewN ?_ _) | (with_reducible refine Kd.C_drew ?_)))
              (case aB => exact (hkS HB))
              (case aF => exact (fun k_ hk => ⟨Kd.fresh' (Kd.R_lt (hkR HO_4)) k_ hk, Kd.fresh' (Kd.R_lt (hkR HO238)) k_ hk, Kd.fresh' (Kd.R_lt (hkR HO244)) k_ hk⟩))
              (case aO => exact (hkR HO247))
              (case aS => exact (below_size (hkS HB)))
              (case aL => have := LMc24.out; omega)
              intro v253 w39 ho hb hg hat
              rw [← Ny252.out] at ho
              have n_ := hkA (Aside0.mk (Kd.R_after (ok := (fun k_ => some k_ ≠ (.slice Ao32 y236.length co32 : Value).ownBlock ∧ some k_ ≠ (.slice Ao38 y242.length co38 : Value).ownBlock)) (hkR HO_4) hg hat)) (hkA (Aside0.mk (blk_grown (g := gb225) (o := .cells #[.bool a0_0, .slice A0_1 l0_1.length c0_1, .int .i64 a0_2] 32 (0, 0)) (hkB BK225) hg (Kd.R_ne HO247.out BK225.out (by decide)))) (hkA (Aside0.mk (Kd.R_after (ok := (fun k_ => some k_ ≠ (.slice (some ad235) t232.length co15 : Value).ownBlock ∧ some k_ ≠ (.slice Ao38 y242.length co38 : Value).ownBlock)) (hkR HO238) hg hat)) (hkA (Aside0.mk (Kd.R_after (ok := (fun k_ => some k_ ≠ (.slice (some ad235) t232.length co15 : Value).ownBlock ∧ some k_ ≠ (.slice Ao32 y236.length co32 : Value).ownBlock)) (hkR HO244) hg hat)) (hkA (Aside0.mk (hb)) (hkA (Aside0.mk ((show Kd.C (Kd.int .u8) w39 A34 y248.length y248 from by rw [Ny248.out, KA34.out]; exact Kd.C_drop (m := 1) (c := co15) ((Kd.R_reads' (Kd.R_after (ok := (fun k_ => some k_ ≠ (.slice Ao32 y236.length co32 : Value).ownBlock ∧ some k_ ≠ (.slice Ao38 y242.length co38 : Value).ownBlock)) (hkR HO_4) hg hat)).2.2) KL34.out ((Kd.R_reads' (Kd.R_after (ok := (fun k_ => some k_ ≠ (.slice Ao32 y236.length co32 : Value).ownBlock ∧ some k_ ≠ (.slice Ao38 y242.length co38 : Value).ownBlock)) (hkR HO_4) hg hat)).2.1)))) (Aside0.mk (ho)))))))
              clear HO_4 BK225 HO238 HO244 HB HR251 HO247
              obtain ⟨HO_4, BK225, HO238, HO244, HB, HR251, HO254⟩ := n_
              clear ho hb hg hat
              refine hK.out _ _ trivial (fun hHeld => ?_)
              clear hK K
              refine hkNo (N := some 42) ?_
              refine hkPu (i := 6) (N := some 3) ?_
              refine done_ (by kernel_rfl) ?_
              try go_wp2_with (first | ((with_reducible refine gate_dst (N := 44) rfl ?_); (first | (refine Kd.R_litmark (Kd.int .u8) _ 5 ?hg (N := 44) ?hd ?hg2 ?t2 ?ho2 ?ht2 ?he2 rfl (xs := ([101] : List Int)) (inner := [.int .u8 101]) (ok := fun _ => True) (okp := fun _ => True) ?hev ?hr ?hp (fun _ hk => hk) trivial (Below.refl _ _) (Nat.le_refl _) (by simp) ?_; (case hd => rfl); (case hg => rfl); (case hg2 => rfl); (case ho2 => rfl); (case ht2 => kernel_rfl); (case he2 => kernel_rfl); (case hev => first | rfl | (go_simp; done) | (go_simp; rfl)); (case hr => first | (go_simp; done) | (go_simp; rfl))) | (refine Kd.R_lit (Kd.int .u8) _ 5 ?hg (N := 44) ?hd (xs := ([101] : List Int)) (inner := [.int .u8 101]) (ok := fun _ => True) (okp := fun _ => True) ?hr ?hp (fun _ hk => hk) trivial (Below.refl _ _) (Nat.le_refl _) (by simp) ?_; (case hd => rfl); (case hg => rfl); (case hr => first | (go_simp; done) | (go_simp; rfl)))); (case hp => exact (Reps.one (show Kd.M (Kd.int .u8) _ _ _ 101 [.int .u8 101] from rfl) (Reps.none _ _))); intro v256 w40 ho41 hb hg_ hnew_; clear hg_ hnew_; (first | rw [← Ny255.out] at ho41 | (simp only [Int.reduceToNat] at ho41; rw [← Ny255.out] at ho41) | (simp only [Int.toNat_zero, List.replicate_zero] at ho41; rw [← Ny255.out] at ho41)); have n_ := hkA (Aside0.mk (Kd.R_elder' (hkR HO_4) (Kd.R_base ho41) hb)) (hkA (Aside0.mk (Kd.R_elder' (hkR HO238) (Kd.R_base ho41) hb)) (hkA (Aside0.mk (Kd.R_elder' (hkR HO244) (Kd.R_base ho41) hb)) (hkA (Aside0.mk (Kd.R_elder' (hkR HO254) (Kd.R_base ho41) hb)) (hkA (Aside0.mk (Kd.R_lower (Kd.R_new' (Kd.R_new' (Kd.R_new' (Kd.R_new' ho41 (Kd.R_lt (hkR HO_4))) (Kd.R_lt (hkR HO238))) (Kd.R_lt (hkR HO244))) (Kd.R_lt (hkR HO254))) (below_size (hkS HB)))) (hkA (hkBb BK225 hb) (hkA (Aside0.mk (Kd.C_below (by repeat (first | (with_reducible exact HR251.out) | (with_reducible refine Kd.C_alloc ?_ _) | (with_reducible refine Kd.C_drewN ?_ _) | (with_reducible refine Kd.C_drew ?_) | exact HR251.out)) hb)) (hkU HB hb))))))); clear HO_4 HO238 HO244 HO254 BK225 HR251 HB; obtain ⟨HO_4, HO238, HO244, HO254, HO257, BK225, HR251, HB⟩ := n_; clear hb ho41; obtain ⟨Ao43, co43, eo43⟩ := Kd.R_slice HO257.out; subst eo43) | ((with_reducible refine gate_builtin (b := .append) (xs := #[.tmp 43, .tmp 44]) rfl ?_); at_builtin; refine Kd.R_append_rows (Kd.int .u8) (w0 := w) w.heap.size rfl (.tmp 43) (.tmp 44) 28 5 (.int .u8 0) 1 rfl Tryd.underlying28 info5 rfl (by decide) (by omega) v253 y252 y255 _ _ _ (fun k_ => some k_ ≠ (.slice (some ad235) t232.length co15 : Value).ownBlock ∧ some k_ ≠ (.slice Ao32 y236.length co32 : Value).ownBlock ∧ some k_ ≠ (.slice Ao38 y242.length co38 : Value).ownBlock ∧ some k_ ≠ (.slice Ao43 y255.length co43 : Value).ownBlock) (fun _ => False) rfl rfl ?aO ?aR (fun _ _ h => h) (fun _ h => h.elim) ?aF ?aB ?aS ?aL ?_; (case aR => exact hkC ((Kd.R_reads' HO257.out).2.2)); (case aB => exact (hkS HB)); (case aF => exact (fun k_ hk => ⟨Kd.fresh' (Kd.R_lt (hkR HO_4)) k_ hk, Kd.fresh' (Kd.R_lt (hkR HO238)) k_ hk, Kd.fresh' (Kd.R_lt (hkR HO244)) k_ hk, Kd.fresh' (Kd.R_lt (hkR HO257)) k_ hk⟩)); (case aO => exact (by (with_reducible repeat (first | apply Kd.R_alloc | apply Kd.R_drewN | apply Kd.R_drew)); exact Kd.R_mono HO254.out (fun _ hk => ⟨hk.1.1, ⟨hk.1.2.1, ⟨hk.1.2.2, hk.2⟩⟩⟩))); (case aS => exact (below_size (hkS HB))); (case aL => have := LMc25.out; omega); intro v259 w42 ho hb hg hat; rw [← Ny258.out] at ho; have n_ := hkA (Aside0.mk (Kd.R_after (ok := (fun k_ => some k_ ≠ (.slice Ao32 y236.length co32 : Value).ownBlock ∧ some k_ ≠ (.slice Ao38 y242.length co38 : Value).ownBlock ∧ some k_ ≠ (.slice Ao43 y255.length co43 : Value).ownBlock)) (by (with_reducible repeat (first | apply Kd.R_alloc | apply Kd.R_drewN | apply Kd.R_drew)); exact Kd.R_mono HO_4.out (fun _ hk => ⟨⟨hk.1.1.1, ⟨hk.1.1.2, hk.2⟩⟩, hk.1.2⟩)) hg hat)) (hkA (Aside0.mk (blk_grown (g := gb225) (o := .cells #[.bool a0_0, .slice A0_1 l0_1.length c0_1, .int .i64 a0_2] 32 (0, 0)) (hkB BK225) hg (Kd.R_ne HO254.out BK225.out (by decide)))) (hkA (Aside0.mk (Kd.R_after (ok := (fun k_ => some k_ ≠ (.slice (some ad235) t232.length co15 : Value).ownBlock ∧ some k_ ≠ (.slice Ao38 y242.length co38 : Value).ownBlock ∧ some k_ ≠ (.slice Ao43 y255.length co43 : Value).ownBlock)) (by (with_reducible repeat (first | apply Kd.R_alloc | apply Kd.R_drewN | apply Kd.R_drew)); exact Kd.R_mono HO238.out (fun _ hk => ⟨⟨hk.1.1.1, ⟨hk.1.1.2, hk.2⟩⟩, hk.1.2⟩)) hg hat)) (hkA (Aside0.mk (Kd.R_after (ok := (fun k_ => some k_ ≠ (.slice (some ad235) t232.length co15 : Value).ownBlock ∧ some k_ ≠ (.slice Ao32 y236.length co32 : Value).ownBlock ∧ some k_ ≠ (.slice Ao43 y255.length co43 : Value).ownBlock)) (by (with_reducible repeat (first | apply Kd.R_alloc | apply Kd.R_drewN | apply Kd.R_drew)); exact Kd.R_mono HO244.out (fun _ hk => ⟨⟨hk.1.1.1, ⟨hk.1.1.2, hk.2⟩⟩, hk.1.2⟩)) hg hat)) (hkA (Aside0.mk (Kd.R_after (ok := (fun k_ => some k_ ≠ (.slice (some ad235) t232.length co15 : Value).ownBlock ∧ some k_ ≠ (.slice Ao32 y236.length co32 : Value).ownBlock ∧ some k_ ≠ (.slice Ao38 y242.length co38 : Value).ownBlock)) (by (with_reducible repeat (first | apply Kd.R_alloc | apply Kd.R_drewN | apply Kd.R_drew)); exact Kd.R_mono HO257.out (fun _ hk => ⟨⟨hk.1.1.1.2, ⟨hk.1.1.2, hk.1.2⟩⟩, hk.2⟩)) hg hat)) (hkA (Aside0.mk (hb)) (hkA (Aside0.mk ((show Kd.C (Kd.int .u8) w42 A34 y248.length y248 from by rw [Ny248.out, KA34.out]; exact Kd.C_drop (m := 1) (c := co15) ((Kd.R_reads' (Kd.R_after (ok := (fun k_ => some k_ ≠ (.slice Ao32 y236.length co32 : Value).ownBlock ∧ some k_ ≠ (.slice Ao38 y242.length co38 : Value).ownBlock ∧ some k_ ≠ (.slice Ao43 y255.length co43 : Value).ownBlock)) (by (with_reducible repeat (first | apply Kd.R_alloc | apply Kd.R_drewN | apply Kd.R_drew)); exact Kd.R_mono HO_4.out (fun _ hk => ⟨⟨hk.1.1.1, ⟨hk.1.1.2, hk.2⟩⟩, hk.1.2⟩)) hg hat)).2.2) KL34.out ((Kd.R_reads' (Kd.R_after (ok := (fun k_ => some k_ ≠ (.slice Ao32 y236.length co32 : Value).ownBlock ∧ some k_ ≠ (.slice Ao38 y242.length co38 : Value).ownBlock ∧ some k_ ≠ (.slice Ao43 y255.length co43 : Value).ownBlock)) (by (with_reducible repeat (first | apply Kd.R_alloc | apply Kd.R_drewN | apply Kd.R_drew)); exact Kd.R_mono HO_4.out (fun _ hk => ⟨⟨hk.1.1.1, ⟨hk.1.1.2, hk.2⟩⟩, hk.1.2⟩)) hg hat)).2.1)))) (Aside0.mk (ho)))))))); clear HO_4 BK225 HO238 HO244 HO257 HB HR251 HO254; obtain ⟨HO_4, BK225, HO238, HO244, HO257, HB, HR251, HO260⟩ := n_; clear ho hb hg hat) | ((with_reducible refine gate_callee (f := 26) rfl ?_); refine hkGo (N := some 48) Tryd.func26 #[.int .i64 (wrap64 ((wrap64 ((t232.length : Int) + a0_2)) - 1))] ?_; (with_reducible refine (spec_l3of.calls kj11 (wrap64 ((wrap64 ((t232.length : Int) + a0_2)) - 1)) t261 t262 _ A26.out).mono ?_); rintro e w44 ⟨v263, rfl, ho0, hb⟩; refine ⟨_, rfl, ?_⟩; have n_ := hkA (hkRb HO_4 hb) (hkA (hkRb HO238 hb) (hkA (hkRb HO244 hb) (hkA (hkRb HO257 hb) (hkA (hkRb HO260 hb) (hkA (Aside0.mk (Kd.R_lower ho0 (below_size (hkS HB)))) (hkA (hkBb BK225 hb) (hkA (Aside0.mk (Kd.C_below (by repeat (first | (with_reducible exact HR251.out) | (with_reducible refine Kd.C_alloc ?_ _) | (with_reducible refine Kd.C_drewN ?_ _) | (with_reducible refine Kd.C_drew ?_) | exact HR251.out)) hb)) (hkU HB hb)))))))); clear HO_4 HO238 HO244 HO257 HO260 BK225 HR251 HB; obtain ⟨HO_4, HO238, HO244, HO257, HO260, HO264, BK225, HR251, HB⟩ := n_; (try clear hb); (try clear hk); (try clear ho0); obtain ⟨Ao45, co45, eo45⟩ := Kd.R_slice HO264.out; subst eo45) | ((with_reducible refine gate_callee (f := 25) rfl ?_); refine hkGo (N := some 49) Tryd.func25 #[.agg #[.bool t261, .slice Ao45 t262.length co45]] ?_; (with_reducible refine (spec_l3text.calls kj11 t261 _ _ t262 t265 _ ?side1 ?side2 A27.out).mono ?_); (case side1 => exact hkC ((Kd.R_reads' HO264.out).2.2)); (case side2 => exact (Kd.R_reads' HO264.out).2.1); rintro e w46 ⟨v266, rfl, ho0, hb⟩; refine ⟨_, rfl, ?_⟩; have n_ := hkA (Aside0.mk (Kd.R_elder' (hkR HO_4) (Kd.R_base ho0) hb)) (hkA (Aside0.mk (Kd.R_elder' (hkR HO238) (Kd.R_base ho0) hb)) (hkA (Aside0.mk (Kd.R_elder' (hkR HO244) (Kd.R_base ho0) hb)) (hkA (Aside0.mk (Kd.R_elder' (hkR HO257) (Kd.R_base ho0) hb)) (hkA (Aside0.mk (Kd.R_elder' (hkR HO260) (Kd.R_base ho0) hb)) (hkA (hkRb HO264 hb) (hkA (Aside0.mk (Kd.R_lower (Kd.R_new' (Kd.R_new' (Kd.R_new' (Kd.R_new' (Kd.R_new' ho0 (Kd.R_lt (hkR HO_4))) (Kd.R_lt (hkR HO238))) (Kd.R_lt (hkR HO244))) (Kd.R_lt (hkR HO257))) (Kd.R_lt (hkR HO260))) (below_size (hkS HB)))) (hkA (hkBb BK225 hb) (hkA (Aside0.mk (Kd.C_below (by repeat (first | (with_reducible exact HR251.out) | (with_reducible refine Kd.C_alloc ?_ _) | (with_reducible refine Kd.C_drewN ?_ _) | (with_reducible refine Kd.C_drew ?_) | exact HR251.out)) hb)) (hkU HB hb))))))))); clear HO_4 HO238 HO244 HO257 HO260 HO264 BK225 HR251 HB; obtain ⟨HO_4, HO238, HO244, HO257, HO260, HO264, HO267, BK225, HR251, HB⟩ := n_; (try clear hb); (try clear hk); (try clear ho0); obtain ⟨Ao48, co48, eo48⟩ := Kd.R_slice HO267.out; subst eo48) | ((with_reducible refine gate_builtin (b := .append) (xs := #[.tmp 45, .tmp 49]) rfl ?_); at_builtin; refine Kd.R_append_rows (Kd.int .u8) (w0 := w) w.heap.size rfl (.tmp 45) (.tmp 49) 28 5 (.int .u8 0) 1 rfl Tryd.underlying28 info5 rfl (by decide) (by omega) v259 y258 t265 _ _ _ (fun k_ => some k_ ≠ (.slice (some ad235) t232.length co15 : Value).ownBlock ∧ some k_ ≠ (.slice Ao32 y236.length co32 : Value).ownBlock ∧ some k_ ≠ (.slice Ao38 y242.length co38 : Value).ownBlock ∧ some k_ ≠ (.slice Ao43 y255.length co43 : Value).ownBlock ∧ some k_ ≠ (.slice Ao48 t265.length co48 : Value).ownBlock) (fun _ => False) rfl rfl ?aO ?aR (fun _ _ h => h) (fun _ h => h.elim) ?aF ?aB ?aS ?aL ?_; (case aR => exact hkC ((Kd.R_reads' HO267.out).2.2)); (case aB => exact (hkS HB)); (case aF => exact (fun k_ hk => ⟨Kd.fresh' (Kd.R_lt (hkR HO_4)) k_ hk, Kd.fresh' (Kd.R_lt (hkR HO238)) k_ hk, Kd.fresh' (Kd.R_lt (hkR HO244)) k_ hk, Kd.fresh' (Kd.R_lt (hkR HO257)) k_ hk, Kd.fresh' (Kd.R_lt (hkR HO267)) k_ hk⟩)); (case aO => exact (by (with_reducible repeat (first | apply Kd.R_alloc | apply Kd.R_drewN | apply Kd.R_drew)); exact Kd.R_mono HO260.out (fun _ hk => ⟨hk.1.1, ⟨hk.1.2.1, ⟨hk.1.2.2.1, ⟨hk.1.2.2.2, hk.2⟩⟩⟩⟩))); (case aS => exact (below_size (hkS HB))); (case aL => have := LMc28.out; omega); intro v269 w47 ho hb hg hat; rw [← Ny268.out] at ho; have n_ := hkA (Aside0.mk (Kd.R_after (ok := (fun k_ => some k_ ≠ (.slice Ao32 y236.length co32 : Value).ownBlock ∧ some k_ ≠ (.slice Ao38 y242.length co38 : Value).ownBlock ∧ some k_ ≠ (.slice Ao43 y255.length co43 : Value).ownBlock ∧ some k_ ≠ (.slice Ao48 t265.length co48 : Value).ownBlock)) (by (with_reducible repeat (first | apply Kd.R_alloc | apply Kd.R_drewN | apply Kd.R_drew)); exact Kd.R_mono HO_4.out (fun _ hk => ⟨⟨hk.1.1.1, ⟨hk.1.1.2.1, ⟨hk.1.1.2.2, hk.2⟩⟩⟩, hk.1.2⟩)) hg hat)) (hkA (Aside0.mk (blk_grown (g := gb225) (o := .cells #[.bool a0_0, .slice A0_1 l0_1.length c0_1, .int .i64 a0_2] 32 (0, 0)) (hkB BK225) hg (Kd.R_ne HO260.out BK225.out (by decide)))) (hkA (Aside0.mk (Kd.R_after (ok := (fun k_ => some k_ ≠ (.slice (some ad235) t232.length co15 : Value).ownBlock ∧ some k_ ≠ (.slice Ao38 y242.length co38 : Value).ownBlock ∧ some k_ ≠ (.slice Ao43 y255.length co43 : Value).ownBlock ∧ some k_ ≠ (.slice Ao48 t265.length co48 : Value).ownBlock)) (by (with_reducible repeat (first | apply Kd.R_alloc | apply Kd.R_drewN | apply Kd.R_drew)); exact Kd.R_mono HO238.out (fun _ hk => ⟨⟨hk.1.1.1, ⟨hk.1.1.2.1, ⟨hk.1.1.2.2, hk.2⟩⟩⟩, hk.1.2⟩)) hg hat)) (hkA (Aside0.mk (Kd.R_after (ok := (fun k_ => some k_ ≠ (.slice (some ad235) t232.length co15 : Value).ownBlock ∧ some k_ ≠ (.slice Ao32 y236.length co32 : Value).ownBlock ∧ some k_ ≠ (.slice Ao43 y255.length co43 : Value).ownBlock ∧ some k_ ≠ (.slice Ao48 t265.length co48 : Value).ownBlock)) (by (with_reducible repeat (first | apply Kd.R_alloc | apply Kd.R_drewN | apply Kd.R_drew)); exact Kd.R_mono HO244.out (fun _ hk => ⟨⟨hk.1.1.1, ⟨hk.1.1.2.1, ⟨hk.1.1.2.2, hk.2⟩⟩⟩, hk.1.2⟩)) hg hat)) (hkA (Aside0.mk (Kd.R_after (ok := (fun k_ => some k_ ≠ (.slice (some ad235) t232.length co15 : Value).ownBlock ∧ some k_ ≠ (.slice Ao32 y236.length co32 : Value).ownBlock ∧ some k_ ≠ (.slice Ao38 y242.length co38 : Value).ownBlock ∧ some k_ ≠ (.slice Ao48 t265.length co48 : Value).ownBlock)) (by (with_reducible repeat (first | apply Kd.R_alloc | apply Kd.R_drewN | apply Kd.R_drew)); exact Kd.R_mono HO257.out (fun _ hk => ⟨⟨hk.1.1.1, ⟨hk.1.1.2.1, ⟨hk.1.1.2.2, hk.2⟩⟩⟩, hk.1.2⟩)) hg hat)) (hkA (Aside0.mk (Kd.R_over' (hkR HO264) (Kd.R_typed (hkR HO260)) (by decide) hg)) (hkA (Aside0.mk (Kd.R_after (ok := (fun k_ => some k_ ≠ (.slice (some ad235) t232.length co15 : Value).ownBlock ∧ some k_ ≠ (.slice Ao32 y236.length co32 : Value).ownBlock ∧ some k_ ≠ (.slice Ao38 y242.length co38 : Value).ownBlock ∧ some k_ ≠ (.slice Ao43 y255.length co43 : Value).ownBlock)) (by (with_reducible repeat (first | apply Kd.R_alloc | apply Kd.R_drewN | apply Kd.R_drew)); exact Kd.R_mono HO267.out (fun _ hk => ⟨⟨hk.1.1.1.1.2, ⟨hk.1.1.1.2, ⟨hk.1.1.2, hk.1.2⟩⟩⟩, hk.2⟩)) hg hat)) (hkA (Aside0.mk (hb)) (hkA (Aside0.mk ((show Kd.C (Kd.int .u8) w47 A34 y248.length y248 from by rw [Ny248.out, KA34.out]; exact Kd.C_drop (m := 1) (c := co15) ((Kd.R_reads' (Kd.R_after (ok := (fun k_ => some k_ ≠ (.slice Ao32 y236.length co32 : Value).ownBlock ∧ some k_ ≠ (.slice Ao38 y242.length co38 : Value).ownBlock ∧ some k_ ≠ (.slice Ao43 y255.length co43 : Value).ownBlock ∧ some k_ ≠ (.slice Ao48 t265.length co48 : Value).ownBlock)) (by (with_reducible repeat (first | apply Kd.R_alloc | apply Kd.R_drewN | apply Kd.R_drew)); exact Kd.R_mono HO_4.out (fun _ hk => ⟨⟨hk.1.1.1, ⟨hk.1.1.2.1, ⟨hk.1.1.2.2, hk.2⟩⟩⟩, hk.1.2⟩)) hg hat)).2.2) KL34.out ((Kd.R_reads' (Kd.R_after (ok := (fun k_ => some k_ ≠ (.slice Ao32 y236.length co32 : Value).ownBlock ∧ some k_ ≠ (.slice Ao38 y242.length co38 : Value).ownBlock ∧ some k_ ≠ (.slice Ao43 y255.length co43 : Value).ownBlock ∧ some k_ ≠ (.slice Ao48 t265.length co48 : Value).ownBlock)) (by (with_reducible repeat (first | apply Kd.R_alloc | apply Kd.R_drewN | apply Kd.R_drew)); exact Kd.R_mono HO_4.out (fun _ hk => ⟨⟨hk.1.1.1, ⟨hk.1.1.2.1, ⟨hk.1.1.2.2, hk.2⟩⟩⟩, hk.1.2⟩)) hg hat)).2.1)))) (Aside0.mk (ho)))))))))); clear HO_4 BK225 HO238 HO244 HO257 HO264 HO267 HB HR251 HO260; obtain ⟨HO_4, BK225, HO238, HO244, HO257, HO264, HO267, HB, HR251, HO270⟩ := n_; clear ho hb hg hat))
              go_ret
              exact ⟨_, hkE, by (with_reducible repeat (first | apply Kd.R_alloc | apply Kd.R_drewN | apply Kd.R_drew)); exact Kd.R_mono HO270.out (fun _ hk => trivial), hkS HB⟩
             ·rw [if_neg c28] at H
              exact absurd H (by simp)
            ·rw [if_neg c25] at H
             exact absurd H (by simp)
           ·rw [if_neg c24] at H
            exact absurd H (by simp)
          ·rw [if_neg c23] at H
           exact absurd H (by simp)
         ·rw [if_neg c22] at H
          exact absurd H (by simp)
        ·rw [if_neg c21] at H
         have c21b0 : decide (1 < (t232.length : Int)) = false := decide_eq_false c21
         have c21b1 : decide (1 < t232.length) = false := decide_eq_false (by omega)
         clear c21
         obtain ⟨y271, hy271⟩ : ∃ y_ : List Int, y_ = (([101] : List Int)) := ⟨_, rfl⟩
         replace H : (if y239.length + y271.length < 140737488355328 then ((some (y239 ++ y271 : List Int)).bind fun y274 => ((spec_l3of.f kj11 (wrap64 ((wrap64 ((t232.length : Int) + a0_2)) - 1))).bind fun bt277 => ((spec_l3text.f kj11 bt277.1 bt277.2).bind fun t281 => (if y274.length + t281.length < 140737488355328 then (some (y274 ++ t281)) else (none))))) else (none)) = some r := by first | (rw [hy271]; with_reducible exact H) | (have H2_ := (Option.bind_some _ _).symm.trans H; rw [hy271]; with_reducible exact H2_) | (have H2_ := (Option.bind_some _ _).symm.trans H; with_reducible exact H2_) | with_reducible exact H | (rw [hy271]; exact H) | exact H
         have Ny271 := Aside0.mk hy271
         clear hy271
         by_cases c49 : y239.length + y271.length < 140737488355328
         ·rw [if_pos c49] at H
          have LMc49 := Aside0.mk c49
          clear c49
          obtain ⟨y274, hy274⟩ : ∃ y_ : List Int, y_ = (y239 ++ y271) := ⟨_, rfl⟩
          replace H : ((spec_l3of.f kj11 (wrap64 ((wrap64 ((t232.length : Int) + a0_2)) - 1))).bind fun bt277 => ((spec_l3text.f kj11 bt277.1 bt277.2).bind fun t281 => (if y274.length + t281.length < 140737488355328 then (some (y274 ++ t281)) else (none)))) = some r := by first | (rw [hy274]; with_reducible exact H) | (have H2_ := (Option.bind_some _ _).symm.trans H; rw [hy274]; with_reducible exact H2_) | (have H2_ := (Option.bind_some _ _).symm.trans H; with_reducible exact H2_) | with_reducible exact H | (rw [hy274]; exact H) | exact H
          have Ny274 := Aside0.mk hy274
          clear hy274
          replace H := hBi H
          obtain ⟨⟨t277, t278⟩, A500, H⟩ := H
          replace H : ((spec_l3text.f kj11 t277 t278).bind fun t281 => (if y274.length + t281.length < 140737488355328 then (some (y274 ++ t281)) else (none))) = some r := H
          have A50 := Aside0.mk A500
          clear A500
          replace H := hBi H
          obtain ⟨t281, A510, H⟩ := H
          replace H : (if y274.length + t281.length < 140737488355328 then (some (y274 ++ t281)) else (none)) = some r := H
          have A51 := Aside0.mk A510
          clear A510
          by_cases c52 : y274.length + t281.length < 140737488355328
          ·rw [if_pos c52] at H
           have LMc52 := Aside0.mk c52
           clear c52
           obtain ⟨y284, hy284⟩ : ∃ y_ : List Int, y_ = (y274 ++ t281) := ⟨_, rfl⟩
           replace H : (some y284) = some r := by first | (rw [hy284]; with_reducible exact H) | (have H2_ := (Option.bind_some _ _).symm.trans H; rw [hy284]; with_reducible exact H2_) | (have H2_ := (Option.bind_some _ _).symm.trans H; with_reducible exact H2_) | with_reducible exact H | (rw [hy284]; exact H) | exact H
           have Ny284 := Aside0.mk hy284
           clear hy284
           obtain rfl := Option.some.inj H
           have p235 : 0 ≤ (0 : Int) := (by omega)
           have q235 : 0 < (t232.length : Int) := of_decide_eq_true (by first | (with_reducible assumption) | assumption)
           obtain ⟨ad235, e235, hx235_0⟩ := Kd.at_int (Kd.R_reads' HO_4.out).2.2 0 p235 q235
           cases e235
           have qi235 : (0 < t232.length) = True := eq_true (by omega)
           (try rw [show ((0 : Int)).toNat = 0 from rfl] at hx235_0)
           (try rw [Addr.add_zero'] at hx235_0)
           replace p235 := eq_true p235
           replace q235 := eq_true q235
           go_wp2_with (first | ((with_reducible refine gate_dst (N := 32) rfl ?_); refine Kd.R_lit (Kd.int .u8) _ 5 ?hg (N := 32) ?hd (xs := ([rd t232 0] : List Int)) (inner := [.int .u8 (rd t232 0)]) (ok := fun _ => True) (okp := fun _ => True) ?hr ?hp (fun _ hk => hk) trivial (Below.refl _ _) (Nat.le_refl _) (by simp) ?_; (case hd => rfl); (case hg => rfl); (case hr => first | (go_simp; done) | (go_simp; rfl)); (case hp => exact (Reps.one (show Kd.M (Kd.int .u8) _ _ _ (rd t232 0) [.int .u8 (rd t232 0)] from rfl) (Reps.none _ _))); intro v237 w53 ho54 hb hg_ hnew_; clear hg_ hnew_; (first | rw [← Ny236.out] at ho54 | (simp only [Int.reduceToNat] at ho54; rw [← Ny236.out] at ho54) | (simp only [Int.toNat_zero, List.replicate_zero] at ho54; rw [← Ny236.out] at ho54)); have n_ := hkA (Aside0.mk (Kd.R_elder' (hkR HO_3) (Kd.R_base ho54) hb)) (hkA (Aside0.mk (Kd.R_elder' (hkR HO_4) (Kd.R_base ho54) hb)) (hkA (Aside0.mk (Kd.R_lower (Kd.R_new' (Kd.R_new' ho54 (Kd.R_lt (hkR HO_3))) (Kd.R_lt (hkR HO_4))) (below_size (hkS HB)))) (hkA (hkBb BK225 hb) (hkU HB hb)))); clear HO_3 HO_4 BK225 HB; obtain ⟨HO_3, HO_4, HO238, BK225, HB⟩ := n_; clear hb ho54; obtain ⟨Ao56, co56, eo56⟩ := Kd.R_slice HO238.out; subst eo56) | ((with_reducible refine gate_builtin (b := .append) (xs := #[.tmp 28, .tmp 32]) rfl ?_); at_builtin; refine Kd.R_append_rows (Kd.int .u8) (w0 := w) w.heap.size rfl (.tmp 28) (.tmp 32) 28 5 (.int .u8 0) 1 rfl Tryd.underlying28 info5 rfl (by decide) (by omega) u3 x3_1 y236 _ _ _ (fun k_ => some k_ ≠ (.slice (some ad235) t232.length co15 : Value).ownBlock ∧ some k_ ≠ (.slice Ao56 y236.length co56 : Value).ownBlock) (fun _ => False) rfl rfl ?aO ?aR (fun _ _ h => h) (fun _ h => h.elim) ?aF ?aB ?aS ?aL ?_; (case aR => exact hkC ((Kd.R_reads' HO238.out).2.2)); (case aB => exact (hkS HB)); (case aF => exact (fun k_ hk => ⟨Kd.fresh' (Kd.R_lt (hkR HO_4)) k_ hk, Kd.fresh' (Kd.R_lt (hkR HO238)) k_ hk⟩)); (case aO => exact (hkR HO_3)); (case aS => exact (below_size (hkS HB))); (case aL => have := LMc20.out; omega); intro v240 w55 ho hb hg hat; rw [← Ny239.out] at ho; have n_ := hkA (Aside0.mk (Kd.R_after (ok := (fun k_ => some k_ ≠ (.slice Ao56 y236.length co56 : Value).ownBlock)) (by (with_reducible repeat (first | apply Kd.R_alloc | apply Kd.R_drewN | apply Kd.R_drew)); exact Kd.R_mono HO_4.out (fun _ hk => ⟨hk.2, hk.1⟩)) hg hat)) (hkA (Aside0.mk (blk_grown (g := gb225) (o := .cells #[.bool a0_0, .slice A0_1 l0_1.length c0_1, .int .i64 a0_2] 32 (0, 0)) (hkB BK225) hg (Kd.R_ne HO_3.out BK225.out (by decide)))) (hkA (Aside0.mk (Kd.R_after (ok := (fun k_ => some k_ ≠ (.slice (some ad235) t232.length co15 : Value).ownBlock)) (by (with_reducible repeat (first | apply Kd.R_alloc | apply Kd.R_drewN | apply Kd.R_drew)); exact Kd.R_mono HO238.out (fun _ hk => ⟨hk.2, hk.1.2⟩)) hg hat)) (hkA (Aside0.mk (hb)) (Aside0.mk (ho))))); clear HO_4 BK225 HO238 HB HO_3; obtain ⟨HO_4, BK225, HO238, HB, HO241⟩ := n_; clear ho hb hg hat) | ((with_reducible refine gate_dst (N := 44) rfl ?_); (first | (refine Kd.R_litmark (Kd.int .u8) _ 5 ?hg (N := 44) ?hd ?hg2 ?t2 ?ho2 ?ht2 ?he2 rfl (xs := ([101] : List Int)) (inner := [.int .u8 101]) (ok := fun _ => True) (okp := fun _ => True) ?hev ?hr ?hp (fun _ hk => hk) trivial (Below.refl _ _) (Nat.le_refl _) (by simp) ?_; (case hd => rfl); (case hg => rfl); (case hg2 => rfl); (case ho2 => rfl); (case ht2 => kernel_rfl); (case he2 => kernel_rfl); (case hev => first | rfl | (go_simp; done) | (go_simp; rfl)); (case hr => first | (go_simp; done) | (go_simp; rfl))) | (refine Kd.R_lit (Kd.int .u8) _ 5 ?hg (N := 44) ?hd (xs := ([101] : List Int)) (inner := [.int .u8 101]) (ok := fun _ => True) (okp := fun _ => True) ?hr ?hp (fun _ hk => hk) trivial (Below.refl _ _) (Nat.le_refl _) (by simp) ?_; (case hd => rfl); (case hg => rfl); (case hr => first | (go_simp; done) | (go_simp; rfl)))); (case hp => exact (Reps.one (show Kd.M (Kd.int .u8) _ _ _ 101 [.int .u8 101] from rfl) (Reps.none _ _))); intro v272 w57 ho58 hb hg_ hnew_; clear hg_ hnew_; (first | rw [← Ny271.out] at ho58 | (simp only [Int.reduceToNat] at ho58; rw [← Ny271.out] at ho58) | (simp only [Int.toNat_zero, List.replicate_zero] at ho58; rw [← Ny271.out] at ho58)); have n_ := hkA (Aside0.mk (Kd.R_elder' (hkR HO_4) (Kd.R_base ho58) hb)) (hkA (Aside0.mk (Kd.R_elder' (hkR HO238) (Kd.R_base ho58) hb)) (hkA (Aside0.mk (Kd.R_elder' (hkR HO241) (Kd.R_base ho58) hb)) (hkA (Aside0.mk (Kd.R_lower (Kd.R_new' (Kd.R_new' (Kd.R_new' ho58 (Kd.R_lt (hkR HO_4))) (Kd.R_lt (hkR HO238))) (Kd.R_lt (hkR HO241))) (below_size (hkS HB)))) (hkA (hkBb BK225 hb) (hkU HB hb))))); clear HO_4 HO238 HO241 BK225 HB; obtain ⟨HO_4, HO238, HO241, HO273, BK225, HB⟩ := n_; clear hb ho58; obtain ⟨Ao60, co60, eo60⟩ := Kd.R_slice HO273.out; subst eo60) | ((with_reducible refine gate_builtin (b := .append) (xs := #[.tmp 43, .tmp 44]) rfl ?_); at_builtin; refine Kd.R_append_rows (Kd.int .u8) (w0 := w) w.heap.size rfl (.tmp 43) (.tmp 44) 28 5 (.int .u8 0) 1 rfl Tryd.underlying28 info5 rfl (by decide) (by omega) v240 y239 y271 _ _ _ (fun k_ => some k_ ≠ (.slice (some ad235) t232.length co15 : Value).ownBlock ∧ some k_ ≠ (.slice Ao56 y236.length co56 : Value).ownBlock ∧ some k_ ≠ (.slice Ao60 y271.length co60 : Value).ownBlock) (fun _ => False) rfl rfl ?aO ?aR (fun _ _ h => h) (fun _ h => h.elim) ?aF ?aB ?aS ?aL ?_; (case aR => exact hkC ((Kd.R_reads' HO273.out).2.2)); (case aB => exact (hkS HB)); (case aF => exact (fun k_ hk => ⟨Kd.fresh' (Kd.R_lt (hkR HO_4)) k_ hk, Kd.fresh' (Kd.R_lt (hkR HO238)) k_ hk, Kd.fresh' (Kd.R_lt (hkR HO273)) k_ hk⟩)); (case aO => exact (by (with_reducible repeat (first | apply Kd.R_alloc | apply Kd.R_drewN | apply Kd.R_drew)); exact Kd.R_mono HO241.out (fun _ hk => ⟨hk.1.1, ⟨hk.1.2, hk.2⟩⟩))); (case aS => exact (below_size (hkS HB))); (case aL => have := LMc49.out; omega); intro v275 w59 ho hb hg hat; rw [← Ny274.out] at ho; have n_ := hkA (Aside0.mk (Kd.R_after (ok := (fun k_ => some k_ ≠ (.slice Ao56 y236.length co56 : Value).ownBlock ∧ some k_ ≠ (.slice Ao60 y271.length co60 : Value).ownBlock)) (by (with_reducible repeat (first | apply Kd.R_alloc | apply Kd.R_drewN | apply Kd.R_drew)); exact Kd.R_mono HO_4.out (fun _ hk => ⟨⟨hk.1.1, hk.2⟩, hk.1.2⟩)) hg hat)) (hkA (Aside0.mk (blk_grown (g := gb225) (o := .cells #[.bool a0_0, .slice A0_1 l0_1.length c0_1, .int .i64 a0_2] 32 (0, 0)) (hkB BK225) hg (Kd.R_ne HO241.out BK225.out (by decide)))) (hkA (Aside0.mk (Kd.R_after (ok := (fun k_ => some k_ ≠ (.slice (some ad235) t232.length co15 : Value).ownBlock ∧ some k_ ≠ (.slice Ao60 y271.length co60 : Value).ownBlock)) (by (with_reducible repeat (first | apply Kd.R_alloc | apply Kd.R_drewN | apply Kd.R_drew)); exact Kd.R_mono HO238.out (fun _ hk => ⟨⟨hk.1.1, hk.2⟩, hk.1.2⟩)) hg hat)) (hkA (Aside0.mk (Kd.R_after (ok := (fun k_ => some k_ ≠ (.slice (some ad235) t232.length co15 : Value).ownBlock ∧ some k_ ≠ (.slice Ao56 y236.length co56 : Value).ownBlock)) (by (with_reducible repeat (first | apply Kd.R_alloc | apply Kd.R_drewN | apply Kd.R_drew)); exact Kd.R_mono HO273.out (fun _ hk => ⟨⟨hk.1.1.2, hk.1.2⟩, hk.2⟩)) hg hat)) (hkA (Aside0.mk (hb)) (Aside0.mk (ho)))))); clear HO_4 BK225 HO238 HO273 HB HO241; obtain ⟨HO_4, BK225, HO238, HO273, HB, HO276⟩ := n_; clear ho hb hg hat) | ((with_reducible refine gate_callee (f := 26) rfl ?_); refine hkGo (N := some 48) Tryd.func26 #[.int .i64 (wrap64 ((wrap64 ((t232.length : Int) + a0_2)) - 1))] ?_; (with_reducible refine (spec_l3of.calls kj11 (wrap64 ((wrap64 ((t232.length : Int) + a0_2)) - 1)) t277 t278 _ A50.out).mono ?_); rintro e w61 ⟨v279, rfl, ho0, hb⟩; refine ⟨_, rfl, ?_⟩; have n_ := hkA (hkRb HO_4 hb) (hkA (hkRb HO238 hb) (hkA (hkRb HO273 hb) (hkA (hkRb HO276 hb) (hkA (Aside0.mk (Kd.R_lower ho0 (below_size (hkS HB)))) (hkA (hkBb BK225 hb) (hkU HB hb)))))); clear HO_4 HO238 HO273 HO276 BK225 HB; obtain ⟨HO_4, HO238, HO273, HO276, HO280, BK225, HB⟩ := n_; (try clear hb); (try clear hk); (try clear ho0); obtain ⟨Ao62, co62, eo62⟩ := Kd.R_slice HO280.out; subst eo62) | ((with_reducible refine gate_callee (f := 25) rfl ?_); refine hkGo (N := some 49) Tryd.func25 #[.agg #[.bool t277, .slice Ao62 t278.length co62]] ?_; (with_reducible refine (spec_l3text.calls kj11 t277 _ _ t278 t281 _ ?side1 ?side2 A51.out).mono ?_); (case side1 => exact hkC ((Kd.R_reads' HO280.out).2.2)); (case side2 => exact (Kd.R_reads' HO280.out).2.1); rintro e w63 ⟨v282, rfl, ho0, hb⟩; refine ⟨_, rfl, ?_⟩; have n_ := hkA (Aside0.mk (Kd.R_elder' (hkR HO_4) (Kd.R_base ho0) hb)) (hkA (Aside0.mk (Kd.R_elder' (hkR HO238) (Kd.R_base ho0) hb)) (hkA (Aside0.mk (Kd.R_elder' (hkR HO273) (Kd.R_base ho0) hb)) (hkA (Aside0.mk (Kd.R_elder' (hkR HO276) (Kd.R_base ho0) hb)) (hkA (hkRb HO280 hb) (hkA (Aside0.mk (Kd.R_lower (Kd.R_new' (Kd.R_new' (Kd.R_new' (Kd.R_new' ho0 (Kd.R_lt (hkR HO_4))) (Kd.R_lt (hkR HO238))) (Kd.R_lt (hkR HO273))) (Kd.R_lt (hkR HO276))) (below_size (hkS HB)))) (hkA (hkBb BK225 hb) (hkU HB hb))))))); clear HO_4 HO238 HO273 HO276 HO280 BK225 HB; obtain ⟨HO_4, HO238, HO273, HO276, HO280, HO283, BK225, HB⟩ := n_; (try clear hb); (try clear hk); (try clear ho0); obtain ⟨Ao65, co65, eo65⟩ := Kd.R_slice HO283.out; subst eo65) | ((with_reducible refine gate_builtin (b := .append) (xs := #[.tmp 45, .tmp 49]) rfl ?_); at_builtin; refine Kd.R_append_rows (Kd.int .u8) (w0 := w) w.heap.size rfl (.tmp 45) (.tmp 49) 28 5 (.int .u8 0) 1 rfl Tryd.underlying28 info5 rfl (by decide) (by omega) v275 y274 t281 _ _ _ (fun k_ => some k_ ≠ (.slice (some ad235) t232.length co15 : Value).ownBlock ∧ some k_ ≠ (.slice Ao56 y236.length co56 : Value).ownBlock ∧ some k_ ≠ (.slice Ao60 y271.length co60 : Value).ownBlock ∧ some k_ ≠ (.slice Ao65 t281.length co65 : Value).ownBlock) (fun _ => False) rfl rfl ?aO ?aR (fun _ _ h => h) (fun _ h => h.elim) ?aF ?aB ?aS ?aL ?_; (case aR => exact hkC ((Kd.R_reads' HO283.out).2.2)); (case aB => exact (hkS HB)); (case aF => exact (fun k_ hk => ⟨Kd.fresh' (Kd.R_lt (hkR HO_4)) k_ hk, Kd.fresh' (Kd.R_lt (hkR HO238)) k_ hk, Kd.fresh' (Kd.R_lt (hkR HO273)) k_ hk, Kd.fresh' (Kd.R_lt (hkR HO283)) k_ hk⟩)); (case aO => exact (by (with_reducible repeat (first | apply Kd.R_alloc | apply Kd.R_drewN | apply Kd.R_drew)); exact Kd.R_mono HO276.out (fun _ hk => ⟨hk.1.1, ⟨hk.1.2.1, ⟨hk.1.2.2, hk.2⟩⟩⟩))); (case aS => exact (below_size (hkS HB))); (case aL => have := LMc52.out; omega); intro v285 w64 ho hb hg hat; rw [← Ny284.out] at ho; have n_ := hkA (Aside0.mk (Kd.R_after (ok := (fun k_ => some k_ ≠ (.slice Ao56 y236.length co56 : Value).ownBlock ∧ some k_ ≠ (.slice Ao60 y271.length co60 : Value).ownBlock ∧ some k_ ≠ (.slice Ao65 t281.length co65 : Value).ownBlock)) (by (with_reducible repeat (first | apply Kd.R_alloc | apply Kd.R_drewN | apply Kd.R_drew)); exact Kd.R_mono HO_4.out (fun _ hk => ⟨⟨hk.1.1.1, ⟨hk.1.1.2, hk.2⟩⟩, hk.1.2⟩)) hg hat)) (hkA (Aside0.mk (blk_grown (g := gb225) (o := .cells #[.bool a0_0, .slice A0_1 l0_1.length c0_1, .int .i64 a0_2] 32 (0, 0)) (hkB BK225) hg (Kd.R_ne HO276.out BK225.out (by decide)))) (hkA (Aside0.mk (Kd.R_after (ok := (fun k_ => some k_ ≠ (.slice (some ad235) t232.length co15 : Value).ownBlock ∧ some k_ ≠ (.slice Ao60 y271.length co60 : Value).ownBlock ∧ some k_ ≠ (.slice Ao65 t281.length co65 : Value).ownBlock)) (by (with_reducible repeat (first | apply Kd.R_alloc | apply Kd.R_drewN | apply Kd.R_drew)); exact Kd.R_mono HO238.out (fun _ hk => ⟨⟨hk.1.1.1, ⟨hk.1.1.2, hk.2⟩⟩, hk.1.2⟩)) hg hat)) (hkA (Aside0.mk (Kd.R_after (ok := (fun k_ => some k_ ≠ (.slice (some ad235) t232.length co15 : Value).ownBlock ∧ some k_ ≠ (.slice Ao56 y236.length co56 : Value).ownBlock ∧ some k_ ≠ (.slice Ao65 t281.length co65 : Value).ownBlock)) (by (with_reducible repeat (first | apply Kd.R_alloc | apply Kd.R_drewN | apply Kd.R_drew)); exact Kd.R_mono HO273.out (fun _ hk => ⟨⟨hk.1.1.1, ⟨hk.1.1.2, hk.2⟩⟩, hk.1.2⟩)) hg hat)) (hkA (Aside0.mk (Kd.R_over' (hkR HO280) (Kd.R_typed (hkR HO276)) (by decide) hg)) (hkA (Aside0.mk (Kd.R_after (ok := (fun k_ => some k_ ≠ (.slice (some ad235) t232.length co15 : Value).ownBlock ∧ some k_ ≠ (.slice Ao56 y236.length co56 : Value).ownBlock ∧ some k_ ≠ (.slice Ao60 y271.length co60 : Value).ownBlock)) (by (with_reducible repeat (first | apply Kd.R_alloc | apply Kd.R_drewN | apply Kd.R_drew)); exact Kd.R_mono HO283.out (fun _ hk => ⟨⟨hk.1.1.1.2, ⟨hk.1.1.2, hk.1.2⟩⟩, hk.2⟩)) hg hat)) (hkA (Aside0.mk (hb)) (Aside0.mk (ho)))))))); clear HO_4 BK225 HO238 HO273 HO280 HO283 HB HO276; obtain ⟨HO_4, BK225, HO238, HO273, HO280, HO283, HB, HO286⟩ := n_; clear ho hb hg hat))
           go_ret
           exact ⟨_, hkE, by (with_reducible repeat (first | apply Kd.R_alloc | apply Kd.R_drewN | apply Kd.R_drew)); exact Kd.R_mono HO286.out (fun _ hk => trivial), hkS HB⟩
          ·rw [if_neg c52] at H
           exact absurd H (by simp)
         ·rw [if_neg c49] at H
          exact absurd H (by simp)
       ·rw [if_neg c20] at H
        exact absurd H (by simp)
      ·rw [if_neg c19] at H
       exact absurd H (by simp)
     ·replace c18 := Bool.eq_false_iff.mpr c18
      subst c18
      have H1 : (if a0_2 ≥ 0 then (if x3_1.length + t232.length < 140737488355328 then (spec_l6text.l0 kj11 (x3_1 ++ t232) 0 a0_0 l0_1 a0_2) else (none)) else (if (wrap64 ((t232.length : Int) + a0_2)) > 0 then (if 0 ≤ (wrap64 ((t232.length : Int) + a0_2)) then (if (wrap64 ((t232.length : Int) + a0_2)) ≤ (t232.length : Int) then ((some (t232.take ((wrap64 ((t232.length : Int) + a0_2)) : Int).toNat : List Int)).bind fun y296 => (if x3_1.length + y296.length < 140737488355328 then ((some (x3_1 ++ y296 : List Int)).bind fun y300 => ((some (([46] : List Int) : List Int)).bind fun y303 => (if y300.length + y303.length < 140737488355328 then ((some (y300 ++ y303 : List Int)).bind fun y306 => ((some (t232.drop ((wrap64 ((t232.length : Int) + a0_2)) : Int).toNat : List Int)).bind fun y309 => (if y306.length + y309.length < 140737488355328 then (some (y306 ++ y309)) else (none)))) else (none)))) else (none))) else (none)) else (none)) else (if x3_1.length + 2 < 140737488355328 then (spec_l6text.l1 kj11 (x3_1 ++ bytesOf (⟨#[48, 46]⟩ : ByteArray)) t232 (wrap64 ((t232.length : Int) + a0_2))) else (none)))) = some r := by rw [if_neg (show ¬ (false = true) by decide)] at H; exact H
      clear H
      have H := H1
      clear H1
      by_cases c66 : a0_2 ≥ 0
      ·rw [if_pos c66] at H
       have c66b0 : decide (0 ≤ a0_2) = true := decide_eq_true c66
       clear c66
       by_cases c67 : x3_1.length + t232.length < 140737488355328
       ·rw [if_pos c67] at H
        have LMc67 := Aside0.mk c67
        clear c67
        obtain ⟨y287, hy287⟩ : ∃ y_ : List Int, y_ = (x3_1 ++ t232) := ⟨_, rfl⟩
        replace H : (spec_l6text.l0 kj11 y287 0 a0_0 l0_1 a0_2) = some r := by first | (rw [hy287]; with_reducible exact H) | (have H2_ := (Option.bind_some _ _).symm.trans H; rw [hy287]; with_reducible exact H2_) | (have H2_ := (Option.bind_some _ _).symm.trans H; with_reducible exact H2_) | with_reducible exact H | (rw [hy287]; exact H) | exact H
        have Ny287 := Aside0.mk hy287
        clear hy287
        have H' := Aside0.mk H
        clear H
        obtain ⟨hcz68_0, hfz68_0, hcz68_1, hfz68_1, hcz68_2, hfz68_2⟩ := hkc3 BK225
        go_wp2_with (first | ((with_reducible refine gate_builtin (b := .append) (xs := #[.tmp 55, .tmp 56]) rfl ?_); at_builtin; refine Kd.R_append_rows (Kd.int .u8) (w0 := w) w.heap.size rfl (.tmp 55) (.tmp 56) 28 5 (.int .u8 0) 1 rfl Tryd.underlying28 info5 rfl (by decide) (by omega) u3 x3_1 t232 _ _ _ (fun k_ => some k_ ≠ (.slice Ao15 t232.length co15 : Value).ownBlock) (fun _ => False) rfl rfl ?aO ?aR (fun _ _ h => h) (fun _ h => h.elim) ?aF ?aB ?aS ?aL ?_; (case aR => exact hkC ((Kd.R_reads' HO_4.out).2.2)); (case aB => exact (hkS HB)); (case aF => exact (fun k_ hk => Kd.fresh' (Kd.R_lt (hkR HO_4)) k_ hk)); (case aO => exact (hkR HO_3)); (case aS => exact (below_size (hkS HB))); (case aL => have := LMc67.out; omega); intro v288 w69 ho hb hg hat; rw [← Ny287.out] at ho; have n_ := hkA (Aside0.mk (Kd.R_after (ok := (fun _ => True)) (by (with_reducible repeat (first | apply Kd.R_alloc | apply Kd.R_drewN | apply Kd.R_drew)); exact Kd.R_mono HO_4.out (fun _ hk => ⟨trivial, hk⟩)) hg hat)) (hkA (Aside0.mk (blk_grown (g := gb225) (o := .cells #[.bool a0_0, .slice A0_1 l0_1.length c0_1, .int .i64 a0_2] 32 (0, 0)) (hkB BK225) hg (Kd.R_ne HO_3.out BK225.out (by decide)))) (hkA (Aside0.mk (hb)) (Aside0.mk (ho)))); clear HO_4 BK225 HB HO_3; obtain ⟨HO_4, BK225, HB, HO289⟩ := n_; clear ho hb hg hat))
        go_loopg [3, 6] kj11 (fun kq v3 v6 w' => ∃ (x3_3 : List Int) (x6_3 : Int), v6 = .int .i64 x6_3 ∧ Aside0 (spec_l6text.l0 kq x3_3 x6_3 a0_0 l0_1 a0_2 = some r) ∧ Aside0 (kq ≤ kj11) ∧ Aside0 (Kd.R (Kd.int .u8) 5 w' w.heap.size (fun _ => True) v3 x3_3) ∧ Aside0 (w'.heap[gb225]? = some (.cells #[.bool a0_0, (.slice A0_1 l0_1.length c0_1), .int .i64 a0_2] 32 (0, 0))) ∧ Aside0 (Below w.heap.size w w'))
        case atStart => exact ⟨(y287), (0), (by first | rfl | (simp; done) | (simp [*]; done)), H', ⟨Nat.le_refl _⟩, ⟨by (with_reducible repeat (first | apply Kd.R_alloc | apply Kd.R_drewN | apply Kd.R_drew)); exact Kd.R_mono HO289.out (fun _ hk => trivial)⟩, ⟨by refine hkz ?_; exact BK225.out⟩, ⟨hkS HB⟩⟩
        case round =>
         clear H'
         try clear c1
         try clear c2
         try clear p2
         try clear q2
         try clear hx2
         try clear qi2
         try clear c3
         try clear q3
         try clear c4
         try clear c5
         try clear c6
         try clear p6
         try clear c15
         try clear c17
         try clear c17b0
         try clear c18
         try clear c19
         try clear c19b0
         try clear c19b1
         try clear c20
         try clear c21
         try clear c21b0
         try clear c21b1
         try clear c22
         try clear c23
         try clear c23b0
         try clear c23b1
         try clear p23
         try clear q23
         try clear hx23
         try clear qi23
         try clear c24
         try clear c25
         try clear c26
         try clear c28
         try clear c34
         try clear q34
         try clear c49
         try clear c52
         try clear p64
         try clear c66
         try clear c66b0
         try clear c67
         try clear hcz13_0 hcz13_1 hcz13_2 hcz16_0 hcz16_1 hcz16_2 hcz4_0 hcz4_1 hcz4_2 hcz68_0 hcz68_1 hcz68_2 hfz13_0 hfz13_1 hfz13_2 hfz16_0 hfz16_1 hfz16_2 hfz4_0 hfz4_1 hfz4_2 hfz68_0 hfz68_1 hfz68_2
         try clear hx235_0
         try clear p2
         try clear p235
         try clear p6
         try clear q235
         try clear q34
         obtain ⟨x3_3, x6_3, rfl, HA, HK3, HO_3, BK225, HB⟩ := hrel
         cases gk with
         | zero => exact absurd HA.out (by simp [spec_l6text.l0])
         | succ k3 =>
          have H := HA.out
          clear HA
          simp only [spec_l6text.l0] at H
          by_cases c70 : x6_3 < a0_2
          ·rw [if_pos c70] at H
           have c70b0 : decide (x6_3 < a0_2) = true := decide_eq_true c70
           clear c70
           obtain ⟨y290, hy290⟩ : ∃ y_ : List Int, y_ = (([48] : List Int)) := ⟨_, rfl⟩
           replace H : (if x3_3.length + y290.length < 140737488355328 then (spec_l6text.l0 k3 (x3_3 ++ y290) (wrap64 (x6_3 + 1)) a0_0 l0_1 a0_2) else (none)) = some r := by first | (rw [hy290]; with_reducible exact H) | (have H2_ := (Option.bind_some _ _).symm.trans H; rw [hy290]; with_reducible exact H2_) | (have H2_ := (Option.bind_some _ _).symm.trans H; with_reducible exact H2_) | with_reducible exact H | (rw [hy290]; exact H) | exact H
           have Ny290 := Aside0.mk hy290
           clear hy290
           by_cases c71 : x3_3.length + y290.length < 140737488355328
           ·rw [if_pos c71] at H
            have LMc71 := Aside0.mk c71
            clear c71
            obtain ⟨y293, hy293⟩ : ∃ y_ : List Int, y_ = (x3_3 ++ y290) := ⟨_, rfl⟩
            replace H : (spec_l6text.l0 k3 y293 (wrap64 (x6_3 + 1)) a0_0 l0_1 a0_2) = some r := by first | (rw [hy293]; with_reducible exact H) | (have H2_ := (Option.bind_some _ _).symm.trans H; rw [hy293]; with_reducible exact H2_) | (have H2_ := (Option.bind_some _ _).symm.trans H; with_reducible exact H2_) | with_reducible exact H | (rw [hy293]; exact H) | exact H
            have Ny293 := Aside0.mk hy293
            clear hy293
            have H' := Aside0.mk H
            clear H
            obtain ⟨hcz72_0, hfz72_0, hcz72_1, hfz72_1, hcz72_2, hfz72_2⟩ := hkc3 BK225
            go_wp2_with (first | ((with_reducible refine gate_dst (N := 65) rfl ?_); (first | (refine Kd.R_litmark (Kd.int .u8) _ 5 ?hg (N := 65) ?hd ?hg2 ?t2 ?ho2 ?ht2 ?he2 rfl (xs := ([48] : List Int)) (inner := [.int .u8 48]) (ok := fun _ => True) (okp := fun _ => True) ?hev ?hr ?hp (fun _ hk => hk) trivial (Below.refl _ _) (Nat.le_refl _) (by simp) ?_; (case hd => rfl); (case hg => rfl); (case hg2 => rfl); (case ho2 => rfl); (case ht2 => kernel_rfl); (case he2 => kernel_rfl); (case hev => first | rfl | (go_simp; done) | (go_simp; rfl)); (case hr => first | (go_simp; done) | (go_simp; rfl))) | (refine Kd.R_lit (Kd.int .u8) _ 5 ?hg (N := 65) ?hd (xs := ([48] : List Int)) (inner := [.int .u8 48]) (ok := fun _ => True) (okp := fun _ => True) ?hr ?hp (fun _ hk => hk) trivial (Below.refl _ _) (Nat.le_refl _) (by simp) ?_; (case hd => rfl); (case hg => rfl); (case hr => first | (go_simp; done) | (go_simp; rfl)))); (case hp => exact (Reps.one (show Kd.M (Kd.int .u8) _ _ _ 48 [.int .u8 48] from rfl) (Reps.none _ _))); intro v291 w73 ho74 hb hg_ hnew_; clear hg_ hnew_; (first | rw [← Ny290.out] at ho74 | (simp only [Int.reduceToNat] at ho74; rw [← Ny290.out] at ho74) | (simp only [Int.toNat_zero, List.replicate_zero] at ho74; rw [← Ny290.out] at ho74)); have n_ := hkA (Aside0.mk (Kd.R_elder' (hkR HO_3) (Kd.R_base ho74) hb)) (hkA (Aside0.mk (Kd.R_lower (Kd.R_new' ho74 (Kd.R_lt (hkR HO_3))) (below_size (hkS HB)))) (hkA (hkBb BK225 hb) (hkU HB hb))); clear HO_3 BK225 HB; obtain ⟨HO_3, HO292, BK225, HB⟩ := n_; clear hb ho74; obtain ⟨Ao76, co76, eo76⟩ := Kd.R_slice HO292.out; subst eo76) | ((with_reducible refine gate_builtin (b := .append) (xs := #[.tmp 64, .tmp 65]) rfl ?_); at_builtin; refine Kd.R_append_rows (Kd.int .u8) (w0 := w) w.heap.size rfl (.tmp 64) (.tmp 65) 28 5 (.int .u8 0) 1 rfl Tryd.underlying28 info5 rfl (by decide) (by omega) u3 x3_3 y290 _ _ _ (fun k_ => some k_ ≠ (.slice Ao76 y290.length co76 : Value).ownBlock) (fun _ => False) rfl rfl ?aO ?aR (fun _ _ h => h) (fun _ h => h.elim) ?aF ?aB ?aS ?aL ?_; (case aR => exact hkC ((Kd.R_reads' HO292.out).2.2)); (case aB => exact (hkS HB)); (case aF => exact (fun k_ hk => Kd.fresh' (Kd.R_lt (hkR HO292)) k_ hk)); (case aO => exact (by (with_reducible repeat (first | apply Kd.R_alloc | apply Kd.R_drewN | apply Kd.R_drew)); exact Kd.R_mono HO_3.out (fun _ hk => hk.2))); (case aS => exact (below_size (hkS HB))); (case aL => have := LMc71.out; omega); intro v294 w75 ho hb hg hat; rw [← Ny293.out] at ho; have n_ := hkA (Aside0.mk (blk_grown (g := gb225) (o := .cells #[.bool a0_0, .slice A0_1 l0_1.length c0_1, .int .i64 a0_2] 32 (0, 0)) (hkB BK225) hg (Kd.R_ne HO_3.out BK225.out (by decide)))) (hkA (Aside0.mk (Kd.R_after (ok := (fun _ => True)) (hkR HO292) hg hat)) (hkA (Aside0.mk (hb)) (Aside0.mk (ho)))); clear BK225 HO292 HB HO_3; obtain ⟨BK225, HO292, HB, HO295⟩ := n_; clear ho hb hg hat))
            go_roundg k3
            case measure => have := HJ1.out; have := HJ11.out; have := HK3.out; omega
            case rel => exact ⟨(y293), (wrap64 (x6_3 + 1)), (by first | rfl | (simp; done) | (simp [*]; done)), H', ⟨by have := HJ1.out; have := HJ11.out; have := HK3.out; omega⟩, ⟨by (with_reducible repeat (first | apply Kd.R_alloc | apply Kd.R_drewN | apply Kd.R_drew)); exact Kd.R_mono HO295.out (fun _ hk => trivial)⟩, ⟨by refine hkz ?_; exact BK225.out⟩, ⟨hkS HB⟩⟩
           ·rw [if_neg c71] at H
            exact absurd H (by simp)
          ·rw [if_neg c70] at H
           have c70b0 : decide (x6_3 < a0_2) = false := decide_eq_false c70
           clear c70
           obtain rfl := Option.some.inj H
           obtain ⟨hcz77_0, hfz77_0, hcz77_1, hfz77_1, hcz77_2, hfz77_2⟩ := hkc3 BK225
           go_wp2
           go_ret
           exact ⟨_, hkE, by (with_reducible repeat (first | apply Kd.R_alloc | apply Kd.R_drewN | apply Kd.R_drew)); exact HO_3.out, hkS HB⟩
       ·rw [if_neg c67] at H
        exact absurd H (by simp)
      ·rw [if_neg c66] at H
       have c66b0 : decide (0 ≤ a0_2) = false := decide_eq_false c66
       clear c66
       by_cases c78 : (wrap64 ((t232.length : Int) + a0_2)) > 0
       ·rw [if_pos c78] at H
        have c78b0 : decide (0 < (wrap64 ((t232.length : Int) + a0_2))) = true := decide_eq_true c78
        clear c78
        obtain ⟨ji79, hji79⟩ : ∃ j_ : Int, (wrap64 ((t232.length : Int) + a0_2)) = j_ := ⟨_, rfl⟩
        replace H : (if 0 ≤ (ji79) then (if (ji79) ≤ (t232.length : Int) then ((some (t232.take ((ji79) : Int).toNat : List Int)).bind fun y296 => (if x3_1.length + y296.length < 140737488355328 then ((some (x3_1 ++ y296 : List Int)).bind fun y300 => ((some (([46] : List Int) : List Int)).bind fun y303 => (if y300.length + y303.length < 140737488355328 then ((some (y300 ++ y303 : List Int)).bind fun y306 => ((some (t232.drop ((ji79) : Int).toNat : List Int)).bind fun y309 => (if y306.length + y309.length < 140737488355328 then (some (y306 ++ y309)) else (none)))) else (none)))) else (none))) else (none)) else (none)) = some r := by first | (rw [hji79] at H; exact H) | (simp only [hji79] at H ⊢; exact H)
        (try rw [hji79] at c78b0)
        have hji79w : (IntKind.i64.wrap ((t232.length : Int) + a0_2)) = ji79 := (i64_w _).trans hji79
        by_cases c80 : 0 ≤ (ji79)
        ·rw [if_pos c80] at H
         have c80b0 := eq_true c80
         have c80b1 : decide (0 ≤ (ji79)) = true := decide_eq_true c80
         clear c80
         by_cases c81 : (ji79) ≤ (t232.length : Int)
         ·rw [if_pos c81] at H
          have c81b0 := eq_true c81
          have c81b1 : decide ((ji79) ≤ (t232.length : Int)) = true := decide_eq_true c81
          clear c81
          obtain ⟨y296, hy296⟩ : ∃ y_ : List Int, y_ = (t232.take ((ji79) : Int).toNat) := ⟨_, rfl⟩
          replace H : (if x3_1.length + y296.length < 140737488355328 then ((some (x3_1 ++ y296 : List Int)).bind fun y300 => ((some (([46] : List Int) : List Int)).bind fun y303 => (if y300.length + y303.length < 140737488355328 then ((some (y300 ++ y303 : List Int)).bind fun y306 => ((some (t232.drop ((ji79) : Int).toNat : List Int)).bind fun y309 => (if y306.length + y309.length < 140737488355328 then (some (y306 ++ y309)) else (none)))) else (none)))) else (none)) = some r := by first | (rw [hy296]; with_reducible exact H) | (have H2_ := (Option.bind_some _ _).symm.trans H; rw [hy296]; with_reducible exact H2_) | (have H2_ := (Option.bind_some _ _).symm.trans H; with_reducible exact H2_) | with_reducible exact H | (rw [hy296]; exact H) | exact H
          have Ny296 := Aside0.mk hy296
          clear hy296
          by_cases c82 : x3_1.length + y296.length < 140737488355328
          ·rw [if_pos c82] at H
           have LMc82 := Aside0.mk c82
           clear c82
           obtain ⟨y300, hy300⟩ : ∃ y_ : List Int, y_ = (x3_1 ++ y296) := ⟨_, rfl⟩
           replace H : ((some (([46] : List Int) : List Int)).bind fun y303 => (if y300.length + y303.length < 140737488355328 then ((some (y300 ++ y303 : List Int)).bind fun y306 => ((some (t232.drop ((ji79) : Int).toNat : List Int)).bind fun y309 => (if y306.length + y309.length < 140737488355328 then (some (y306 ++ y309)) else (none)))) else (none))) = some r := by first | (rw [hy300]; with_reducible exact H) | (have H2_ := (Option.bind_some _ _).symm.trans H; rw [hy300]; with_reducible exact H2_) | (have H2_ := (Option.bind_some _ _).symm.trans H; with_reducible exact H2_) | with_reducible exact H | (rw [hy300]; exact H) | exact H
           have Ny300 := Aside0.mk hy300
           clear hy300
           obtain ⟨y303, hy303⟩ : ∃ y_ : List Int, y_ = (([46] : List Int)) := ⟨_, rfl⟩
           replace H : (if y300.length + y303.length < 140737488355328 then ((some (y300 ++ y303 : List Int)).bind fun y306 => ((some (t232.drop ((ji79) : Int).toNat : List Int)).bind fun y309 => (if y306.length + y309.length < 140737488355328 then (some (y306 ++ y309)) else (none)))) else (none)) = some r := by first | (rw [hy303]; with_reducible exact H) | (have H2_ := (Option.bind_some _ _).symm.trans H; rw [hy303]; with_reducible exact H2_) | (have H2_ := (Option.bind_some _ _).symm.trans H; with_reducible exact H2_) | with_reducible exact H | (rw [hy303]; exact H) | exact H
           have Ny303 := Aside0.mk hy303
           clear hy303
           by_cases c83 : y300.length + y303.length < 140737488355328
           ·rw [if_pos c83] at H
            have LMc83 := Aside0.mk c83
            clear c83
            obtain ⟨y306, hy306⟩ : ∃ y_ : List Int, y_ = (y300 ++ y303) := ⟨_, rfl⟩
            replace H : ((some (t232.drop ((ji79) : Int).toNat : List Int)).bind fun y309 => (if y306.length + y309.length < 140737488355328 then (some (y306 ++ y309)) else (none))) = some r := by first | (rw [hy306]; with_reducible exact H) | (have H2_ := (Option.bind_some _ _).symm.trans H; rw [hy306]; with_reducible exact H2_) | (have H2_ := (Option.bind_some _ _).symm.trans H; with_reducible exact H2_) | with_reducible exact H | (rw [hy306]; exact H) | exact H
            have Ny306 := Aside0.mk hy306
            clear hy306
            have c84b0 := eq_true (of_decide_eq_true (by first | (with_reducible assumption) | assumption) : 0 ≤ (ji79))
            have c85b0 := eq_true (of_decide_eq_true (by first | (with_reducible assumption) | assumption) : (ji79) ≤ (t232.length : Int))
            obtain ⟨y309, hy309⟩ : ∃ y_ : List Int, y_ = (t232.drop ((ji79) : Int).toNat) := ⟨_, rfl⟩
            replace H : (if y306.length + y309.length < 140737488355328 then (some (y306 ++ y309)) else (none)) = some r := by first | (rw [hy309]; with_reducible exact H) | (have H2_ := (Option.bind_some _ _).symm.trans H; rw [hy309]; with_reducible exact H2_) | (have H2_ := (Option.bind_some _ _).symm.trans H; with_reducible exact H2_) | with_reducible exact H | (rw [hy309]; exact H) | exact H
            have Ny309 := Aside0.mk hy309
            clear hy309
            by_cases c86 : y306.length + y309.length < 140737488355328
            ·rw [if_pos c86] at H
             have LMc86 := Aside0.mk c86
             clear c86
             obtain ⟨y313, hy313⟩ : ∃ y_ : List Int, y_ = (y306 ++ y309) := ⟨_, rfl⟩
             replace H : (some y313) = some r := by first | (rw [hy313]; with_reducible exact H) | (have H2_ := (Option.bind_some _ _).symm.trans H; rw [hy313]; with_reducible exact H2_) | (have H2_ := (Option.bind_some _ _).symm.trans H; with_reducible exact H2_) | with_reducible exact H | (rw [hy313]; exact H) | exact H
             have Ny313 := Aside0.mk hy313
             clear hy313
             obtain rfl := Option.some.inj H
             obtain ⟨hcz87_0, hfz87_0, hcz87_1, hfz87_1, hcz87_2, hfz87_2⟩ := hkc3 BK225
             obtain ⟨Ao88, co88, eo88⟩ := Kd.R_slice HO_3.out
             subst eo88
             try go_wp2
             have n_ := hkA (Aside0.mk (Kd.R_drew HO_3.out)) (hkA (Aside0.mk (Kd.R_drew HO_4.out)) (hkA (Aside0.mk (blk_drew BK225.out)) (Aside0.mk (below_drew1 HB.out))))
             clear HO_3 HO_4 BK225 HB
             obtain ⟨HO_3, HO_4, BK225, HB⟩ := n_
             have q90 : ((ji79) : Int) ≤ ((t232.length : Int) : Int) := of_decide_eq_true (by first | (with_reducible assumption) | assumption)
             obtain ⟨i090, hi090, _, hsz90, _⟩ := info_parts info5
             have hroom90 : t232.length ≤ co15 := (Kd.R_reads' HO_4.out).2.1
             have hC90 : Kd.C (Kd.int .u8) _ Ao15 t232.length t232 := (Kd.R_reads' HO_4.out).2.2
             have hcut90 := cut_to (P := Tryd.prog) 28 5 .i64 Tryd.underlying28 hi090 Ao15 t232.length co15 (ji79) (of_decide_eq_true (by first | (with_reducible assumption) | assumption)) q90 hroom90
             have hr90 := Kd.C_take (m := ((ji79) : Int).toNat) hC90 (by omega)
             have hy90 : y296.length = ((ji79) : Int).toNat := (by rw [Ny296.out, List.length_take]; omega)
             rw [← Ny296.out] at hr90
             rw [← hy90] at hcut90
             have HR299 := Aside0.mk hr90
             have HC299 := Aside0.mk (show y296.length ≤ co15 from by omega)
             clear hr90 hC90 hroom90 hi090 hsz90
             have KY90 := Aside0.mk hy90
             clear hy90
             have KL90 := Aside0.mk (show ((ji79) : Int).toNat ≤ t232.length from by omega)
             replace q90 := eq_true q90
             have q91 : ((ji79) : Int) ≤ ((t232.length : Int) : Int) := of_decide_eq_true (by first | (with_reducible assumption) | assumption)
             obtain ⟨i091, hi091, _, hsz91, _⟩ := info_parts info5
             have hroom91 : t232.length ≤ co15 := (Kd.R_reads' HO_4.out).2.1
             have hC91 : Kd.C (Kd.int .u8) _ Ao15 t232.length t232 := (Kd.R_reads' HO_4.out).2.2
             have q091 : (0 : Int) ≤ ((ji79) : Int) := of_decide_eq_true (by first | (with_reducible assumption) | assumption)
             have hcut91 := cut_from (P := Tryd.prog) 28 5 .i64 Tryd.underlying28 hi091 1 hsz91 Ao15 t232.length co15 (ji79) q091 q91
             have hr91 := Kd.C_drop (m := ((ji79) : Int).toNat) (c := co15) hC91 (by omega) hroom91
             obtain ⟨A91, hA91⟩ : ∃ A1, A1 = (if co15 = ((ji79) : Int).toNat then Ao15 else (Ao15 : Option Addr).map (·.add (((ji79) : Int).toNat * 1))) := ⟨_, rfl⟩
             obtain ⟨c91, hc91⟩ : ∃ c1, c1 = co15 - ((ji79) : Int).toNat := ⟨_, rfl⟩
             have hy91 : y309.length = t232.length - ((ji79) : Int).toNat := (by rw [Ny309.out, List.length_drop] <;> omega)
             rw [show (t232).drop ((ji79) : Int).toNat = y309 from Ny309.out.symm] at hr91
             replace hr91 : Kd.C (Kd.int .u8) _ A91 y309.length y309 := (by rw [hA91]; exact hr91)
             rw [← hy91, ← hA91, ← hc91] at hcut91
             have HR312 := Aside0.mk hr91
             have HC312 := Aside0.mk (show y309.length ≤ c91 from by rw [hy91, hc91]; exact Nat.sub_le_sub_right hroom91 _)
             clear hr91 hC91 hroom91 hi091 hsz91 hc91
             have KY91 := Aside0.mk hy91
             have KA91 := Aside0.mk hA91
             clear hy91 hA91
             have KL91 := Aside0.mk (show ((ji79) : Int).toNat ≤ t232.length from by omega)
             replace q91 := eq_true q91
             refine start_ (n := 12) (S := fun w' => True) (ds := []) #[false, false, false, false, false, false, false, false, false, false, false, false] (by kernel_rfl) rfl rfl trivial (fun hHeld => ?_); refine with_tabW spec_l6text.tab19 spec_l6text.bits19 (fun HT_ HW_ => ?_)
             generalize wc.drew = w89 at HO_3 HO_4 BK225 HB HR299 HR312 hHeld ⊢
             refine hkPt (i := 0) (N := some 71) HT_ ?_
             refine hkPt (i := 1) (N := some 72) HT_ ?_
             refine hkPt (i := 2) (N := some 73) HT_ ?_
             refine hkPt (i := 3) (N := some 74) HT_ ?_
             refine hkPt (i := 7) (N := some 78) HT_ ?_
             refine hkPt (i := 8) (N := some 79) HT_ ?_
             refine hkPt (i := 9) (N := some 80) HT_ ?_
             refine join_ (σ := Value × Value) 3 #[true, true, true, true, true, true, false, true, true, true, false, false] (fun s_ => [(75, s_.1), (76, s_.2)]) (fun s_ w' => (Kd.R (Kd.int .u8) 5 w' w.heap.size (fun k_ => some k_ ≠ (s_.2 : Value).ownBlock ∧ some k_ ≠ (.slice Ao15 t232.length co15 : Value).ownBlock) s_.1 y300) ∧ (Kd.R (Kd.int .u8) 5 w' w.heap.size (fun k_ => some k_ ≠ (s_.1 : Value).ownBlock ∧ some k_ ≠ (.slice Ao15 t232.length co15 : Value).ownBlock) s_.2 y303) ∧ (Kd.R (Kd.int .u8) 5 w' w.heap.size (fun k_ => some k_ ≠ (s_.1 : Value).ownBlock ∧ some k_ ≠ (s_.2 : Value).ownBlock) (.slice Ao15 t232.length co15) t232) ∧ (w'.heap[gb225]? = some (.cells #[.bool a0_0, .slice A0_1 l0_1.length c0_1, .int .i64 a0_2] 32 (0, 0))) ∧ (Kd.C (Kd.int .u8) w' Ao15 y296.length y296) ∧ (Kd.C (Kd.int .u8) w' A91 y309.length y309) ∧ (Below w.heap.size w w')) ?_ ?_
             rotate_left
             ·intro hCont
              refine two_ (i := 4) (j := 5) (Ni := some 75) (Nj := some 76) #[true, true, true, true, true, false, false, true, true, true, false, false] #[true, true, true, true, false, true, false, true, true, true, false, false] rfl rfl rfl rfl (two_of HT_.out (by kernel_rfl)) (by decide) (by decide) (fun K hK => ?_) (fun K hK => ?_)
              ·skip
               refine Kd.R_append_rows_step (Kd.int .u8) (w0 := w) w.heap.size (by rfl) (.tmp 71) (.tmp 74) 28 5 (.int .u8 0) 1 rfl Tryd.underlying28 info5 rfl (by decide) (by omega) (.slice Ao88 x3_1.length co88) x3_1 y296 _ _ _ (fun k_ => some k_ ≠ (.slice Ao15 t232.length co15 : Value).ownBlock) (fun _ => False) rfl rfl ?aO ?aR (fun _ _ h => h) (fun _ h => h.elim) ?aF ?aB ?aS ?aL ?_
               (case aR => repeat (first | exact (by repeat (first | (with_reducible exact HR299.out) | (with_reducible refine Kd.C_alloc ?_ _) | (with_reducible refine Kd.C_drewN ?_ _) | (with_reducible refine Kd.C_drew ?_) | exact HR299.out)) | (with_reducible refine Kd.C_alloc ?_ _) | (with_reducible refine Kd.C_drewN ?_ _) | (with_reducible refine Kd.C_drew ?_)))
               (case aB => exact (hkS HB))
               (case aF => exact (fun k_ hk => Kd.fresh' (Kd.R_lt (hkR HO_4)) k_ hk))
               (case aO => exact (hkR HO_3))
               (case aS => exact (below_size (hkS HB)))
               (case aL => have := LMc82.out; omega)
               intro v301 w92 ho hb hg hat
               rw [← Ny300.out] at ho
               have n_ := hkA (Aside0.mk (Kd.R_after (ok := (fun _ => True)) (by (with_reducible repeat (first | apply Kd.R_alloc | apply Kd.R_drewN | apply Kd.R_drew)); exact Kd.R_mono HO_4.out (fun _ hk => ⟨trivial, hk⟩)) hg hat)) (hkA (Aside0.mk (blk_grown (g := gb225) (o := .cells #[.bool a0_0, .slice A0_1 l0_1.length c0_1, .int .i64 a0_2] 32 (0, 0)) (hkB BK225) hg (Kd.R_ne HO_3.out BK225.out (by decide)))) (hkA (Aside0.mk (hb)) (hkA (Aside0.mk ((show Kd.C (Kd.int .u8) w92 Ao15 y296.length y296 from by rw [Ny296.out]; exact Kd.C_take (m := ((ji79) : Int).toNat) ((Kd.R_reads' (Kd.R_after (ok := (fun _ => True)) (by (with_reducible repeat (first | apply Kd.R_alloc | apply Kd.R_drewN | apply Kd.R_drew)); exact Kd.R_mono HO_4.out (fun _ hk => ⟨trivial, hk⟩)) hg hat)).2.2) KL90.out))) (hkA (Aside0.mk ((show Kd.C (Kd.int .u8) w92 A91 y309.length y309 from by rw [Ny309.out, KA91.out]; exact Kd.C_drop (m := ((ji79) : Int).toNat) (c := co15) ((Kd.R_reads' (Kd.R_after (ok := (fun _ => True)) (by (with_reducible repeat (first | apply Kd.R_alloc | apply Kd.R_drewN | apply Kd.R_drew)); exact Kd.R_mono HO_4.out (fun _ hk => ⟨trivial, hk⟩)) hg hat)).2.2) KL91.out ((Kd.R_reads' (Kd.R_after (ok := (fun _ => True)) (by (with_reducible repeat (first | apply Kd.R_alloc | apply Kd.R_drewN | apply Kd.R_drew)); exact Kd.R_mono HO_4.out (fun _ hk => ⟨trivial, hk⟩)) hg hat)).2.1)))) (Aside0.mk (ho))))))
               clear HO_4 BK225 HB HR299 HR312 HO_3
               obtain ⟨HO_4, BK225, HB, HR299, HR312, HO302⟩ := n_
               clear ho hb hg hat
               refine hK.out _ _ trivial (fun hHeld => ?_)
               clear hK K
               refine hkNo (N := some 75) ?_
               refine one_ (i := 5) (N := some 76) #[true, true, true, true, true, true, false, true, true, true, false, false] rfl rfl (one_of HT_.out (by kernel_rfl)) (by decide) (fun K hK => ?_)
               refine Kd.R_lit_step (Kd.int .u8) _ 5 ?hg (N := 76) ?hd (xs := ([46] : List Int)) (inner := [.int .u8 46]) (ok := fun _ => True) (okp := fun _ => True) ?hr ?hp (fun _ hk => hk) trivial (Below.refl _ _) (Nat.le_refl _) (by simp) ?_; (case hd => rfl); (case hg => rfl); (case hr => first | (go_simp; done) | (go_simp; rfl)); (case hp => exact (Reps.one (show Kd.M (Kd.int .u8) _ _ _ 46 [.int .u8 46] from rfl) (Reps.none _ _)))
               intro v304 w93 ho94 hb hg_ hnew_
               clear hg_ hnew_
               (first | rw [← Ny303.out] at ho94 | (simp only [Int.reduceToNat] at ho94; rw [← Ny303.out] at ho94) | (simp only [Int.toNat_zero, List.replicate_zero] at ho94; rw [← Ny303.out] at ho94))
               have n_ := hkA (Aside0.mk (Kd.R_elder' (hkR HO_4) (Kd.R_base ho94) hb)) (hkA (Aside0.mk (Kd.R_elder' (hkR HO302) (Kd.R_base ho94) hb)) (hkA (Aside0.mk (Kd.R_lower (Kd.R_new' (Kd.R_new' ho94 (Kd.R_lt (hkR HO_4))) (Kd.R_lt (hkR HO302))) (below_size (hkS HB)))) (hkA (hkBb BK225 hb) (hkA (Aside0.mk (Kd.C_below (by repeat (first | (with_reducible exact HR299.out) | (with_reducible refine Kd.C_alloc ?_ _) | (with_reducible refine Kd.C_drewN ?_ _) | (with_reducible refine Kd.C_drew ?_) | exact HR299.out)) hb)) (hkA (Aside0.mk (Kd.C_below (by repeat (first | (with_reducible exact HR312.out) | (with_reducible refine Kd.C_alloc ?_ _) | (with_reducible refine Kd.C_drewN ?_ _) | (with_reducible refine Kd.C_drew ?_) | exact HR312.out)) hb)) (hkU HB hb))))))
               clear HO_4 HO302 BK225 HR299 HR312 HB
               obtain ⟨HO_4, HO302, HO305, BK225, HR299, HR312, HB⟩ := n_
               clear hb ho94
               refine hK.out _ _ trivial (fun hHeld => ?_)
               clear hK K
               refine hkNo (N := some 76) ?_
               exact norm_ (by simp only [putAll, Act.put, List.setIfInBounds_toArray, List.set_cons_zero, List.set_cons_succ]) (hCont (v301, v304) _ ⟨(by (with_reducible repeat (first | apply Kd.R_alloc | apply Kd.R_drewN | apply Kd.R_drew)); exact Kd.R_mono HO302.out (fun _ hk => ⟨hk.2, hk.1⟩)), (by (with_reducible repeat (first | apply Kd.R_alloc | apply Kd.R_drewN | apply Kd.R_drew)); exact Kd.R_mono HO305.out (fun _ hk => ⟨hk.2, hk.1.2⟩)), (by (with_reducible repeat (first | apply Kd.R_alloc | apply Kd.R_drewN | apply Kd.R_drew)); exact Kd.R_mono HO_4.out (fun _ hk => ⟨hk.1.2, hk.2⟩)), (hkB BK225), (by repeat (first | (with_reducible exact HR299.out) | (with_reducible refine Kd.C_alloc ?_ _) | (with_reducible refine Kd.C_drewN ?_ _) | (with_reducible refine Kd.C_drew ?_) | exact HR299.out)), (by repeat (first | (with_reducible exact HR312.out) | (with_reducible refine Kd.C_alloc ?_ _) | (with_reducible refine Kd.C_drewN ?_ _) | (with_reducible refine Kd.C_drew ?_) | exact HR312.out)), (hkS HB)⟩)
              ·skip
               refine Kd.R_lit_step (Kd.int .u8) _ 5 ?hg (N := 76) ?hd (xs := ([46] : List Int)) (inner := [.int .u8 46]) (ok := fun _ => True) (okp := fun _ => True) ?hr ?hp (fun _ hk => hk) trivial (Below.refl _ _) (Nat.le_refl _) (by simp) ?_; (case hd => rfl); (case hg => rfl); (case hr => first | (go_simp; done) | (go_simp; rfl)); (case hp => exact (Reps.one (show Kd.M (Kd.int .u8) _ _ _ 46 [.int .u8 46] from rfl) (Reps.none _ _)))
               intro v304 w92 ho93 hb hg_ hnew_
               clear hg_ hnew_
               (first | rw [← Ny303.out] at ho93 | (simp only [Int.reduceToNat] at ho93; rw [← Ny303.out] at ho93) | (simp only [Int.toNat_zero, List.replicate_zero] at ho93; rw [← Ny303.out] at ho93))
               have n_ := hkA (Aside0.mk (Kd.R_elder' (hkR HO_3) (Kd.R_base ho93) hb)) (hkA (Aside0.mk (Kd.R_elder' (hkR HO_4) (Kd.R_base ho93) hb)) (hkA (Aside0.mk (Kd.R_lower (Kd.R_new' (Kd.R_new' ho93 (Kd.R_lt (hkR HO_3))) (Kd.R_lt (hkR HO_4))) (below_size (hkS HB)))) (hkA (hkBb BK225 hb) (hkA (Aside0.mk (Kd.C_below (by repeat (first | (with_reducible exact HR299.out) | (with_reducible refine Kd.C_alloc ?_ _) | (with_reducible refine Kd.C_drewN ?_ _) | (with_reducible refine Kd.C_drew ?_) | exact HR299.out)) hb)) (hkA (Aside0.mk (Kd.C_below (by repeat (first | (with_reducible exact HR312.out) | (with_reducible refine Kd.C_alloc ?_ _) | (with_reducible refine Kd.C_drewN ?_ _) | (with_reducible refine Kd.C_drew ?_) | exact HR312.out)) hb)) (hkU HB hb))))))
               clear HO_3 HO_4 BK225 HR299 HR312 HB
               obtain ⟨HO_3, HO_4, HO305, BK225, HR299, HR312, HB⟩ := n_
               clear hb ho93
               refine hK.out _ _ trivial (fun hHeld => ?_)
               clear hK K
               refine hkNo (N := some 76) ?_
               refine one_ (i := 4) (N := some 75) #[true, true, true, true, true, true, false, true, true, true, false, false] rfl rfl (one_of HT_.out (by kernel_rfl)) (by decide) (fun K hK => ?_)
               refine Kd.R_append_rows_step (Kd.int .u8) (w0 := w) w.heap.size (by rfl) (.tmp 71) (.tmp 74) 28 5 (.int .u8 0) 1 rfl Tryd.underlying28 info5 rfl (by decide) (by omega) (.slice Ao88 x3_1.length co88) x3_1 y296 _ _ _ (fun k_ => some k_ ≠ (.slice Ao15 t232.length co15 : Value).ownBlock ∧ some k_ ≠ (v304 : Value).ownBlock) (fun _ => False) rfl rfl ?aO ?aR (fun _ _ h => h) (fun _ h => h.elim) ?aF ?aB ?aS ?aL ?_
               (case aR => repeat (first | exact (by repeat (first | (with_reducible exact HR299.out) | (with_reducible refine Kd.C_alloc ?_ _) | (with_reducible refine Kd.C_drewN ?_ _) | (with_reducible refine Kd.C_drew ?_) | exact HR299.out)) | (with_reducible refine Kd.C_alloc ?_ _) | (with_reducible refine Kd.C_drewN ?_ _) | (with_reducible refine Kd.C_drew ?_)))
               (case aB => exact (hkS HB))
               (case aF => exact (fun k_ hk => ⟨Kd.fresh' (Kd.R_lt (hkR HO_4)) k_ hk, Kd.fresh' (Kd.R_lt (hkR HO305)) k_ hk⟩))
               (case aO => exact (hkR HO_3))
               (case aS => exact (below_size (hkS HB)))
               (case aL => have := LMc82.out; omega)
               intro v301 w94 ho hb hg hat
               rw [← Ny300.out] at ho
               have n_ := hkA (Aside0.mk (Kd.R_after (ok := (fun k_ => some k_ ≠ (v304 : Value).ownBlock)) (by (with_reducible repeat (first | apply Kd.R_alloc | apply Kd.R_drewN | apply Kd.R_drew)); exact Kd.R_mono HO_4.out (fun _ hk => ⟨hk.2, hk.1⟩)) hg hat)) (hkA (Aside0.mk (blk_grown (g := gb225) (o := .cells #[.bool a0_0, .slice A0_1 l0_1.length c0_1, .int .i64 a0_2] 32 (0, 0)) (hkB BK225) hg (Kd.R_ne HO_3.out BK225.out (by decide)))) (hkA (Aside0.mk (Kd.R_after (ok := (fun k_ => some k_ ≠ (.slice Ao15 t232.length co15 : Value).ownBlock)) (by (with_reducible repeat (first | apply Kd.R_alloc | apply Kd.R_drewN | apply Kd.R_drew)); exact Kd.R_mono HO305.out (fun _ hk => ⟨hk.2, hk.1.2⟩)) hg hat)) (hkA (Aside0.mk (hb)) (hkA (Aside0.mk ((show Kd.C (Kd.int .u8) w94 Ao15 y296.length y296 from by rw [Ny296.out]; exact Kd.C_take (m := ((ji79) : Int).toNat) ((Kd.R_reads' (Kd.R_after (ok := (fun k_ => some k_ ≠ (v304 : Value).ownBlock)) (by (with_reducible repeat (first | apply Kd.R_alloc | apply Kd.R_drewN | apply Kd.R_drew)); exact Kd.R_mono HO_4.out (fun _ hk => ⟨hk.2, hk.1⟩)) hg hat)).2.2) KL90.out))) (hkA (Aside0.mk ((show Kd.C (Kd.int .u8) w94 A91 y309.length y309 from by rw [Ny309.out, KA91.out]; exact Kd.C_drop (m := ((ji79) : Int).toNat) (c := co15) ((Kd.R_reads' (Kd.R_after (ok := (fun k_ => some k_ ≠ (v304 : Value).ownBlock)) (by (with_reducible repeat (first | apply Kd.R_alloc | apply Kd.R_drewN | apply Kd.R_drew)); exact Kd.R_mono HO_4.out (fun _ hk => ⟨hk.2, hk.1⟩)) hg hat)).2.2) KL91.out ((Kd.R_reads' (Kd.R_after (ok := (fun k_ => some k_ ≠ (v304 : Value).ownBlock)) (by (with_reducible repeat (first | apply Kd.R_alloc | apply Kd.R_drewN | apply Kd.R_drew)); exact Kd.R_mono HO_4.out (fun _ hk => ⟨hk.2, hk.1⟩)) hg hat)).2.1)))) (Aside0.mk (ho)))))))
               clear HO_4 BK225 HO305 HB HR299 HR312 HO_3
               obtain ⟨HO_4, BK225, HO305, HB, HR299, HR312, HO302⟩ := n_
               clear ho hb hg hat
               refine hK.out _ _ trivial (fun hHeld => ?_)
               clear hK K
               refine hkNo (N := some 75) ?_
               exact norm_ (by simp only [putAll, Act.put, List.setIfInBounds_toArray, List.set_cons_zero, List.set_cons_succ]) (hCont (v301, v304) _ ⟨(by (with_reducible repeat (first | apply Kd.R_alloc | apply Kd.R_drewN | apply Kd.R_drew)); exact Kd.R_mono HO302.out (fun _ hk => ⟨hk.2, hk.1⟩)), (by (with_reducible repeat (first | apply Kd.R_alloc | apply Kd.R_drewN | apply Kd.R_drew)); exact Kd.R_mono HO305.out (fun _ hk => ⟨hk.2, hk.1⟩)), (by (with_reducible repeat (first | apply Kd.R_alloc | apply Kd.R_drewN | apply Kd.R_drew)); exact Kd.R_mono HO_4.out (fun _ hk => ⟨hk.2, hk.1⟩)), (hkB BK225), (by repeat (first | (with_reducible exact HR299.out) | (with_reducible refine Kd.C_alloc ?_ _) | (with_reducible refine Kd.C_drewN ?_ _) | (with_reducible refine Kd.C_drew ?_) | exact HR299.out)), (by repeat (first | (with_reducible exact HR312.out) | (with_reducible refine Kd.C_alloc ?_ _) | (with_reducible refine Kd.C_drewN ?_ _) | (with_reducible refine Kd.C_drew ?_) | exact HR312.out)), (hkS HB)⟩)
             rintro ⟨v301, v304⟩ w95 ⟨h0_, h1_, h2_, h3_, h4_, h5_, h6_⟩
             have n0_ : Aside0 (Kd.R (Kd.int .u8) 5 w95 w.heap.size (fun k_ => some k_ ≠ (v304 : Value).ownBlock ∧ some k_ ≠ (.slice Ao15 t232.length co15 : Value).ownBlock) v301 y300) := ⟨h0_⟩
             have n1_ : Aside0 (Kd.R (Kd.int .u8) 5 w95 w.heap.size (fun k_ => some k_ ≠ (v301 : Value).ownBlock ∧ some k_ ≠ (.slice Ao15 t232.length co15 : Value).ownBlock) v304 y303) := ⟨h1_⟩
             have n2_ : Aside0 (Kd.R (Kd.int .u8) 5 w95 w.heap.size (fun k_ => some k_ ≠ (v301 : Value).ownBlock ∧ some k_ ≠ (v304 : Value).ownBlock) (.slice Ao15 t232.length co15) t232) := ⟨h2_⟩
             have n3_ : Aside0 (w95.heap[gb225]? = some (.cells #[.bool a0_0, .slice A0_1 l0_1.length c0_1, .int .i64 a0_2] 32 (0, 0))) := ⟨h3_⟩
             have n4_ : Aside0 (Kd.C (Kd.int .u8) w95 Ao15 y296.length y296) := ⟨h4_⟩
             have n5_ : Aside0 (Kd.C (Kd.int .u8) w95 A91 y309.length y309) := ⟨h5_⟩
             have n6_ : Aside0 (Below w.heap.size w w95) := ⟨h6_⟩
             clear HO_3
             clear HO_4
             clear BK225
             clear HB
             clear h0_ h1_ h2_ h3_ h4_ h5_ h6_
             have HO302 := n0_
             have HO305 := n1_
             have HO_4 := n2_
             have BK225 := n3_
             have HR299 := n4_
             have HR312 := n5_
             have HB := n6_
             clear n0_ n1_ n2_ n3_ n4_ n5_ n6_
             have hHeld := trivial
             obtain ⟨Ao97, co97, eo97⟩ := Kd.R_slice HO305.out
             (first | subst eo97 | (injection eo97 with f1_ f2_ f3_; have f4_ := f1_.symm; have f5_ := f3_.symm; clear f1_ f2_ f3_; subst f4_; subst f5_))
             refine norm_ (a' := ?_) ?_ ?_
             rotate_left
             ·simp only [putAll, Act.put, List.setIfInBounds_toArray, List.set_cons_zero, List.set_cons_succ]
              rfl
             refine one_ (i := 6) (N := some 77) #[true, true, true, true, true, true, true, true, true, true, false, false] rfl rfl (one_of HT_.out (by kernel_rfl)) (by decide) (fun K hK => ?_)
             refine Kd.R_append_rows_step (Kd.int .u8) (w0 := w) w.heap.size (by rfl) (.tmp 75) (.tmp 76) 28 5 (.int .u8 0) 1 rfl Tryd.underlying28 info5 rfl (by decide) (by omega) v301 y300 y303 _ _ _ (fun k_ => some k_ ≠ (.slice Ao15 t232.length co15 : Value).ownBlock ∧ some k_ ≠ (.slice Ao97 y303.length co97 : Value).ownBlock) (fun _ => False) rfl rfl ?aO ?aR (fun _ _ h => h) (fun _ h => h.elim) ?aF ?aB ?aS ?aL ?_
             (case aR => exact hkC ((Kd.R_reads' HO305.out).2.2))
             (case aB => exact (hkS HB))
             (case aF => exact (fun k_ hk => ⟨Kd.fresh' (Kd.R_lt (hkR HO_4)) k_ hk, Kd.fresh' (Kd.R_lt (hkR HO305)) k_ hk⟩))
             (case aO => exact (by (with_reducible repeat (first | apply Kd.R_alloc | apply Kd.R_drewN | apply Kd.R_drew)); exact Kd.R_mono HO302.out (fun _ hk => ⟨hk.2, hk.1⟩)))
             (case aS => exact (below_size (hkS HB)))
             (case aL => have := LMc83.out; omega)
             intro v307 w96 ho hb hg hat
             rw [← Ny306.out] at ho
             have n_ := hkA (Aside0.mk (Kd.R_after (ok := (fun k_ => some k_ ≠ (.slice Ao97 y303.length co97 : Value).ownBlock)) (by (with_reducible repeat (first | apply Kd.R_alloc | apply Kd.R_drewN | apply Kd.R_drew)); exact Kd.R_mono HO_4.out (fun _ hk => ⟨hk.2, hk.1⟩)) hg hat)) (hkA (Aside0.mk (blk_grown (g := gb225) (o := .cells #[.bool a0_0, .slice A0_1 l0_1.length c0_1, .int .i64 a0_2] 32 (0, 0)) (hkB BK225) hg (Kd.R_ne HO302.out BK225.out (by decide)))) (hkA (Aside0.mk (Kd.R_after (ok := (fun k_ => some k_ ≠ (.slice Ao15 t232.length co15 : Value).ownBlock)) (by (with_reducible repeat (first | apply Kd.R_alloc | apply Kd.R_drewN | apply Kd.R_drew)); exact Kd.R_mono HO305.out (fun _ hk => ⟨hk.2, hk.1⟩)) hg hat)) (hkA (Aside0.mk (hb)) (hkA (Aside0.mk ((show Kd.C (Kd.int .u8) w96 Ao15 y296.length y296 from by rw [Ny296.out]; exact Kd.C_take (m := ((ji79) : Int).toNat) ((Kd.R_reads' (Kd.R_after (ok := (fun k_ => some k_ ≠ (.slice Ao97 y303.length co97 : Value).ownBlock)) (by (with_reducible repeat (first | apply Kd.R_alloc | apply Kd.R_drewN | apply Kd.R_drew)); exact Kd.R_mono HO_4.out (fun _ hk => ⟨hk.2, hk.1⟩)) hg hat)).2.2) KL90.out))) (hkA (Aside0.mk ((show Kd.C (Kd.int .u8) w96 A91 y309.length y309 from by rw [Ny309.out, KA91.out]; exact Kd.C_drop (m := ((ji79) : Int).toNat) (c := co15) ((Kd.R_reads' (Kd.R_after (ok := (fun k_ => some k_ ≠ (.slice Ao97 y303.length co97 : Value).ownBlock)) (by (with_reducible repeat (first | apply Kd.R_alloc | apply Kd.R_drewN | apply Kd.R_drew)); exact Kd.R_mono HO_4.out (fun _ hk => ⟨hk.2, hk.1⟩)) hg hat)).2.2) KL91.out ((Kd.R_reads' (Kd.R_after (ok := (fun k_ => some k_ ≠ (.slice Ao97 y303.length co97 : Value).ownBlock)) (by (with_reducible repeat (first | apply Kd.R_alloc | apply Kd.R_drewN | apply Kd.R_drew)); exact Kd.R_mono HO_4.out (fun _ hk => ⟨hk.2, hk.1⟩)) hg hat)).2.1)))) (Aside0.mk (ho)))))))
             clear HO_4 BK225 HO305 HB HR299 HR312 HO302
             obtain ⟨HO_4, BK225, HO305, HB, HR299, HR312, HO308⟩ := n_
             clear ho hb hg hat
             refine hK.out _ _ trivial (fun hHeld => ?_)
             clear hK K
             refine hkNo (N := some 77) ?_
             refine one_ (i := 10) (N := some 81) #[true, true, true, true, true, true, true, true, true, true, true, false] rfl rfl (one_of HT_.out (by kernel_rfl)) (by decide) (fun K hK => ?_)
             refine Kd.R_append_rows_step (Kd.int .u8) (w0 := w) w.heap.size (by rfl) (.tmp 77) (.tmp 80) 28 5 (.int .u8 0) 1 rfl Tryd.underlying28 info5 rfl (by decide) (by omega) v307 y306 y309 _ _ _ (fun k_ => some k_ ≠ (.slice Ao15 t232.length co15 : Value).ownBlock ∧ some k_ ≠ (.slice Ao97 y303.length co97 : Value).ownBlock) (fun _ => False) rfl rfl ?aO ?aR (fun _ _ h => h) (fun _ h => h.elim) ?aF ?aB ?aS ?aL ?_
             (case aR => repeat (first | exact (by repeat (first | (with_reducible exact HR312.out) | (with_reducible refine Kd.C_alloc ?_ _) | (with_reducible refine Kd.C_drewN ?_ _) | (with_reducible refine Kd.C_drew ?_) | exact HR312.out)) | (with_reducible refine Kd.C_alloc ?_ _) | (with_reducible refine Kd.C_drewN ?_ _) | (with_reducible refine Kd.C_drew ?_)))
             (case aB => exact (hkS HB))
             (case aF => exact (fun k_ hk => ⟨Kd.fresh' (Kd.R_lt (hkR HO_4)) k_ hk, Kd.fresh' (Kd.R_lt (hkR HO305)) k_ hk⟩))
             (case aO => exact (hkR HO308))
             (case aS => exact (below_size (hkS HB)))
             (case aL => have := LMc86.out; omega)
             intro v314 w98 ho hb hg hat
             rw [← Ny313.out] at ho
             have n_ := hkA (Aside0.mk (Kd.R_after (ok := (fun k_ => some k_ ≠ (.slice Ao97 y303.length co97 : Value).ownBlock)) (hkR HO_4) hg hat)) (hkA (Aside0.mk (blk_grown (g := gb225) (o := .cells #[.bool a0_0, .slice A0_1 l0_1.length c0_1, .int .i64 a0_2] 32 (0, 0)) (hkB BK225) hg (Kd.R_ne HO308.out BK225.out (by decide)))) (hkA (Aside0.mk (Kd.R_after (ok := (fun k_ => some k_ ≠ (.slice Ao15 t232.length co15 : Value).ownBlock)) (hkR HO305) hg hat)) (hkA (Aside0.mk (hb)) (hkA (Aside0.mk ((show Kd.C (Kd.int .u8) w98 Ao15 y296.length y296 from by rw [Ny296.out]; exact Kd.C_take (m := ((ji79) : Int).toNat) ((Kd.R_reads' (Kd.R_after (ok := (fun k_ => some k_ ≠ (.slice Ao97 y303.length co97 : Value).ownBlock)) (hkR HO_4) hg hat)).2.2) KL90.out))) (hkA (Aside0.mk ((show Kd.C (Kd.int .u8) w98 A91 y309.length y309 from by rw [Ny309.out, KA91.out]; exact Kd.C_drop (m := ((ji79) : Int).toNat) (c := co15) ((Kd.R_reads' (Kd.R_after (ok := (fun k_ => some k_ ≠ (.slice Ao97 y303.length co97 : Value).ownBlock)) (hkR HO_4) hg hat)).2.2) KL91.out ((Kd.R_reads' (Kd.R_after (ok := (fun k_ => some k_ ≠ (.slice Ao97 y303.length co97 : Value).ownBlock)) (hkR HO_4) hg hat)).2.1)))) (Aside0.mk (ho)))))))
             clear HO_4 BK225 HO305 HB HR299 HR312 HO308
             obtain ⟨HO_4, BK225, HO305, HB, HR299, HR312, HO315⟩ := n_
             clear ho hb hg hat
             refine hK.out _ _ trivial (fun hHeld => ?_)
             clear hK K
             refine hkNo (N := some 81) ?_
             refine hkPt (i := 11) (N := some 2) HT_ ?_
             refine done_ (done_of HT_.out (by kernel_rfl)) ?_
             try go_wp2
             go_ret
             exact ⟨_, by first | rfl | (simp [errW_none, errW_some] <;> rfl) | (simp only [← hji79]; first | rfl | (simp [errW_none, errW_some] <;> rfl)) | (simp [*, errW_none, errW_some] <;> rfl), by (with_reducible repeat (first | apply Kd.R_alloc | apply Kd.R_drewN | apply Kd.R_drew)); exact Kd.R_mono HO315.out (fun _ hk => trivial), hkS HB⟩
            ·rw [if_neg c86] at H
             exact absurd H (by simp)
           ·rw [if_neg c83] at H
            exact absurd H (by simp)
          ·rw [if_neg c82] at H
           exact absurd H (by simp)
         ·rw [if_neg c81] at H
          exact absurd H (by simp)
        ·rw [if_neg c80] at H
         exact absurd H (by simp)
       ·rw [if_neg c78] at H
        have c78b0 : decide (0 < (wrap64 ((t232.length : Int) + a0_2))) = false := decide_eq_false c78
        clear c78
        by_cases c99 : x3_1.length + 2 < 140737488355328
        ·rw [if_pos c99] at H
         have LMc99 := Aside0.mk c99
         clear c99
         obtain ⟨y316, hy316⟩ : ∃ y_ : List Int, y_ = (x3_1 ++ bytesOf (⟨#[48, 46]⟩ : ByteArray)) := ⟨_, rfl⟩
         replace H : (spec_l6text.l1 kj11 y316 t232 (wrap64 ((t232.length : Int) + a0_2))) = some r := by first | (rw [hy316]; with_reducible exact H) | (have H2_ := (Option.bind_some _ _).symm.trans H; rw [hy316]; with_reducible exact H2_) | (have H2_ := (Option.bind_some _ _).symm.trans H; with_reducible exact H2_) | with_reducible exact H | (rw [hy316]; exact H) | exact H
         have Ny316 := Aside0.mk hy316
         clear hy316
         have H' := Aside0.mk H
         clear H
         obtain ⟨hcz100_0, hfz100_0, hcz100_1, hfz100_1, hcz100_2, hfz100_2⟩ := hkc3 BK225
         go_wp2_with (first | (at_builtin; refine Kd.R_append_str (ok := (fun k_ => some k_ ≠ (.slice Ao15 t232.length co15 : Value).ownBlock)) (w0 := w) w.heap.size rfl (.tmp 82) _ 28 9 5 rfl Tryd.underlying28 Tryd.underlying9 info5 u3 x3_1 (⟨#[48, 46]⟩ : ByteArray) rfl rfl ?aO ?aF ?aB ?aS ?aL ?_; (case aB => exact (hkS HB)); (case aF => exact (fun k_ hk => Kd.fresh' (Kd.R_lt (hkR HO_4)) k_ hk)); (case aO => exact (hkR HO_3)); (case aS => exact (below_size (hkS HB))); (case aL => have := LMc99.out; have hz_ : (⟨#[48, 46]⟩ : ByteArray).size = 2 := rfl; omega); intro v317 w101 ho hb hg hat; rw [← Ny316.out] at ho; change Kd.R (Kd.int .u8) 5 w101 w.heap.size (fun k_ => some k_ ≠ (.slice Ao15 t232.length co15 : Value).ownBlock) v317 y316 at ho; have n_ := hkA (Aside0.mk (Kd.R_after (ok := (fun _ => True)) (by (with_reducible repeat (first | apply Kd.R_alloc | apply Kd.R_drewN | apply Kd.R_drew)); exact Kd.R_mono HO_4.out (fun _ hk => ⟨trivial, hk⟩)) hg hat)) (hkA (Aside0.mk (blk_grown (g := gb225) (o := .cells #[.bool a0_0, .slice A0_1 l0_1.length c0_1, .int .i64 a0_2] 32 (0, 0)) (hkB BK225) hg (Kd.R_ne HO_3.out BK225.out (by decide)))) (hkA (Aside0.mk (hb)) (Aside0.mk (ho)))); clear HO_4 BK225 HB HO_3; obtain ⟨HO_4, BK225, HB, HO318⟩ := n_; clear ho hb hg hat))
         go_loopg [3, 7] kj11 (fun kq v3 v7 w' => ∃ (x3_3 : List Int) (x7_3 : Int), v7 = .int .i64 x7_3 ∧ Aside0 (spec_l6text.l1 kq x3_3 t232 x7_3 = some r) ∧ Aside0 (kq ≤ kj11) ∧ Aside0 (Kd.R (Kd.int .u8) 5 w' w.heap.size (fun k_ => some k_ ≠ ((.slice Ao15 t232.length co15) : Value).ownBlock) v3 x3_3) ∧ Aside0 (Kd.R (Kd.int .u8) 5 w' w.heap.size (fun k_ => some k_ ≠ (v3 : Value).ownBlock) (.slice Ao15 t232.length co15) t232) ∧ Aside0 (w'.heap[gb225]? = some (.cells #[.bool a0_0, (.slice A0_1 l0_1.length c0_1), .int .i64 a0_2] 32 (0, 0))) ∧ Aside0 (Below w.heap.size w w'))
         case atStart => exact ⟨(y316), ((wrap64 ((t232.length : Int) + a0_2))), (by first | rfl | (simp; done) | (simp [*]; done)), H', ⟨Nat.le_refl _⟩, ⟨by (with_reducible repeat (first | apply Kd.R_alloc | apply Kd.R_drewN | apply Kd.R_drew)); exact HO318.out⟩, ⟨by (with_reducible repeat (first | apply Kd.R_alloc | apply Kd.R_drewN | apply Kd.R_drew)); exact Kd.R_mono HO_4.out (fun _ hk => hk.2)⟩, ⟨by refine hkz ?_; exact BK225.out⟩, ⟨hkS HB⟩⟩
         case round =>
          clear H'
          try clear c1
          try clear c2
          try clear p2
          try clear q2
          try clear hx2
          try clear qi2
          try clear c3
          try clear q3
          try clear c4
          try clear c5
          try clear c6
          try clear p6
          try clear c7
          try clear c8
          try clear c9
          try clear q9
          try clear c15
          try clear c17
          try clear c17b0
          try clear c18
          try clear c19
          try clear c19b0
          try clear c19b1
          try clear c20
          try clear c21
          try clear c21b0
          try clear c21b1
          try clear c22
          try clear c23
          try clear c23b0
          try clear c23b1
          try clear p23
          try clear q23
          try clear hx23
          try clear qi23
          try clear c24
          try clear c25
          try clear c26
          try clear c28
          try clear c34
          try clear q34
          try clear c49
          try clear c52
          try clear p64
          try clear c66
          try clear c66b0
          try clear c67
          try clear c70
          try clear c70b0
          try clear c71
          try clear c78
          try clear c78b0
          try clear c80
          try clear c80b0
          try clear c80b1
          try clear c81
          try clear c81b0
          try clear c81b1
          try clear c82
          try clear c83
          try clear c84
          try clear c84b0
          try clear c85
          try clear c85b0
          try clear c86
          try clear q90
          try clear c91
          try clear q91
          try clear c99
          try clear hcz100_0 hcz100_1 hcz100_2 hcz13_0 hcz13_1 hcz13_2 hcz16_0 hcz16_1 hcz16_2 hcz4_0 hcz4_1 hcz4_2 hcz68_0 hcz68_1 hcz68_2 hcz72_0 hcz72_1 hcz72_2 hcz77_0 hcz77_1 hcz77_2 hcz87_0 hcz87_1 hcz87_2 hfz100_0 hfz100_1 hfz100_2 hfz13_0 hfz13_1 hfz13_2 hfz16_0 hfz16_1 hfz16_2 hfz4_0 hfz4_1 hfz4_2 hfz68_0 hfz68_1 hfz68_2 hfz72_0 hfz72_1 hfz72_2 hfz77_0 hfz77_1 hfz77_2 hfz87_0 hfz87_1 hfz87_2
          try clear hx235_0
          try clear p2
          try clear p23
          try clear p235
          try clear p6
          try clear p64
          try clear q091
          try clear q23
          try clear q235
          try clear q3
          try clear q34
          try clear q90
          try clear q91
          obtain ⟨x3_3, x7_3, rfl, HA, HK3, HO_3, HO_4, BK225, HB⟩ := hrel
          cases gk with
          | zero => exact absurd HA.out (by simp [spec_l6text.l1])
          | succ k3 =>
           have H := HA.out
           clear HA
           simp only [spec_l6text.l1] at H
           by_cases c102 : x7_3 < 0
           ·rw [if_pos c102] at H
            have c102b0 : decide (x7_3 < 0) = true := decide_eq_true c102
            clear c102
            obtain ⟨y319, hy319⟩ : ∃ y_ : List Int, y_ = (([48] : List Int)) := ⟨_, rfl⟩
            replace H : (if x3_3.length + y319.length < 140737488355328 then (spec_l6text.l1 k3 (x3_3 ++ y319) t232 (wrap64 (x7_3 + 1))) else (none)) = some r := by first | (rw [hy319]; with_reducible exact H) | (have H2_ := (Option.bind_some _ _).symm.trans H; rw [hy319]; with_reducible exact H2_) | (have H2_ := (Option.bind_some _ _).symm.trans H; with_reducible exact H2_) | with_reducible exact H | (rw [hy319]; exact H) | exact H
            have Ny319 := Aside0.mk hy319
            clear hy319
            by_cases c103 : x3_3.length + y319.length < 140737488355328
            ·rw [if_pos c103] at H
             have LMc103 := Aside0.mk c103
             clear c103
             obtain ⟨y322, hy322⟩ : ∃ y_ : List Int, y_ = (x3_3 ++ y319) := ⟨_, rfl⟩
             replace H : (spec_l6text.l1 k3 y322 t232 (wrap64 (x7_3 + 1))) = some r := by first | (rw [hy322]; with_reducible exact H) | (have H2_ := (Option.bind_some _ _).symm.trans H; rw [hy322]; with_reducible exact H2_) | (have H2_ := (Option.bind_some _ _).symm.trans H; with_reducible exact H2_) | with_reducible exact H | (rw [hy322]; exact H) | exact H
             have Ny322 := Aside0.mk hy322
             clear hy322
             have H' := Aside0.mk H
             clear H
             go_wp2_with (first | ((with_reducible refine gate_dst (N := 90) rfl ?_); (first | (refine Kd.R_litmark (Kd.int .u8) _ 5 ?hg (N := 90) ?hd ?hg2 ?t2 ?ho2 ?ht2 ?he2 rfl (xs := ([48] : List Int)) (inner := [.int .u8 48]) (ok := fun _ => True) (okp := fun _ => True) ?hev ?hr ?hp (fun _ hk => hk) trivial (Below.refl _ _) (Nat.le_refl _) (by simp) ?_; (case hd => rfl); (case hg => rfl); (case hg2 => rfl); (case ho2 => rfl); (case ht2 => kernel_rfl); (case he2 => kernel_rfl); (case hev => first | rfl | (go_simp; done) | (go_simp; rfl)); (case hr => first | (go_simp; done) | (go_simp; rfl))) | (refine Kd.R_lit (Kd.int .u8) _ 5 ?hg (N := 90) ?hd (xs := ([48] : List Int)) (inner := [.int .u8 48]) (ok := fun _ => True) (okp := fun _ => True) ?hr ?hp (fun _ hk => hk) trivial (Below.refl _ _) (Nat.le_refl _) (by simp) ?_; (case hd => rfl); (case hg => rfl); (case hr => first | (go_simp; done) | (go_simp; rfl)))); (case hp => exact (Reps.one (show Kd.M (Kd.int .u8) _ _ _ 48 [.int .u8 48] from rfl) (Reps.none _ _))); intro v320 w104 ho105 hb hg_ hnew_; clear hg_ hnew_; (first | rw [← Ny319.out] at ho105 | (simp only [Int.reduceToNat] at ho105; rw [← Ny319.out] at ho105) | (simp only [Int.toNat_zero, List.replicate_zero] at ho105; rw [← Ny319.out] at ho105)); have n_ := hkA (Aside0.mk (Kd.R_elder' (hkR HO_3) (Kd.R_base ho105) hb)) (hkA (Aside0.mk (Kd.R_elder' (hkR HO_4) (Kd.R_base ho105) hb)) (hkA (Aside0.mk (Kd.R_lower (Kd.R_new' (Kd.R_new' ho105 (Kd.R_lt (hkR HO_3))) (Kd.R_lt (hkR HO_4))) (below_size (hkS HB)))) (hkA (hkBb BK225 hb) (hkU HB hb)))); clear HO_3 HO_4 BK225 HB; obtain ⟨HO_3, HO_4, HO321, BK225, HB⟩ := n_; clear hb ho105; obtain ⟨Ao107, co107, eo107⟩ := Kd.R_slice HO321.out; subst eo107) | ((with_reducible refine gate_builtin (b := .append) (xs := #[.tmp 89, .tmp 90]) rfl ?_); at_builtin; refine Kd.R_append_rows (Kd.int .u8) (w0 := w) w.heap.size rfl (.tmp 89) (.tmp 90) 28 5 (.int .u8 0) 1 rfl Tryd.underlying28 info5 rfl (by decide) (by omega) u3 x3_3 y319 _ _ _ (fun k_ => some k_ ≠ (.slice Ao15 t232.length co15 : Value).ownBlock ∧ some k_ ≠ (.slice Ao107 y319.length co107 : Value).ownBlock) (fun _ => False) rfl rfl ?aO ?aR (fun _ _ h => h) (fun _ h => h.elim) ?aF ?aB ?aS ?aL ?_; (case aR => exact hkC ((Kd.R_reads' HO321.out).2.2)); (case aB => exact (hkS HB)); (case aF => exact (fun k_ hk => ⟨Kd.fresh' (Kd.R_lt (hkR HO_4)) k_ hk, Kd.fresh' (Kd.R_lt (hkR HO321)) k_ hk⟩)); (case aO => exact (hkR HO_3)); (case aS => exact (below_size (hkS HB))); (case aL => have := LMc103.out; omega); intro v323 w106 ho hb hg hat; rw [← Ny322.out] at ho; have n_ := hkA (Aside0.mk (Kd.R_after (ok := (fun k_ => some k_ ≠ (.slice Ao107 y319.length co107 : Value).ownBlock)) (by (with_reducible repeat (first | apply Kd.R_alloc | apply Kd.R_drewN | apply Kd.R_drew)); exact Kd.R_mono HO_4.out (fun _ hk => ⟨hk.2, hk.1⟩)) hg hat)) (hkA (Aside0.mk (blk_grown (g := gb225) (o := .cells #[.bool a0_0, .slice A0_1 l0_1.length c0_1, .int .i64 a0_2] 32 (0, 0)) (hkB BK225) hg (Kd.R_ne HO_3.out BK225.out (by decide)))) (hkA (Aside0.mk (Kd.R_after (ok := (fun k_ => some k_ ≠ (.slice Ao15 t232.length co15 : Value).ownBlock)) (by (with_reducible repeat (first | apply Kd.R_alloc | apply Kd.R_drewN | apply Kd.R_drew)); exact Kd.R_mono HO321.out (fun _ hk => ⟨hk.2, hk.1.2⟩)) hg hat)) (hkA (Aside0.mk (hb)) (Aside0.mk (ho))))); clear HO_4 BK225 HO321 HB HO_3; obtain ⟨HO_4, BK225, HO321, HB, HO324⟩ := n_; clear ho hb hg hat))
             go_roundg k3
             case measure => have := HJ1.out; have := HJ11.out; have := HK3.out; omega
             case rel => exact ⟨(y322), (wrap64 (x7_3 + 1)), (by first | rfl | (simp; done) | (simp [*]; done)), H', ⟨by have := HJ1.out; have := HJ11.out; have := HK3.out; omega⟩, ⟨by (with_reducible repeat (first | apply Kd.R_alloc | apply Kd.R_drewN | apply Kd.R_drew)); exact Kd.R_mono HO324.out (fun _ hk => hk.1)⟩, ⟨by (with_reducible repeat (first | apply Kd.R_alloc | apply Kd.R_drewN | apply Kd.R_drew)); exact Kd.R_mono HO_4.out (fun _ hk => hk.2)⟩, ⟨by refine hkz ?_; exact BK225.out⟩, ⟨hkS HB⟩⟩
            ·rw [if_neg c103] at H
             exact absurd H (by simp)
           ·rw [if_neg c102] at H
            have c102b0 : decide (x7_3 < 0) = false := decide_eq_false c102
            clear c102
            by_cases c108 : x3_3.length + t232.length < 140737488355328
            ·rw [if_pos c108] at H
             have LMc108 := Aside0.mk c108
             clear c108
             obtain ⟨y325, hy325⟩ : ∃ y_ : List Int, y_ = (x3_3 ++ t232) := ⟨_, rfl⟩
             replace H : (some y325) = some r := by first | (rw [hy325]; with_reducible exact H) | (have H2_ := (Option.bind_some _ _).symm.trans H; rw [hy325]; with_reducible exact H2_) | (have H2_ := (Option.bind_some _ _).symm.trans H; with_reducible exact H2_) | with_reducible exact H | (rw [hy325]; exact H) | exact H
             have Ny325 := Aside0.mk hy325
             clear hy325
             obtain rfl := Option.some.inj H
             go_wp2_with (first | ((with_reducible refine gate_builtin (b := .append) (xs := #[.tmp 92, .tmp 93]) rfl ?_); at_builtin; refine Kd.R_append_rows (Kd.int .u8) (w0 := w) w.heap.size rfl (.tmp 92) (.tmp 93) 28 5 (.int .u8 0) 1 rfl Tryd.underlying28 info5 rfl (by decide) (by omega) u3 x3_3 t232 _ _ _ (fun k_ => some k_ ≠ (.slice Ao15 t232.length co15 : Value).ownBlock) (fun _ => False) rfl rfl ?aO ?aR (fun _ _ h => h) (fun _ h => h.elim) ?aF ?aB ?aS ?aL ?_; (case aR => exact hkC ((Kd.R_reads' HO_4.out).2.2)); (case aB => exact (hkS HB)); (case aF => exact (fun k_ hk => Kd.fresh' (Kd.R_lt (hkR HO_4)) k_ hk)); (case aO => exact (hkR HO_3)); (case aS => exact (below_size (hkS HB))); (case aL => have := LMc108.out; omega); intro v326 w109 ho hb hg hat; rw [← Ny325.out] at ho; have n_ := hkA (Aside0.mk (Kd.R_after (ok := (fun _ => True)) (by (with_reducible repeat (first | apply Kd.R_alloc | apply Kd.R_drewN | apply Kd.R_drew)); exact Kd.R_mono HO_4.out (fun _ hk => ⟨trivial, hk⟩)) hg hat)) (hkA (Aside0.mk (blk_grown (g := gb225) (o := .cells #[.bool a0_0, .slice A0_1 l0_1.length c0_1, .int .i64 a0_2] 32 (0, 0)) (hkB BK225) hg (Kd.R_ne HO_3.out BK225.out (by decide)))) (hkA (Aside0.mk (hb)) (Aside0.mk (ho)))); clear HO_4 BK225 HB HO_3; obtain ⟨HO_4, BK225, HB, HO327⟩ := n_; clear ho hb hg hat))
             go_ret
             exact ⟨_, hkE, by (with_reducible repeat (first | apply Kd.R_alloc | apply Kd.R_drewN | apply Kd.R_drew)); exact Kd.R_mono HO327.out (fun _ hk => trivial), hkS HB⟩
            ·rw [if_neg c108] at H
             exact absurd H (by simp)
        ·rw [if_neg c99] at H
         exact absurd H (by simp)

end Go.Proofs.YthmieecgojiliaaDoor.PFnExactDecText
