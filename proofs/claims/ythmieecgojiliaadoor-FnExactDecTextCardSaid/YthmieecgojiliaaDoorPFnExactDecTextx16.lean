-- Written by our own driver (wip/hand/hprint.py) over the seat's translation.
import Derived.Test.YthmieecgojiliaaDoorPFnExactDecTextx0
import Derived.Test.YthmieecgojiliaaDoorPFnExactDecTextx13
import Derived.Test.YthmieecgojiliaaDoorPFnExactDecTextx14
import Derived.Test.YthmieecgojiliaaDoorPFnExactDecTextx15
namespace Go.Proofs.YthmieecgojiliaaDoor.PFnExactDecText
open Go.RowKit Go.Proofs.YthmieecgojiliaaDoorW.PrintWords Go.Proofs.YthmieecgojiliaaDoorW.PrintLast Go.Proofs.YthmieecgojiliaaDoorW.PrintMore
attribute [local go_sem] max2_int min2_int max_two min_two max_three min_three max_four min_four   -- for this text's walks alone
set_option linter.unusedVariables false
set_option linter.unusedSimpArgs false

/-! ### impl_decText: function 18 -/
def impl_decText.j0 : Nat → List Int → Int → List Int → Bool → Bool → List Int → Int → Option (List Int)
 | 0, _, _, _, _, _, _, _ => none
 | k + 1, x3, x4, x5, x25, x400000, x400001, x400002 => if x25 = true then (if 0 < (x3.length : Int) then (if x5.length < 140737488355328 then ((some (x5 ++ [rd x3 0] : List Int)).bind fun y404 => (if (x3.length : Int) > 1 then (if y404.length < 140737488355328 then ((some (y404 ++ [46] : List Int)).bind fun y407 => (if 1 ≤ (x3.length : Int) then ((some (x3.drop 1 : List Int)).bind fun y410 => (if y407.length + y410.length < 140737488355328 then ((some (y407 ++ y410 : List Int)).bind fun y414 => (if y414.length < 140737488355328 then ((some (y414 ++ [101] : List Int)).bind fun y417 => ((strconv_Itoa_32.f (wrap64 (x4 - 1))).bind fun t420 => (if y417.length + t420.size < 140737488355328 then ((impl_signedText.f x400000 (y417 ++ bytesOf t420)).bind fun t424 => (some t424)) else (none)))) else (none))) else (none))) else (none))) else (none)) else (if y404.length < 140737488355328 then ((some (y404 ++ [101] : List Int)).bind fun y427 => ((strconv_Itoa_32.f (wrap64 (x4 - 1))).bind fun t430 => (if y427.length + t430.size < 140737488355328 then ((impl_signedText.f x400000 (y427 ++ bytesOf t430)).bind fun t434 => (some t434)) else (none)))) else (none)))) else (none)) else (none)) else (if x400002 ≥ 0 then ((slices_Repeat_byte_byte.f (([48] : List Int)) x400002).bind fun t440 => (if x3.length + t440.length < 140737488355328 then ((impl_signedText.f x400000 (x3 ++ t440)).bind fun t446 => (some t446)) else (none))) else (if x4 > 0 then (if 0 ≤ x4 then (if x4 ≤ (x3.length : Int) then ((slices_Concat_byte_byte.f (x3.take (x4 : Int).toNat) (([46] : List Int)) (x3.drop (x4 : Int).toNat)).bind fun t461 => ((impl_signedText.f x400000 t461).bind fun t464 => (some t464))) else (none)) else (none)) else ((slices_Repeat_byte_byte.f (([48] : List Int)) (wrap64 (-x4))).bind fun t473 => ((slices_Concat_byte_byte.f (([48, 46] : List Int)) t473 x3).bind fun t477 => ((impl_signedText.f x400000 t477).bind fun t480 => (some t480))))))
def impl_decText.f (k : Nat) (a0_0 : Bool) (l0_1 : List Int) (a0_2 : Int) : Option (List Int) := (impl_digitsOf.f k l0_1).bind fun t400 => (if (wrap64 ((t400.length : Int) + a0_2)) > 21 then (impl_decText.j0 k t400 (wrap64 ((t400.length : Int) + a0_2)) ([] : List Int) true a0_0 l0_1 a0_2) else (impl_decText.j0 k t400 (wrap64 ((t400.length : Int) + a0_2)) ([] : List Int) (decide ((wrap64 ((t400.length : Int) + a0_2)) < (-5))) a0_0 l0_1 a0_2))
theorem impl_decText.mono_l : ∀ k, (∀ y0 y1 y2 y3 y4 y5 y6, LeO (impl_decText.j0 k y0 y1 y2 y3 y4 y5 y6) (impl_decText.j0 (k + 1) y0 y1 y2 y3 y4 y5 y6))
 | 0 => fun _ _ _ _ _ _ _ r h => by simp [impl_decText.j0] at h
 | k + 1 => by
  have ih0 := impl_decText.mono_l k
  ·intro y0 y1 y2 y3 y4 y5 y6
   unfold impl_decText.j0
   repeat' first
   | (with_reducible exact ih0 _ _ _ _ _ _ _)
   | (with_reducible exact impl_digitsOf.mono _ _)
   | (with_reducible exact LeO.refl _)
   | (with_reducible exact LeO.none _)
   | (with_reducible refine LeO.ite ?_ ?_)
   | (with_reducible refine LeO.bind ?_ (fun _ => ?_))
   | exact ih0 _ _ _ _ _ _ _
   | exact impl_digitsOf.mono _ _
   | exact LeO.none _
   | refine LeO.ite ?_ ?_
   | refine LeO.bind ?_ (fun _ => ?_)
theorem impl_decText.mono : ∀ a0 a1 a2 k, LeO (impl_decText.f k a0 a1 a2) (impl_decText.f (k + 1) a0 a1 a2) := by
 intro a0 a1 a2 k
 have ih0 := impl_decText.mono_l k
 unfold impl_decText.f
 repeat' first
   | (with_reducible exact ih0 _ _ _ _ _ _ _)
   | (with_reducible exact impl_digitsOf.mono _ _)
   | (with_reducible exact LeO.refl _)
   | (with_reducible exact LeO.none _)
   | (with_reducible refine LeO.ite ?_ ?_)
   | (with_reducible refine LeO.bind ?_ (fun _ => ?_))
   | exact ih0 _ _ _ _ _ _ _
   | exact impl_digitsOf.mono _ _
   | exact LeO.none _
   | refine LeO.ite ?_ ?_
   | refine LeO.bind ?_ (fun _ => ?_)
def impl_decText.T13 : Bool × List (List Nat × List Nat) := (true, [([], []), ([], []), ([0, 1], [0, 1]), ([], []), ([3], [3]), ([], []), ([], []), ([5, 6], [5, 6]), ([2, 4, 7], [2, 4, 7]), ([8], [8]), ([9, 9, 0, 1, 2, 3, 4, 5, 6, 7, 8, 9], [9])])
def impl_decText.B13 : List Nat := [0, 0, 3, 0, 8, 0, 0, 96, 255, 511, 1023]
theorem impl_decText.tab13 : rtab .any (opsOf Tryd.f18 13) = impl_decText.T13 := by kernel_rfl
theorem impl_decText.bits13 : waitsOk impl_decText.T13.2 impl_decText.B13 = true := by kernel_rfl
set_option maxHeartbeats 8000000 in
set_option maxRecDepth 100000 in
theorem impl_decText.calls (k : Nat) (a0_0 : Bool) (A0_1 : Option Addr) (c0_1 : Nat) (l0_1 : List Int) (a0_2 : Int) (r : List Int) (w : World) (hr0_1 : Kd.C (Kd.int .i64) w A0_1 l0_1.length l0_1) (hc0_1 : l0_1.length ≤ c0_1) (h : impl_decText.f k a0_0 l0_1 a0_2 = some r) (hT : hTab w := by exact hTab_use (by assumption)) :
  Calls Tryd.prog 18 #[.agg #[.bool a0_0, .slice A0_1 l0_1.length c0_1, .int .i64 a0_2]] w fun e w' => ∃ v0_ : Value, e = .returned (v0_) ∧ Kd.R (Kd.int .u8) 5 w' w.heap.size (fun _ => True) v0_ r ∧ Below w.heap.size w w' := by
 have HT0 := Aside0.mk hT
 clear hT
 have hu32 := Tryd.underlying32
 have HR0_1 := Aside0.mk hr0_1
 have HC0_1 := Aside0.mk hc0_1
 clear hr0_1 hc0_1
 have HB := Aside0.mk (Below.refl w.heap.size w)
 have H : ((impl_digitsOf.f k l0_1).bind fun t400 => (if (wrap64 ((t400.length : Int) + a0_2)) > 21 then (impl_decText.j0 k t400 (wrap64 ((t400.length : Int) + a0_2)) ([] : List Int) true a0_0 l0_1 a0_2) else (impl_decText.j0 k t400 (wrap64 ((t400.length : Int) + a0_2)) ([] : List Int) (decide ((wrap64 ((t400.length : Int) + a0_2)) < (-5))) a0_0 l0_1 a0_2))) = some r := h
 clear h
 replace H := hBi H
 obtain ⟨t400, A20, H⟩ := H
 replace H : (if (wrap64 ((t400.length : Int) + a0_2)) > 21 then (impl_decText.j0 k t400 (wrap64 ((t400.length : Int) + a0_2)) ([] : List Int) true a0_0 l0_1 a0_2) else (impl_decText.j0 k t400 (wrap64 ((t400.length : Int) + a0_2)) ([] : List Int) (decide ((wrap64 ((t400.length : Int) + a0_2)) < (-5))) a0_0 l0_1 a0_2)) = some r := H
 have A2 := Aside0.mk A20
 clear A20
 have HC3 := Aside0.mk H
 clear H
 go_enter Tryd.func18, Tryd.ntmps18
 go_upto_region 5 with (first | ((with_reducible refine gate_dst (N := 1) rfl ?_); refine hkBox (N := 1) (cs := #[.bool a0_0, .slice A0_1 l0_1.length c0_1, .int .i64 a0_2]) (t := 32) ?_; intro gb399 hg w4 hbox hb; have n_ := hkA (hkU HB hb) (hkA (Aside0.mk (hbox)) (hkA (hkG hg (hkS HB)) (hkG hg (hkS HB)))); clear HB; obtain ⟨HB, BK399, GW399, GE399⟩ := n_; clear hb hbox hg; obtain ⟨hcz5_0, hfz5_0, hcz5_1, hfz5_1, hcz5_2, hfz5_2⟩ := hkc3 BK399) | ((with_reducible refine gate_callee (f := 31) rfl ?_); refine hkGo (N := some 9) Tryd.func31 #[.slice A0_1 l0_1.length c0_1] ?_; (with_reducible refine (impl_digitsOf.calls k (fun k_ => k_ < w.heap.size) _ _ l0_1 t400 _ ?side1 A2.out).mono ?_); (case side1 => exact Kd.V_mk HC0_1.out (Kd.F_below (Kd.C_F (Kd.heap_int .i64) HR0_1.out) (hkS HB))); rintro e w6 ⟨v401, rfl, ho0, hb⟩; refine ⟨_, rfl, ?_⟩; have n_ := hkA (Aside0.mk (Kd.R_lower (Kd.R_mono (ok' := fun k_ => True) ho0 (fun _ hk_ => trivial)) (below_size (hkS HB)))) (hkA (hkBb BK399 hb) (hkU HB hb)); clear BK399 HB; obtain ⟨HO402, BK399, HB⟩ := n_; (try clear hb); (try clear ho0); obtain ⟨Ao7, co7, eo7⟩ := Kd.R_slice HO402.out; subst eo7; obtain ⟨hcz8_0, hfz8_0, hcz8_1, hfz8_1, hcz8_2, hfz8_2⟩ := hkc3 BK399))
 (try simp only [Act.put, List.setIfInBounds_toArray, List.set_cons_zero, List.set_cons_succ])
 go_cut [25] (fun v25 wc => ∃ (kq : Nat) (x25_2 : Bool), v25 = .bool x25_2 ∧ Aside0 (impl_decText.j0 kq t400 (wrap64 ((t400.length : Int) + a0_2)) ([] : List Int) x25_2 a0_0 l0_1 a0_2 = some r) ∧ Aside0 (kq ≤ k) ∧ Aside0 (Kd.R (Kd.int .u8) 5 wc w.heap.size (fun k_ => some k_ ≠ ((.slice none 0 0) : Value).ownBlock) (.slice Ao7 t400.length co7) t400) ∧ Aside0 (Kd.R (Kd.int .u8) 5 wc w.heap.size (fun k_ => some k_ ≠ ((.slice Ao7 t400.length co7) : Value).ownBlock) (.slice none 0 0) ([] : List Int)) ∧ Aside0 (wc.heap[gb399]? = some (.cells #[.bool a0_0, (.slice A0_1 l0_1.length c0_1), .int .i64 a0_2] 32 (0, 0))) ∧ Aside0 (Below w.heap.size w wc))
 case first =>
  have H := HC3.out
  clear HC3
  by_cases c9 : (wrap64 ((t400.length : Int) + a0_2)) > 21
  ·rw [if_pos c9] at H
   have c9b0 : decide (21 < (wrap64 ((t400.length : Int) + a0_2))) = true := decide_eq_true c9
   clear c9
   (first | rw [c9b0] | (simp only [i64_w, i32_w]; rw [c9b0]) | skip)
   have H' := Aside0.mk H
   clear H
   go_wp2
   go_meet
   case rel => exact ⟨_, (true), (by first | rfl | (simp; done) | (simp [*]; done)), H', ⟨by first | omega | exact Nat.le_refl _⟩, ⟨by (with_reducible repeat (first | apply Kd.R_alloc | apply Kd.R_drewN | apply Kd.R_drew)); exact Kd.R_mono HO402.out (fun _ hk => (by simp [Value.ownBlock]))⟩, ⟨by first | exact Kd.R_nil _ _ _ _ _ | exact Kd.N_nil _ _ _ _ _ | exact Kd.V_nil _ _ _ _ _ | exact Kd.Q_nil _ _ _ _ _ | exact Kd.S_nil _ _ _ _ _⟩, ⟨by refine hkz ?_; exact BK399.out⟩, ⟨hkS HB⟩⟩
  ·rw [if_neg c9] at H
   have c9b0 : decide (21 < (wrap64 ((t400.length : Int) + a0_2))) = false := decide_eq_false c9
   clear c9
   (first | rw [c9b0] | (simp only [i64_w, i32_w]; rw [c9b0]) | skip)
   have H' := Aside0.mk H
   clear H
   go_wp2
   go_meet
   case rel => exact ⟨_, (decide ((wrap64 ((t400.length : Int) + a0_2)) < (-5))), (by first | rfl | (simp; done) | (simp [*]; done)), H', ⟨by first | omega | exact Nat.le_refl _⟩, ⟨by (with_reducible repeat (first | apply Kd.R_alloc | apply Kd.R_drewN | apply Kd.R_drew)); exact Kd.R_mono HO402.out (fun _ hk => (by simp [Value.ownBlock]))⟩, ⟨by first | exact Kd.R_nil _ _ _ _ _ | exact Kd.N_nil _ _ _ _ _ | exact Kd.V_nil _ _ _ _ _ | exact Kd.Q_nil _ _ _ _ _ | exact Kd.S_nil _ _ _ _ _⟩, ⟨by refine hkz ?_; exact BK399.out⟩, ⟨hkS HB⟩⟩
 case rest =>
  clear HC3
  try clear c1
  try clear p2
  try clear c3
  try clear p6
  try clear c9
  try clear c9b0
  try clear hcz5_0 hcz5_1 hcz5_2 hcz8_0 hcz8_1 hcz8_2 hfz5_0 hfz5_1 hfz5_2 hfz8_0 hfz8_1 hfz8_2
  obtain ⟨kq, x25_2, rfl, HA, HJ2, HO_3, HO_5, BK399, HB⟩ := hcut
  cases kq with
  | zero => exact absurd HA.out (by simp [impl_decText.j0])
  | succ kj2 =>
   have H := HA.out
   clear HA
   simp only [impl_decText.j0] at H
   by_cases c10 : x25_2 = true
   ·subst c10
    have H1 : (if 0 < (t400.length : Int) then (if ([] : List Int).length < 140737488355328 then ((some (([] : List Int) ++ [rd t400 0] : List Int)).bind fun y404 => (if (t400.length : Int) > 1 then (if y404.length < 140737488355328 then ((some (y404 ++ [46] : List Int)).bind fun y407 => (if 1 ≤ (t400.length : Int) then ((some (t400.drop 1 : List Int)).bind fun y410 => (if y407.length + y410.length < 140737488355328 then ((some (y407 ++ y410 : List Int)).bind fun y414 => (if y414.length < 140737488355328 then ((some (y414 ++ [101] : List Int)).bind fun y417 => ((strconv_Itoa_32.f (wrap64 ((wrap64 ((t400.length : Int) + a0_2)) - 1))).bind fun t420 => (if y417.length + t420.size < 140737488355328 then ((impl_signedText.f a0_0 (y417 ++ bytesOf t420)).bind fun t424 => (some t424)) else (none)))) else (none))) else (none))) else (none))) else (none)) else (if y404.length < 140737488355328 then ((some (y404 ++ [101] : List Int)).bind fun y427 => ((strconv_Itoa_32.f (wrap64 ((wrap64 ((t400.length : Int) + a0_2)) - 1))).bind fun t430 => (if y427.length + t430.size < 140737488355328 then ((impl_signedText.f a0_0 (y427 ++ bytesOf t430)).bind fun t434 => (some t434)) else (none)))) else (none)))) else (none)) else (none)) = some r := by rw [if_pos rfl] at H; exact H
    clear H
    have H := H1
    clear H1
    by_cases c11 : 0 < (t400.length : Int)
    ·rw [if_pos c11] at H
     have c11b0 : decide (0 < (t400.length : Int)) = true := decide_eq_true c11
     have c11b1 : decide (0 < t400.length) = true := decide_eq_true (by omega)
     clear c11
     by_cases c12 : ([] : List Int).length < 140737488355328
     ·rw [if_pos c12] at H
      have LMc12 := Aside0.mk c12
      clear c12
      obtain ⟨y404, hy404⟩ : ∃ y_ : List Int, y_ = (([] : List Int) ++ [rd t400 0]) := ⟨_, rfl⟩
      replace H : (if (t400.length : Int) > 1 then (if y404.length < 140737488355328 then ((some (y404 ++ [46] : List Int)).bind fun y407 => (if 1 ≤ (t400.length : Int) then ((some (t400.drop 1 : List Int)).bind fun y410 => (if y407.length + y410.length < 140737488355328 then ((some (y407 ++ y410 : List Int)).bind fun y414 => (if y414.length < 140737488355328 then ((some (y414 ++ [101] : List Int)).bind fun y417 => ((strconv_Itoa_32.f (wrap64 ((wrap64 ((t400.length : Int) + a0_2)) - 1))).bind fun t420 => (if y417.length + t420.size < 140737488355328 then ((impl_signedText.f a0_0 (y417 ++ bytesOf t420)).bind fun t424 => (some t424)) else (none)))) else (none))) else (none))) else (none))) else (none)) else (if y404.length < 140737488355328 then ((some (y404 ++ [101] : List Int)).bind fun y427 => ((strconv_Itoa_32.f (wrap64 ((wrap64 ((t400.length : Int) + a0_2)) - 1))).bind fun t430 => (if y427.length + t430.size < 140737488355328 then ((impl_signedText.f a0_0 (y427 ++ bytesOf t430)).bind fun t434 => (some t434)) else (none)))) else (none))) = some r := by first | (rw [hy404]; with_reducible exact H) | (have H2_ := (Option.bind_some _ _).symm.trans H; rw [hy404]; with_reducible exact H2_) | (have H2_ := (Option.bind_some _ _).symm.trans H; with_reducible exact H2_) | with_reducible exact H | (rw [hy404]; exact H) | exact H
      have Ny404 := Aside0.mk hy404
      clear hy404
      by_cases c13 : (t400.length : Int) > 1
      ·rw [if_pos c13] at H
       have c13b0 : decide (1 < (t400.length : Int)) = true := decide_eq_true c13
       have c13b1 : decide (1 < t400.length) = true := decide_eq_true (by omega)
       clear c13
       by_cases c14 : y404.length < 140737488355328
       ·rw [if_pos c14] at H
        have LMc14 := Aside0.mk c14
        clear c14
        obtain ⟨y407, hy407⟩ : ∃ y_ : List Int, y_ = (y404 ++ [46]) := ⟨_, rfl⟩
        replace H : (if 1 ≤ (t400.length : Int) then ((some (t400.drop 1 : List Int)).bind fun y410 => (if y407.length + y410.length < 140737488355328 then ((some (y407 ++ y410 : List Int)).bind fun y414 => (if y414.length < 140737488355328 then ((some (y414 ++ [101] : List Int)).bind fun y417 => ((strconv_Itoa_32.f (wrap64 ((wrap64 ((t400.length : Int) + a0_2)) - 1))).bind fun t420 => (if y417.length + t420.size < 140737488355328 then ((impl_signedText.f a0_0 (y417 ++ bytesOf t420)).bind fun t424 => (some t424)) else (none)))) else (none))) else (none))) else (none)) = some r := by first | (rw [hy407]; with_reducible exact H) | (have H2_ := (Option.bind_some _ _).symm.trans H; rw [hy407]; with_reducible exact H2_) | (have H2_ := (Option.bind_some _ _).symm.trans H; with_reducible exact H2_) | with_reducible exact H | (rw [hy407]; exact H) | exact H
        have Ny407 := Aside0.mk hy407
        clear hy407
        by_cases c15 : 1 ≤ (t400.length : Int)
        ·rw [if_pos c15] at H
         have c15b0 := eq_true c15
         have c15b1 : decide (1 ≤ (t400.length : Int)) = true := decide_eq_true c15
         clear c15
         obtain ⟨y410, hy410⟩ : ∃ y_ : List Int, y_ = (t400.drop 1) := ⟨_, rfl⟩
         replace H : (if y407.length + y410.length < 140737488355328 then ((some (y407 ++ y410 : List Int)).bind fun y414 => (if y414.length < 140737488355328 then ((some (y414 ++ [101] : List Int)).bind fun y417 => ((strconv_Itoa_32.f (wrap64 ((wrap64 ((t400.length : Int) + a0_2)) - 1))).bind fun t420 => (if y417.length + t420.size < 140737488355328 then ((impl_signedText.f a0_0 (y417 ++ bytesOf t420)).bind fun t424 => (some t424)) else (none)))) else (none))) else (none)) = some r := by first | (rw [hy410]; with_reducible exact H) | (have H2_ := (Option.bind_some _ _).symm.trans H; rw [hy410]; with_reducible exact H2_) | (have H2_ := (Option.bind_some _ _).symm.trans H; with_reducible exact H2_) | with_reducible exact H | (rw [hy410]; exact H) | exact H
         have Ny410 := Aside0.mk hy410
         clear hy410
         by_cases c16 : y407.length + y410.length < 140737488355328
         ·rw [if_pos c16] at H
          have LMc16 := Aside0.mk c16
          clear c16
          obtain ⟨y414, hy414⟩ : ∃ y_ : List Int, y_ = (y407 ++ y410) := ⟨_, rfl⟩
          replace H : (if y414.length < 140737488355328 then ((some (y414 ++ [101] : List Int)).bind fun y417 => ((strconv_Itoa_32.f (wrap64 ((wrap64 ((t400.length : Int) + a0_2)) - 1))).bind fun t420 => (if y417.length + t420.size < 140737488355328 then ((impl_signedText.f a0_0 (y417 ++ bytesOf t420)).bind fun t424 => (some t424)) else (none)))) else (none)) = some r := by first | (rw [hy414]; with_reducible exact H) | (have H2_ := (Option.bind_some _ _).symm.trans H; rw [hy414]; with_reducible exact H2_) | (have H2_ := (Option.bind_some _ _).symm.trans H; with_reducible exact H2_) | with_reducible exact H | (rw [hy414]; exact H) | exact H
          have Ny414 := Aside0.mk hy414
          clear hy414
          by_cases c17 : y414.length < 140737488355328
          ·rw [if_pos c17] at H
           have LMc17 := Aside0.mk c17
           clear c17
           obtain ⟨y417, hy417⟩ : ∃ y_ : List Int, y_ = (y414 ++ [101]) := ⟨_, rfl⟩
           replace H : ((strconv_Itoa_32.f (wrap64 ((wrap64 ((t400.length : Int) + a0_2)) - 1))).bind fun t420 => (if y417.length + t420.size < 140737488355328 then ((impl_signedText.f a0_0 (y417 ++ bytesOf t420)).bind fun t424 => (some t424)) else (none))) = some r := by first | (rw [hy417]; with_reducible exact H) | (have H2_ := (Option.bind_some _ _).symm.trans H; rw [hy417]; with_reducible exact H2_) | (have H2_ := (Option.bind_some _ _).symm.trans H; with_reducible exact H2_) | with_reducible exact H | (rw [hy417]; exact H) | exact H
           have Ny417 := Aside0.mk hy417
           clear hy417
           replace H := hBi H
           obtain ⟨t420, A180, H⟩ := H
           replace H : (if y417.length + t420.size < 140737488355328 then ((impl_signedText.f a0_0 (y417 ++ bytesOf t420)).bind fun t424 => (some t424)) else (none)) = some r := H
           have A18 := Aside0.mk A180
           clear A180
           by_cases c19 : y417.length + t420.size < 140737488355328
           ·rw [if_pos c19] at H
            have LMc19 := Aside0.mk c19
            clear c19
            obtain ⟨y421, hy421⟩ : ∃ y_ : List Int, y_ = (y417 ++ bytesOf t420) := ⟨_, rfl⟩
            replace H : ((impl_signedText.f a0_0 y421).bind fun t424 => (some t424)) = some r := by first | (rw [hy421]; with_reducible exact H) | (have H2_ := (Option.bind_some _ _).symm.trans H; rw [hy421]; with_reducible exact H2_) | (have H2_ := (Option.bind_some _ _).symm.trans H; with_reducible exact H2_) | with_reducible exact H | (rw [hy421]; exact H) | exact H
            have Ny421 := Aside0.mk hy421
            clear hy421
            replace H := hBi H
            obtain ⟨t424, A200, H⟩ := H
            replace H : (some t424) = some r := H
            have A20 := Aside0.mk A200
            clear A200
            obtain rfl := Option.some.inj H
            have p403 : 0 ≤ (0 : Int) := (by omega)
            have q403 : 0 < (t400.length : Int) := of_decide_eq_true (by first | (with_reducible assumption) | assumption)
            obtain ⟨ad403, e403, hx403_0⟩ := Kd.at_int (Kd.R_reads' HO_3.out).2.2 0 p403 q403
            cases e403
            have qi403 : (0 < t400.length) = True := eq_true (by omega)
            (try rw [show ((0 : Int)).toNat = 0 from rfl] at hx403_0)
            (try rw [Addr.add_zero'] at hx403_0)
            replace p403 := eq_true p403
            replace q403 := eq_true q403
            try go_wp2_with (first | ((with_reducible refine gate_builtin (b := .append) (xs := #[.tmp 32, .tmp 36]) rfl ?_); at_builtin; refine Kd.R_append (Kd.int .u8) (w0 := w) w.heap.size rfl (.tmp 32) (.tmp 36) 28 5 (.int .u8 0) 1 rfl Tryd.underlying28 info5 rfl (by decide) (by omega) (.slice none 0 0) ([] : List Int) (rd t400 0) [.int .u8 (rd t400 0)] (fun k_ => some k_ ≠ (.slice (some ad403) t400.length co7 : Value).ownBlock) (fun _ => False) rfl rfl ?aP (fun _ hk => hk.elim) ?aF ?aO ?aB ?aS ?aL ?_; (case aP => exact rfl); (case aB => exact (hkS HB)); (case aF => exact (fun k_ hk => Kd.fresh' (Kd.R_lt (hkR HO_3)) k_ hk)); (case aO => exact (hkR HO_5)); (case aS => exact (below_size (hkS HB))); (case aL => have := LMc12.out; omega); intro v405 w21 ho hb hg hat; rw [← Ny404.out] at ho; have n_ := hkA (Aside0.mk (Kd.R_after (ok := (fun _ => True)) (by (with_reducible repeat (first | apply Kd.R_alloc | apply Kd.R_drewN | apply Kd.R_drew)); exact Kd.R_mono HO_3.out (fun _ hk => ⟨trivial, hk⟩)) hg hat)) (hkA (Aside0.mk (blk_grown (g := gb399) (o := .cells #[.bool a0_0, .slice A0_1 l0_1.length c0_1, .int .i64 a0_2] 32 (0, 0)) (hkB BK399) hg (Kd.R_ne HO_5.out BK399.out (by decide)))) (hkA (Aside0.mk (hb)) (Aside0.mk (ho)))); clear HO_3 BK399 HB HO_5; obtain ⟨HO_3, BK399, HB, HO406⟩ := n_; clear ho hb hg hat))
            have n_ := hkA (Aside0.mk (Kd.R_drew HO_3.out)) (hkA (Aside0.mk (Kd.R_drew HO406.out)) (hkA (Aside0.mk (blk_drew BK399.out)) (Aside0.mk (below_drew1 HB.out))))
            clear HO_3 HO406 BK399 HB
            obtain ⟨HO_3, HO406, BK399, HB⟩ := n_
            have q23 : (1 : Int) ≤ ((t400.length : Int) : Int) := of_decide_eq_true (by first | (with_reducible assumption) | assumption)
            obtain ⟨i023, hi023, _, hsz23, _⟩ := info_parts info5
            have hroom23 : t400.length ≤ co7 := (Kd.R_reads' HO_3.out).2.1
            have hC23 : Kd.C (Kd.int .u8) _ (some ad403) t400.length t400 := (Kd.R_reads' HO_3.out).2.2
            have hcut23 := cut_from (P := Tryd.prog) 28 5 .i64 Tryd.underlying28 hi023 1 hsz23 (some ad403) t400.length co7 1 (by omega) q23
            have hr23 := Kd.C_drop (m := (1 : Int).toNat) (c := co7) hC23 (by omega) hroom23
            obtain ⟨A23, hA23⟩ : ∃ A1, A1 = (if co7 = (1 : Int).toNat then (some ad403) else ((some ad403) : Option Addr).map (·.add ((1 : Int).toNat * 1))) := ⟨_, rfl⟩
            obtain ⟨c23, hc23⟩ : ∃ c1, c1 = co7 - (1 : Int).toNat := ⟨_, rfl⟩
            have hy23 : y410.length = t400.length - (1 : Int).toNat := (by rw [Ny410.out, List.length_drop] <;> omega)
            rw [show (t400).drop (1 : Int).toNat = y410 from Ny410.out.symm] at hr23
            replace hr23 : Kd.C (Kd.int .u8) _ A23 y410.length y410 := (by rw [hA23]; exact hr23)
            rw [← hy23, ← hA23, ← hc23] at hcut23
            have HR413 := Aside0.mk hr23
            have HC413 := Aside0.mk (show y410.length ≤ c23 from by rw [hy23, hc23]; exact Nat.sub_le_sub_right hroom23 _)
            clear hr23 hC23 hroom23 hi023 hsz23 hc23
            have KY23 := Aside0.mk hy23
            have KA23 := Aside0.mk hA23
            clear hy23 hA23
            have KL23 := Aside0.mk (show 1 ≤ t400.length from by omega)
            replace q23 := eq_true q23
            refine start_ (n := 7) (S := fun w' => True) (ds := []) #[false, false, false, false, false, false, false] (by kernel_rfl) rfl rfl trivial (fun hHeld => ?_)
            generalize w21.drew = w22 at HO_3 HO406 BK399 HB HR413 hHeld ⊢
            refine hkPu (i := 0) (N := some 41) ?_
            refine hkPu (i := 3) (N := some 44) ?_
            refine hkPu (i := 4) (N := some 45) ?_
            refine one_ (i := 1) (N := some 42) #[true, true, false, true, true, false, false] rfl rfl (by kernel_rfl) (by decide) (fun K hK => ?_)
            refine value_ (w1 := ?_) (v := ?_) (by rfl) rfl ?_ ?_
            rotate_left 2
            ·go_simp
             constructor
             ·rfl
             ·rfl
            refine hK.out _ _ trivial (fun hHeld => ?_)
            clear hK K
            refine hkNo (N := some 42) ?_
            refine one_ (i := 2) (N := some 43) #[true, true, true, true, true, false, false] rfl rfl (by kernel_rfl) (by decide) (fun K hK => ?_)
            refine Kd.R_append_step (Kd.int .u8) (w0 := w) w.heap.size (by rfl) (.tmp 41) (.tmp 42) 28 5 (.int .u8 0) 1 rfl Tryd.underlying28 info5 rfl (by decide) (by omega) v405 y404 46 [.int .u8 46] (fun k_ => some k_ ≠ (.slice (some ad403) t400.length co7 : Value).ownBlock) (fun _ => False) rfl rfl ?aP (fun _ hk => hk.elim) ?aF ?aO ?aB ?aS ?aL ?_
            (case aP => exact rfl)
            (case aB => exact (hkS HB))
            (case aF => exact (fun k_ hk => Kd.fresh' (Kd.R_lt (hkR HO_3)) k_ hk))
            (case aO => exact (hkR HO406))
            (case aS => exact (below_size (hkS HB)))
            (case aL => have := LMc14.out; omega)
            intro v408 w24 ho hb hg hat
            rw [← Ny407.out] at ho
            have n_ := hkA (Aside0.mk (Kd.R_after (ok := (fun _ => True)) (hkR HO_3) hg hat)) (hkA (Aside0.mk (blk_grown (g := gb399) (o := .cells #[.bool a0_0, .slice A0_1 l0_1.length c0_1, .int .i64 a0_2] 32 (0, 0)) (hkB BK399) hg (Kd.R_ne HO406.out BK399.out (by decide)))) (hkA (Aside0.mk (hb)) (hkA (Aside0.mk ((show Kd.C (Kd.int .u8) w24 A23 y410.length y410 from by rw [Ny410.out, KA23.out]; exact Kd.C_drop (m := 1) (c := co7) ((Kd.R_reads' (Kd.R_after (ok := (fun _ => True)) (hkR HO_3) hg hat)).2.2) KL23.out ((Kd.R_reads' (Kd.R_after (ok := (fun _ => True)) (hkR HO_3) hg hat)).2.1)))) (Aside0.mk (ho)))))
            clear HO_3 BK399 HB HR413 HO406
            obtain ⟨HO_3, BK399, HB, HR413, HO409⟩ := n_
            clear ho hb hg hat
            refine hK.out _ _ trivial (fun hHeld => ?_)
            clear hK K
            refine hkNo (N := some 43) ?_
            refine one_ (i := 5) (N := some 46) #[true, true, true, true, true, true, false] rfl rfl (by kernel_rfl) (by decide) (fun K hK => ?_)
            refine Kd.R_append_rows_step (Kd.int .u8) (w0 := w) w.heap.size (by rfl) (.tmp 43) (.tmp 45) 28 5 (.int .u8 0) 1 rfl Tryd.underlying28 info5 rfl (by decide) (by omega) v408 y407 y410 _ _ _ (fun k_ => some k_ ≠ (.slice (some ad403) t400.length co7 : Value).ownBlock) (fun _ => False) rfl rfl ?aO ?aR (fun _ _ h => h) (fun _ h => h.elim) ?aF ?aB ?aS ?aL ?_
            (case aR => repeat (first | exact (by repeat (first | (with_reducible exact HR413.out) | (with_reducible refine Kd.C_alloc ?_ _) | (with_reducible refine Kd.C_drewN ?_ _) | (with_reducible refine Kd.C_drew ?_) | exact HR413.out)) | (with_reducible refine Kd.C_alloc ?_ _) | (with_reducible refine Kd.C_drewN ?_ _) | (with_reducible refine Kd.C_drew ?_)))
            (case aB => exact (hkS HB))
            (case aF => exact (fun k_ hk => Kd.fresh' (Kd.R_lt (hkR HO_3)) k_ hk))
            (case aO => exact (hkR HO409))
            (case aS => exact (below_size (hkS HB)))
            (case aL => have := LMc16.out; omega)
            intro v415 w25 ho hb hg hat
            rw [← Ny414.out] at ho
            have n_ := hkA (Aside0.mk (Kd.R_after (ok := (fun _ => True)) (hkR HO_3) hg hat)) (hkA (Aside0.mk (blk_grown (g := gb399) (o := .cells #[.bool a0_0, .slice A0_1 l0_1.length c0_1, .int .i64 a0_2] 32 (0, 0)) (hkB BK399) hg (Kd.R_ne HO409.out BK399.out (by decide)))) (hkA (Aside0.mk (hb)) (hkA (Aside0.mk ((show Kd.C (Kd.int .u8) w25 A23 y410.length y410 from by rw [Ny410.out, KA23.out]; exact Kd.C_drop (m := 1) (c := co7) ((Kd.R_reads' (Kd.R_after (ok := (fun _ => True)) (hkR HO_3) hg hat)).2.2) KL23.out ((Kd.R_reads' (Kd.R_after (ok := (fun _ => True)) (hkR HO_3) hg hat)).2.1)))) (Aside0.mk (ho)))))
            clear HO_3 BK399 HB HR413 HO409
            obtain ⟨HO_3, BK399, HB, HR413, HO416⟩ := n_
            clear ho hb hg hat
            refine hK.out _ _ trivial (fun hHeld => ?_)
            clear hK K
            refine hkNo (N := some 46) ?_
            refine hkPu (i := 6) (N := some 5) ?_
            refine done_ (by kernel_rfl) ?_
            try go_wp2_with (first | ((with_reducible refine gate_builtin (b := .append) (xs := #[.tmp 47, .tmp 48]) rfl ?_); at_builtin; refine Kd.R_append (Kd.int .u8) (w0 := w) w.heap.size rfl (.tmp 47) (.tmp 48) 28 5 (.int .u8 0) 1 rfl Tryd.underlying28 info5 rfl (by decide) (by omega) v415 y414 101 [.int .u8 101] (fun k_ => some k_ ≠ (.slice (some ad403) t400.length co7 : Value).ownBlock) (fun _ => False) rfl rfl ?aP (fun _ hk => hk.elim) ?aF ?aO ?aB ?aS ?aL ?_; (case aP => exact rfl); (case aB => exact (hkS HB)); (case aF => exact (fun k_ hk => Kd.fresh' (Kd.R_lt (hkR HO_3)) k_ hk)); (case aO => exact (hkR HO416)); (case aS => exact (below_size (hkS HB))); (case aL => have := LMc17.out; omega); intro v418 w26 ho hb hg hat; rw [← Ny417.out] at ho; have n_ := hkA (Aside0.mk (Kd.R_after (ok := (fun _ => True)) (hkR HO_3) hg hat)) (hkA (Aside0.mk (blk_grown (g := gb399) (o := .cells #[.bool a0_0, .slice A0_1 l0_1.length c0_1, .int .i64 a0_2] 32 (0, 0)) (hkB BK399) hg (Kd.R_ne HO416.out BK399.out (by decide)))) (hkA (Aside0.mk (hb)) (hkA (Aside0.mk ((show Kd.C (Kd.int .u8) w26 A23 y410.length y410 from by rw [Ny410.out, KA23.out]; exact Kd.C_drop (m := 1) (c := co7) ((Kd.R_reads' (Kd.R_after (ok := (fun _ => True)) (hkR HO_3) hg hat)).2.2) KL23.out ((Kd.R_reads' (Kd.R_after (ok := (fun _ => True)) (hkR HO_3) hg hat)).2.1)))) (Aside0.mk (ho))))); clear HO_3 BK399 HB HR413 HO416; obtain ⟨HO_3, BK399, HB, HR413, HO419⟩ := n_; clear ho hb hg hat) | ((with_reducible refine gate_callee (f := 32) rfl ?_); refine hkGo (N := some 52) Tryd.func32 #[.int .i64 (wrap64 ((wrap64 ((t400.length : Int) + a0_2)) - 1))] ?_; (with_reducible refine (strconv_Itoa_32.calls (wrap64 ((wrap64 ((t400.length : Int) + a0_2)) - 1)) t420 _ A18.out).mono ?_); rintro e w27 ⟨rfl, hb⟩; refine ⟨_, rfl, ?_⟩; have n_ := hkA (hkRb HO_3 hb) (hkA (hkRb HO419 hb) (hkA (hkBb BK399 hb) (hkA (Aside0.mk (Kd.C_below (by repeat (first | (with_reducible exact HR413.out) | (with_reducible refine Kd.C_alloc ?_ _) | (with_reducible refine Kd.C_drewN ?_ _) | (with_reducible refine Kd.C_drew ?_) | exact HR413.out)) hb)) (hkU HB hb)))); clear HO_3 HO419 BK399 HR413 HB; obtain ⟨HO_3, HO419, BK399, HR413, HB⟩ := n_; (try clear hb); (try clear hk)) | (at_builtin; refine Kd.R_append_str (ok := (fun k_ => some k_ ≠ (.slice (some ad403) t400.length co7 : Value).ownBlock)) (w0 := w) w.heap.size rfl (.tmp 49) _ 28 9 5 rfl Tryd.underlying28 Tryd.underlying9 info5 v418 y417 t420 rfl rfl ?aO ?aF ?aB ?aS ?aL ?_; (case aB => exact (hkS HB)); (case aF => exact (fun k_ hk => Kd.fresh' (Kd.R_lt (hkR HO_3)) k_ hk)); (case aO => exact (hkR HO419)); (case aS => exact (below_size (hkS HB))); (case aL => have := LMc19.out; omega); intro v422 w28 ho hb hg hat; rw [← Ny421.out] at ho; change Kd.R (Kd.int .u8) 5 w28 w.heap.size (fun k_ => some k_ ≠ (.slice (some ad403) t400.length co7 : Value).ownBlock) v422 y421 at ho; have n_ := hkA (Aside0.mk (Kd.R_after (ok := (fun _ => True)) (hkR HO_3) hg hat)) (hkA (Aside0.mk (blk_grown (g := gb399) (o := .cells #[.bool a0_0, .slice A0_1 l0_1.length c0_1, .int .i64 a0_2] 32 (0, 0)) (hkB BK399) hg (Kd.R_ne HO419.out BK399.out (by decide)))) (hkA (Aside0.mk (hb)) (hkA (Aside0.mk ((show Kd.C (Kd.int .u8) w28 A23 y410.length y410 from by rw [Ny410.out, KA23.out]; exact Kd.C_drop (m := 1) (c := co7) ((Kd.R_reads' (Kd.R_after (ok := (fun _ => True)) (hkR HO_3) hg hat)).2.2) KL23.out ((Kd.R_reads' (Kd.R_after (ok := (fun _ => True)) (hkR HO_3) hg hat)).2.1)))) (Aside0.mk (ho))))); clear HO_3 BK399 HB HR413 HO419; obtain ⟨HO_3, BK399, HB, HR413, HO423⟩ := n_; clear ho hb hg hat; obtain ⟨hcz29_0, hfz29_0, hcz29_1, hfz29_1, hcz29_2, hfz29_2⟩ := hkc3 BK399; obtain ⟨Ao30, co30, eo30⟩ := Kd.R_slice HO423.out; subst eo30) | ((with_reducible refine gate_callee (f := 35) rfl ?_); refine hkGo (N := some 81) Tryd.func35 #[.bool a0_0, .slice Ao30 y421.length co30] ?_; (with_reducible refine (impl_signedText.calls a0_0 (fun k_ => some k_ = (.slice Ao30 y421.length co30 : Value).ownBlock) (.slice Ao30 y421.length co30) y421 t424 w _ ?side1 ?side2 A20.out).mono ?_); (case side1 => exact hkS HB); (case side2 => exact Kd.R_tight rfl HO423.out); rintro e w31 ⟨v425, rfl, ho0, hb, hkp⟩; refine ⟨_, rfl, ?_⟩; have n_ := hkA (Aside0.mk (Kd.R_mono (ok' := fun k_ => some k_ ≠ (v425 : Value).ownBlock) (Kd.R_keptB (HO_3.out) hkp (fun k_ hk_ hs_ => by first | exact (hk_.2) hs_ | exact hkP hk_ hs_)) (fun k_ hk_ => fun e_ => Or.elim (ho0.1 k_ e_.symm) (fun hs_ => hk_.2.1 hs_) (fun hn_ => Nat.not_le.2 hk_.2.2 hn_)))) (hkA (Aside0.mk (blk_kept (hkB BK399) hkp (fun hs_ => (fun e_ => (Kd.R_ne HO423.out BK399.out (by decide)) e_) hs_))) (hkA (Aside0.mk (Kd.R_mono (ok' := fun k_ => some k_ ≠ (.slice (some ad403) t400.length co7 : Value).ownBlock) ho0 (fun k_ hk_ => Or.elim hk_ (fun hs_ => fun e_ => (((HO_3.out).1 k_ e_.symm).2) hs_) (fun hn_ => (Kd.fresh' (Kd.R_lt (hkR HO_3)) k_ hn_))))) (Aside0.mk (hb)))); clear HO_3 BK399 HB HO423; obtain ⟨HO_3, BK399, HO426, HB⟩ := n_; (try clear hb); (try clear hkp); (try clear ho0)))
            go_ret
            exact ⟨_, hkE, by (with_reducible repeat (first | apply Kd.R_alloc | apply Kd.R_drewN | apply Kd.R_drew)); exact Kd.R_mono HO426.out (fun _ hk => trivial), hkS HB⟩
           ·rw [if_neg c19] at H
            exact absurd H (by simp)
          ·rw [if_neg c17] at H
           exact absurd H (by simp)
         ·rw [if_neg c16] at H
          exact absurd H (by simp)
        ·rw [if_neg c15] at H
         exact absurd H (by simp)
       ·rw [if_neg c14] at H
        exact absurd H (by simp)
      ·rw [if_neg c13] at H
       have c13b0 : decide (1 < (t400.length : Int)) = false := decide_eq_false c13
       have c13b1 : decide (1 < t400.length) = false := decide_eq_false (by omega)
       clear c13
       by_cases c32 : y404.length < 140737488355328
       ·rw [if_pos c32] at H
        have LMc32 := Aside0.mk c32
        clear c32
        obtain ⟨y427, hy427⟩ : ∃ y_ : List Int, y_ = (y404 ++ [101]) := ⟨_, rfl⟩
        replace H : ((strconv_Itoa_32.f (wrap64 ((wrap64 ((t400.length : Int) + a0_2)) - 1))).bind fun t430 => (if y427.length + t430.size < 140737488355328 then ((impl_signedText.f a0_0 (y427 ++ bytesOf t430)).bind fun t434 => (some t434)) else (none))) = some r := by first | (rw [hy427]; with_reducible exact H) | (have H2_ := (Option.bind_some _ _).symm.trans H; rw [hy427]; with_reducible exact H2_) | (have H2_ := (Option.bind_some _ _).symm.trans H; with_reducible exact H2_) | with_reducible exact H | (rw [hy427]; exact H) | exact H
        have Ny427 := Aside0.mk hy427
        clear hy427
        replace H := hBi H
        obtain ⟨t430, A330, H⟩ := H
        replace H : (if y427.length + t430.size < 140737488355328 then ((impl_signedText.f a0_0 (y427 ++ bytesOf t430)).bind fun t434 => (some t434)) else (none)) = some r := H
        have A33 := Aside0.mk A330
        clear A330
        by_cases c34 : y427.length + t430.size < 140737488355328
        ·rw [if_pos c34] at H
         have LMc34 := Aside0.mk c34
         clear c34
         obtain ⟨y431, hy431⟩ : ∃ y_ : List Int, y_ = (y427 ++ bytesOf t430) := ⟨_, rfl⟩
         replace H : ((impl_signedText.f a0_0 y431).bind fun t434 => (some t434)) = some r := by first | (rw [hy431]; with_reducible exact H) | (have H2_ := (Option.bind_some _ _).symm.trans H; rw [hy431]; with_reducible exact H2_) | (have H2_ := (Option.bind_some _ _).symm.trans H; with_reducible exact H2_) | with_reducible exact H | (rw [hy431]; exact H) | exact H
         have Ny431 := Aside0.mk hy431
         clear hy431
         replace H := hBi H
         obtain ⟨t434, A350, H⟩ := H
         replace H : (some t434) = some r := H
         have A35 := Aside0.mk A350
         clear A350
         obtain rfl := Option.some.inj H
         have p403 : 0 ≤ (0 : Int) := (by omega)
         have q403 : 0 < (t400.length : Int) := of_decide_eq_true (by first | (with_reducible assumption) | assumption)
         obtain ⟨ad403, e403, hx403_0⟩ := Kd.at_int (Kd.R_reads' HO_3.out).2.2 0 p403 q403
         cases e403
         have qi403 : (0 < t400.length) = True := eq_true (by omega)
         (try rw [show ((0 : Int)).toNat = 0 from rfl] at hx403_0)
         (try rw [Addr.add_zero'] at hx403_0)
         replace p403 := eq_true p403
         replace q403 := eq_true q403
         go_wp2_with (first | ((with_reducible refine gate_builtin (b := .append) (xs := #[.tmp 32, .tmp 36]) rfl ?_); at_builtin; refine Kd.R_append (Kd.int .u8) (w0 := w) w.heap.size rfl (.tmp 32) (.tmp 36) 28 5 (.int .u8 0) 1 rfl Tryd.underlying28 info5 rfl (by decide) (by omega) (.slice none 0 0) ([] : List Int) (rd t400 0) [.int .u8 (rd t400 0)] (fun k_ => some k_ ≠ (.slice (some ad403) t400.length co7 : Value).ownBlock) (fun _ => False) rfl rfl ?aP (fun _ hk => hk.elim) ?aF ?aO ?aB ?aS ?aL ?_; (case aP => exact rfl); (case aB => exact (hkS HB)); (case aF => exact (fun k_ hk => Kd.fresh' (Kd.R_lt (hkR HO_3)) k_ hk)); (case aO => exact (hkR HO_5)); (case aS => exact (below_size (hkS HB))); (case aL => have := LMc12.out; omega); intro v405 w36 ho hb hg hat; rw [← Ny404.out] at ho; have n_ := hkA (Aside0.mk (Kd.R_after (ok := (fun _ => True)) (by (with_reducible repeat (first | apply Kd.R_alloc | apply Kd.R_drewN | apply Kd.R_drew)); exact Kd.R_mono HO_3.out (fun _ hk => ⟨trivial, hk⟩)) hg hat)) (hkA (Aside0.mk (blk_grown (g := gb399) (o := .cells #[.bool a0_0, .slice A0_1 l0_1.length c0_1, .int .i64 a0_2] 32 (0, 0)) (hkB BK399) hg (Kd.R_ne HO_5.out BK399.out (by decide)))) (hkA (Aside0.mk (hb)) (Aside0.mk (ho)))); clear HO_3 BK399 HB HO_5; obtain ⟨HO_3, BK399, HB, HO406⟩ := n_; clear ho hb hg hat) | ((with_reducible refine gate_builtin (b := .append) (xs := #[.tmp 47, .tmp 48]) rfl ?_); at_builtin; refine Kd.R_append (Kd.int .u8) (w0 := w) w.heap.size rfl (.tmp 47) (.tmp 48) 28 5 (.int .u8 0) 1 rfl Tryd.underlying28 info5 rfl (by decide) (by omega) v405 y404 101 [.int .u8 101] (fun k_ => some k_ ≠ (.slice (some ad403) t400.length co7 : Value).ownBlock) (fun _ => False) rfl rfl ?aP (fun _ hk => hk.elim) ?aF ?aO ?aB ?aS ?aL ?_; (case aP => exact rfl); (case aB => exact (hkS HB)); (case aF => exact (fun k_ hk => Kd.fresh' (Kd.R_lt (hkR HO_3)) k_ hk)); (case aO => exact (hkR HO406)); (case aS => exact (below_size (hkS HB))); (case aL => have := LMc32.out; omega); intro v428 w37 ho hb hg hat; rw [← Ny427.out] at ho; have n_ := hkA (Aside0.mk (Kd.R_after (ok := (fun _ => True)) (hkR HO_3) hg hat)) (hkA (Aside0.mk (blk_grown (g := gb399) (o := .cells #[.bool a0_0, .slice A0_1 l0_1.length c0_1, .int .i64 a0_2] 32 (0, 0)) (hkB BK399) hg (Kd.R_ne HO406.out BK399.out (by decide)))) (hkA (Aside0.mk (hb)) (Aside0.mk (ho)))); clear HO_3 BK399 HB HO406; obtain ⟨HO_3, BK399, HB, HO429⟩ := n_; clear ho hb hg hat) | ((with_reducible refine gate_callee (f := 32) rfl ?_); refine hkGo (N := some 52) Tryd.func32 #[.int .i64 (wrap64 ((wrap64 ((t400.length : Int) + a0_2)) - 1))] ?_; (with_reducible refine (strconv_Itoa_32.calls (wrap64 ((wrap64 ((t400.length : Int) + a0_2)) - 1)) t430 _ A33.out).mono ?_); rintro e w38 ⟨rfl, hb⟩; refine ⟨_, rfl, ?_⟩; have n_ := hkA (hkRb HO_3 hb) (hkA (hkRb HO429 hb) (hkA (hkBb BK399 hb) (hkU HB hb))); clear HO_3 HO429 BK399 HB; obtain ⟨HO_3, HO429, BK399, HB⟩ := n_; (try clear hb); (try clear hk)) | (at_builtin; refine Kd.R_append_str (ok := (fun k_ => some k_ ≠ (.slice (some ad403) t400.length co7 : Value).ownBlock)) (w0 := w) w.heap.size rfl (.tmp 49) _ 28 9 5 rfl Tryd.underlying28 Tryd.underlying9 info5 v428 y427 t430 rfl rfl ?aO ?aF ?aB ?aS ?aL ?_; (case aB => exact (hkS HB)); (case aF => exact (fun k_ hk => Kd.fresh' (Kd.R_lt (hkR HO_3)) k_ hk)); (case aO => exact (hkR HO429)); (case aS => exact (below_size (hkS HB))); (case aL => have := LMc34.out; omega); intro v432 w39 ho hb hg hat; rw [← Ny431.out] at ho; change Kd.R (Kd.int .u8) 5 w39 w.heap.size (fun k_ => some k_ ≠ (.slice (some ad403) t400.length co7 : Value).ownBlock) v432 y431 at ho; have n_ := hkA (Aside0.mk (Kd.R_after (ok := (fun _ => True)) (hkR HO_3) hg hat)) (hkA (Aside0.mk (blk_grown (g := gb399) (o := .cells #[.bool a0_0, .slice A0_1 l0_1.length c0_1, .int .i64 a0_2] 32 (0, 0)) (hkB BK399) hg (Kd.R_ne HO429.out BK399.out (by decide)))) (hkA (Aside0.mk (hb)) (Aside0.mk (ho)))); clear HO_3 BK399 HB HO429; obtain ⟨HO_3, BK399, HB, HO433⟩ := n_; clear ho hb hg hat; obtain ⟨hcz40_0, hfz40_0, hcz40_1, hfz40_1, hcz40_2, hfz40_2⟩ := hkc3 BK399; obtain ⟨Ao41, co41, eo41⟩ := Kd.R_slice HO433.out; subst eo41) | ((with_reducible refine gate_callee (f := 35) rfl ?_); refine hkGo (N := some 81) Tryd.func35 #[.bool a0_0, .slice Ao41 y431.length co41] ?_; (with_reducible refine (impl_signedText.calls a0_0 (fun k_ => some k_ = (.slice Ao41 y431.length co41 : Value).ownBlock) (.slice Ao41 y431.length co41) y431 t434 w _ ?side1 ?side2 A35.out).mono ?_); (case side1 => exact hkS HB); (case side2 => exact Kd.R_tight rfl HO433.out); rintro e w42 ⟨v435, rfl, ho0, hb, hkp⟩; refine ⟨_, rfl, ?_⟩; have n_ := hkA (Aside0.mk (Kd.R_mono (ok' := fun k_ => some k_ ≠ (v435 : Value).ownBlock) (Kd.R_keptB (HO_3.out) hkp (fun k_ hk_ hs_ => by first | exact (hk_.2) hs_ | exact hkP hk_ hs_)) (fun k_ hk_ => fun e_ => Or.elim (ho0.1 k_ e_.symm) (fun hs_ => hk_.2.1 hs_) (fun hn_ => Nat.not_le.2 hk_.2.2 hn_)))) (hkA (Aside0.mk (blk_kept (hkB BK399) hkp (fun hs_ => (fun e_ => (Kd.R_ne HO433.out BK399.out (by decide)) e_) hs_))) (hkA (Aside0.mk (Kd.R_mono (ok' := fun k_ => some k_ ≠ (.slice (some ad403) t400.length co7 : Value).ownBlock) ho0 (fun k_ hk_ => Or.elim hk_ (fun hs_ => fun e_ => (((HO_3.out).1 k_ e_.symm).2) hs_) (fun hn_ => (Kd.fresh' (Kd.R_lt (hkR HO_3)) k_ hn_))))) (Aside0.mk (hb)))); clear HO_3 BK399 HB HO433; obtain ⟨HO_3, BK399, HO436, HB⟩ := n_; (try clear hb); (try clear hkp); (try clear ho0)))
         go_ret
         exact ⟨_, hkE, by (with_reducible repeat (first | apply Kd.R_alloc | apply Kd.R_drewN | apply Kd.R_drew)); exact Kd.R_mono HO436.out (fun _ hk => trivial), hkS HB⟩
        ·rw [if_neg c34] at H
         exact absurd H (by simp)
       ·rw [if_neg c32] at H
        exact absurd H (by simp)
     ·rw [if_neg c12] at H
      exact absurd H (by simp)
    ·rw [if_neg c11] at H
     exact absurd H (by simp)
   ·replace c10 := Bool.eq_false_iff.mpr c10
    subst c10
    have H1 : (if a0_2 ≥ 0 then ((slices_Repeat_byte_byte.f (([48] : List Int)) a0_2).bind fun t440 => (if t400.length + t440.length < 140737488355328 then ((impl_signedText.f a0_0 (t400 ++ t440)).bind fun t446 => (some t446)) else (none))) else (if (wrap64 ((t400.length : Int) + a0_2)) > 0 then (if 0 ≤ (wrap64 ((t400.length : Int) + a0_2)) then (if (wrap64 ((t400.length : Int) + a0_2)) ≤ (t400.length : Int) then ((slices_Concat_byte_byte.f (t400.take ((wrap64 ((t400.length : Int) + a0_2)) : Int).toNat) (([46] : List Int)) (t400.drop ((wrap64 ((t400.length : Int) + a0_2)) : Int).toNat)).bind fun t461 => ((impl_signedText.f a0_0 t461).bind fun t464 => (some t464))) else (none)) else (none)) else ((slices_Repeat_byte_byte.f (([48] : List Int)) (wrap64 (-(wrap64 ((t400.length : Int) + a0_2))))).bind fun t473 => ((slices_Concat_byte_byte.f (([48, 46] : List Int)) t473 t400).bind fun t477 => ((impl_signedText.f a0_0 t477).bind fun t480 => (some t480)))))) = some r := by rw [if_neg (show ¬ (false = true) by decide)] at H; exact H
    clear H
    have H := H1
    clear H1
    by_cases c43 : a0_2 ≥ 0
    ·rw [if_pos c43] at H
     have c43b0 : decide (0 ≤ a0_2) = true := decide_eq_true c43
     clear c43
     obtain ⟨y437, hy437⟩ : ∃ y_ : List Int, y_ = (([48] : List Int)) := ⟨_, rfl⟩
     replace H : ((slices_Repeat_byte_byte.f y437 a0_2).bind fun t440 => (if t400.length + t440.length < 140737488355328 then ((impl_signedText.f a0_0 (t400 ++ t440)).bind fun t446 => (some t446)) else (none))) = some r := by first | (rw [hy437]; with_reducible exact H) | (have H2_ := (Option.bind_some _ _).symm.trans H; rw [hy437]; with_reducible exact H2_) | (have H2_ := (Option.bind_some _ _).symm.trans H; with_reducible exact H2_) | with_reducible exact H | (rw [hy437]; exact H) | exact H
     have Ny437 := Aside0.mk hy437
     clear hy437
     replace H := hBi H
     obtain ⟨t440, A440, H⟩ := H
     replace H : (if t400.length + t440.length < 140737488355328 then ((impl_signedText.f a0_0 (t400 ++ t440)).bind fun t446 => (some t446)) else (none)) = some r := H
     have A44 := Aside0.mk A440
     clear A440
     by_cases c45 : t400.length + t440.length < 140737488355328
     ·rw [if_pos c45] at H
      have LMc45 := Aside0.mk c45
      clear c45
      obtain ⟨y443, hy443⟩ : ∃ y_ : List Int, y_ = (t400 ++ t440) := ⟨_, rfl⟩
      replace H : ((impl_signedText.f a0_0 y443).bind fun t446 => (some t446)) = some r := by first | (rw [hy443]; with_reducible exact H) | (have H2_ := (Option.bind_some _ _).symm.trans H; rw [hy443]; with_reducible exact H2_) | (have H2_ := (Option.bind_some _ _).symm.trans H; with_reducible exact H2_) | with_reducible exact H | (rw [hy443]; exact H) | exact H
      have Ny443 := Aside0.mk hy443
      clear hy443
      replace H := hBi H
      obtain ⟨t446, A460, H⟩ := H
      replace H : (some t446) = some r := H
      have A46 := Aside0.mk A460
      clear A460
      obtain rfl := Option.some.inj H
      obtain ⟨hcz47_0, hfz47_0, hcz47_1, hfz47_1, hcz47_2, hfz47_2⟩ := hkc3 BK399
      go_wp2_with (first | ((with_reducible refine gate_dst (N := 59) rfl ?_); (first | (refine Kd.R_litmark (Kd.int .u8) _ 5 ?hg (N := 59) ?hd ?hg2 ?t2 ?ho2 ?ht2 ?he2 rfl (xs := ([48] : List Int)) (inner := [.int .u8 48]) (ok := fun _ => True) (okp := fun _ => True) ?hev ?hr ?hp (fun _ hk => hk) trivial (Below.refl _ _) (Nat.le_refl _) (by simp) ?_; (case hd => rfl); (case hg => rfl); (case hg2 => rfl); (case ho2 => rfl); (case ht2 => kernel_rfl); (case he2 => kernel_rfl); (case hev => first | rfl | (go_simp; done) | (go_simp; rfl)); (case hr => first | (go_simp; done) | (go_simp; rfl))) | (refine Kd.R_lit (Kd.int .u8) _ 5 ?hg (N := 59) ?hd (xs := ([48] : List Int)) (inner := [.int .u8 48]) (ok := fun _ => True) (okp := fun _ => True) ?hr ?hp (fun _ hk => hk) trivial (Below.refl _ _) (Nat.le_refl _) (by simp) ?_; (case hd => rfl); (case hg => rfl); (case hr => first | (go_simp; done) | (go_simp; rfl)))); (case hp => exact (Reps.one (show Kd.M (Kd.int .u8) _ _ _ 48 [.int .u8 48] from rfl) (Reps.none _ _))); intro v438 w48 ho49 hb hg_ hnew_; clear hg_ hnew_; (first | rw [← Ny437.out] at ho49 | (simp only [Int.reduceToNat] at ho49; rw [← Ny437.out] at ho49) | (simp only [Int.toNat_zero, List.replicate_zero] at ho49; rw [← Ny437.out] at ho49)); have n_ := hkA (Aside0.mk (Kd.R_elder' (hkR HO_3) (Kd.R_base ho49) hb)) (hkA (Aside0.mk (Kd.R_elder' (hkR HO_5) (Kd.R_base ho49) hb)) (hkA (Aside0.mk (Kd.R_lower (Kd.R_new' (Kd.R_new' ho49 (Kd.R_lt (hkR HO_3))) (Kd.R_lt (hkR HO_5))) (below_size (hkS HB)))) (hkA (hkBb BK399 hb) (hkU HB hb)))); clear HO_3 HO_5 BK399 HB; obtain ⟨HO_3, HO_5, HO439, BK399, HB⟩ := n_; clear hb ho49; obtain ⟨hcz50_0, hfz50_0, hcz50_1, hfz50_1, hcz50_2, hfz50_2⟩ := hkc3 BK399; obtain ⟨Ao51, co51, eo51⟩ := Kd.R_slice HO439.out; subst eo51) | ((with_reducible refine gate_callee (f := 33) rfl ?_); refine hkGo (N := some 63) Tryd.func33 #[.slice Ao51 y437.length co51, .int .i64 a0_2] ?_; (with_reducible refine (slices_Repeat_byte_byte.calls _ _ y437 a0_2 t440 _ ?side1 ?side2 A44.out).mono ?_); (case side1 => exact hkC ((Kd.R_reads' HO439.out).2.2)); (case side2 => exact (Kd.R_reads' HO439.out).2.1); rintro e w52 ⟨v441, rfl, ho0, hb⟩; refine ⟨_, rfl, ?_⟩; have n_ := hkA (Aside0.mk (Kd.R_elder' (hkR HO_3) (Kd.R_base ho0) hb)) (hkA (Aside0.mk (Kd.R_elder' (hkR HO_5) (Kd.R_base ho0) hb)) (hkA (Aside0.mk (Kd.R_elder' (hkR HO439) (Kd.R_base ho0) hb)) (hkA (Aside0.mk (Kd.R_lower (Kd.R_new' (Kd.R_new' (Kd.R_new' ho0 (Kd.R_lt (hkR HO_3))) (Kd.R_lt (hkR HO_5))) (Kd.R_lt (hkR HO439))) (below_size (hkS HB)))) (hkA (hkBb BK399 hb) (hkU HB hb))))); clear HO_3 HO_5 HO439 BK399 HB; obtain ⟨HO_3, HO_5, HO439, HO442, BK399, HB⟩ := n_; (try clear hb); (try clear hk); (try clear ho0); obtain ⟨Ao54, co54, eo54⟩ := Kd.R_slice HO442.out; subst eo54) | ((with_reducible refine gate_builtin (b := .append) (xs := #[.tmp 58, .tmp 63]) rfl ?_); at_builtin; refine Kd.R_append_rows (Kd.int .u8) (w0 := w) w.heap.size rfl (.tmp 58) (.tmp 63) 28 5 (.int .u8 0) 1 rfl Tryd.underlying28 info5 rfl (by decide) (by omega) (.slice Ao7 t400.length co7) t400 t440 _ _ _ (fun k_ => some k_ ≠ (.slice none 0 0 : Value).ownBlock ∧ some k_ ≠ (.slice Ao51 y437.length co51 : Value).ownBlock ∧ some k_ ≠ (.slice Ao54 t440.length co54 : Value).ownBlock) (fun _ => False) rfl rfl ?aO ?aR (fun _ _ h => h) (fun _ h => h.elim) ?aF ?aB ?aS ?aL ?_; (case aR => exact hkC ((Kd.R_reads' HO442.out).2.2)); (case aB => exact (hkS HB)); (case aF => exact (fun k_ hk => ⟨Kd.fresh' (Kd.R_lt (hkR HO_5)) k_ hk, Kd.fresh' (Kd.R_lt (hkR HO439)) k_ hk, Kd.fresh' (Kd.R_lt (hkR HO442)) k_ hk⟩)); (case aO => exact (by (with_reducible repeat (first | apply Kd.R_alloc | apply Kd.R_drewN | apply Kd.R_drew)); exact Kd.R_mono HO_3.out (fun _ hk => ⟨hk.1.1, ⟨hk.1.2, hk.2⟩⟩))); (case aS => exact (below_size (hkS HB))); (case aL => have := LMc45.out; omega); intro v444 w53 ho hb hg hat; rw [← Ny443.out] at ho; have n_ := hkA (Aside0.mk (Kd.R_after (ok := (fun k_ => some k_ ≠ (.slice Ao51 y437.length co51 : Value).ownBlock ∧ some k_ ≠ (.slice Ao54 t440.length co54 : Value).ownBlock)) (by (with_reducible repeat (first | apply Kd.R_alloc | apply Kd.R_drewN | apply Kd.R_drew)); exact Kd.R_mono HO_5.out (fun _ hk => ⟨⟨hk.1.2, hk.2⟩, hk.1.1⟩)) hg hat)) (hkA (Aside0.mk (blk_grown (g := gb399) (o := .cells #[.bool a0_0, .slice A0_1 l0_1.length c0_1, .int .i64 a0_2] 32 (0, 0)) (hkB BK399) hg (Kd.R_ne HO_3.out BK399.out (by decide)))) (hkA (Aside0.mk (Kd.R_after (ok := (fun k_ => some k_ ≠ (.slice none 0 0 : Value).ownBlock ∧ some k_ ≠ (.slice Ao54 t440.length co54 : Value).ownBlock)) (by (with_reducible repeat (first | apply Kd.R_alloc | apply Kd.R_drewN | apply Kd.R_drew)); exact Kd.R_mono HO439.out (fun _ hk => ⟨⟨hk.1.2, hk.2⟩, hk.1.1.2⟩)) hg hat)) (hkA (Aside0.mk (Kd.R_after (ok := (fun k_ => some k_ ≠ (.slice none 0 0 : Value).ownBlock ∧ some k_ ≠ (.slice Ao51 y437.length co51 : Value).ownBlock)) (by (with_reducible repeat (first | apply Kd.R_alloc | apply Kd.R_drewN | apply Kd.R_drew)); exact Kd.R_mono HO442.out (fun _ hk => ⟨⟨hk.1.2, hk.2⟩, hk.1.1.2⟩)) hg hat)) (hkA (Aside0.mk (hb)) (Aside0.mk (ho)))))); clear HO_5 BK399 HO439 HO442 HB HO_3; obtain ⟨HO_5, BK399, HO439, HO442, HB, HO445⟩ := n_; clear ho hb hg hat; obtain ⟨hcz55_0, hfz55_0, hcz55_1, hfz55_1, hcz55_2, hfz55_2⟩ := hkc3 BK399; obtain ⟨Ao56, co56, eo56⟩ := Kd.R_slice HO445.out; subst eo56) | ((with_reducible refine gate_callee (f := 35) rfl ?_); refine hkGo (N := some 81) Tryd.func35 #[.bool a0_0, .slice Ao56 y443.length co56] ?_; (with_reducible refine (impl_signedText.calls a0_0 (fun k_ => some k_ = (.slice Ao56 y443.length co56 : Value).ownBlock) (.slice Ao56 y443.length co56) y443 t446 w _ ?side1 ?side2 A46.out).mono ?_); (case side1 => exact hkS HB); (case side2 => exact Kd.R_tight rfl HO445.out); rintro e w57 ⟨v447, rfl, ho0, hb, hkp⟩; refine ⟨_, rfl, ?_⟩; have n_ := hkA (Aside0.mk (Kd.R_mono (ok' := fun k_ => some k_ ≠ (.slice Ao51 y437.length co51 : Value).ownBlock ∧ some k_ ≠ (.slice Ao54 t440.length co54 : Value).ownBlock ∧ some k_ ≠ (v447 : Value).ownBlock) (Kd.R_keptB (HO_5.out) hkp (fun k_ hk_ hs_ => by first | exact (hk_.2) hs_ | exact hkP hk_ hs_)) (fun k_ hk_ => ⟨hk_.1.1.1, hk_.1.1.2, fun e_ => Or.elim (ho0.1 k_ e_.symm) (fun hs_ => hk_.2.1 hs_) (fun hn_ => Nat.not_le.2 hk_.2.2 hn_)⟩))) (hkA (Aside0.mk (blk_kept (hkB BK399) hkp (fun hs_ => (fun e_ => (Kd.R_ne HO445.out BK399.out (by decide)) e_) hs_))) (hkA (Aside0.mk (Kd.R_mono (ok' := fun k_ => some k_ ≠ (.slice none 0 0 : Value).ownBlock ∧ some k_ ≠ (.slice Ao54 t440.length co54 : Value).ownBlock ∧ some k_ ≠ (v447 : Value).ownBlock) (Kd.R_keptB (HO439.out) hkp (fun k_ hk_ hs_ => by first | exact (hk_.2) hs_ | exact hkP hk_ hs_)) (fun k_ hk_ => ⟨hk_.1.1.1, hk_.1.1.2, fun e_ => Or.elim (ho0.1 k_ e_.symm) (fun hs_ => hk_.2.1 hs_) (fun hn_ => Nat.not_le.2 hk_.2.2 hn_)⟩))) (hkA (Aside0.mk (Kd.R_mono (ok' := fun k_ => some k_ ≠ (.slice none 0 0 : Value).ownBlock ∧ some k_ ≠ (.slice Ao51 y437.length co51 : Value).ownBlock ∧ some k_ ≠ (v447 : Value).ownBlock) (Kd.R_keptB (HO442.out) hkp (fun k_ hk_ hs_ => by first | exact (hk_.2) hs_ | exact hkP hk_ hs_)) (fun k_ hk_ => ⟨hk_.1.1.1, hk_.1.1.2, fun e_ => Or.elim (ho0.1 k_ e_.symm) (fun hs_ => hk_.2.1 hs_) (fun hn_ => Nat.not_le.2 hk_.2.2 hn_)⟩))) (hkA (Aside0.mk (Kd.R_mono (ok' := fun k_ => some k_ ≠ (.slice none 0 0 : Value).ownBlock ∧ some k_ ≠ (.slice Ao51 y437.length co51 : Value).ownBlock ∧ some k_ ≠ (.slice Ao54 t440.length co54 : Value).ownBlock) ho0 (fun k_ hk_ => ⟨Or.elim hk_ (fun hs_ => fun e_ => (((HO_5.out).1 k_ e_.symm).2) hs_) (fun hn_ => (Kd.fresh' (Kd.R_lt (hkR HO_5)) k_ hn_)), Or.elim hk_ (fun hs_ => fun e_ => (((HO439.out).1 k_ e_.symm).2) hs_) (fun hn_ => (Kd.fresh' (Kd.R_lt (hkR HO439)) k_ hn_)), Or.elim hk_ (fun hs_ => fun e_ => (((HO442.out).1 k_ e_.symm).2) hs_) (fun hn_ => (Kd.fresh' (Kd.R_lt (hkR HO442)) k_ hn_))⟩))) (Aside0.mk (hb)))))); clear HO_5 BK399 HO439 HO442 HB HO445; obtain ⟨HO_5, BK399, HO439, HO442, HO448, HB⟩ := n_; (try clear hb); (try clear hkp); (try clear ho0)))
      go_ret
      exact ⟨_, hkE, by (with_reducible repeat (first | apply Kd.R_alloc | apply Kd.R_drewN | apply Kd.R_drew)); exact Kd.R_mono HO448.out (fun _ hk => trivial), hkS HB⟩
     ·rw [if_neg c45] at H
      exact absurd H (by simp)
    ·rw [if_neg c43] at H
     have c43b0 : decide (0 ≤ a0_2) = false := decide_eq_false c43
     clear c43
     by_cases c58 : (wrap64 ((t400.length : Int) + a0_2)) > 0
     ·rw [if_pos c58] at H
      have c58b0 : decide (0 < (wrap64 ((t400.length : Int) + a0_2))) = true := decide_eq_true c58
      clear c58
      obtain ⟨ji59, hji59⟩ : ∃ j_ : Int, (wrap64 ((t400.length : Int) + a0_2)) = j_ := ⟨_, rfl⟩
      replace H : (if 0 ≤ (ji59) then (if (ji59) ≤ (t400.length : Int) then ((slices_Concat_byte_byte.f (t400.take ((ji59) : Int).toNat) (([46] : List Int)) (t400.drop ((ji59) : Int).toNat)).bind fun t461 => ((impl_signedText.f a0_0 t461).bind fun t464 => (some t464))) else (none)) else (none)) = some r := by first | (rw [hji59] at H; exact H) | (simp only [hji59] at H ⊢; exact H)
      (try rw [hji59] at c58b0)
      have hji59w : (IntKind.i64.wrap ((t400.length : Int) + a0_2)) = ji59 := (i64_w _).trans hji59
      by_cases c60 : 0 ≤ (ji59)
      ·rw [if_pos c60] at H
       have c60b0 := eq_true c60
       have c60b1 : decide (0 ≤ (ji59)) = true := decide_eq_true c60
       clear c60
       by_cases c61 : (ji59) ≤ (t400.length : Int)
       ·rw [if_pos c61] at H
        have c61b0 := eq_true c61
        have c61b1 : decide ((ji59) ≤ (t400.length : Int)) = true := decide_eq_true c61
        clear c61
        obtain ⟨y449, hy449⟩ : ∃ y_ : List Int, y_ = (t400.take ((ji59) : Int).toNat) := ⟨_, rfl⟩
        replace H : ((slices_Concat_byte_byte.f y449 (([46] : List Int)) (t400.drop ((ji59) : Int).toNat)).bind fun t461 => ((impl_signedText.f a0_0 t461).bind fun t464 => (some t464))) = some r := by first | (rw [hy449]; with_reducible exact H) | (have H2_ := (Option.bind_some _ _).symm.trans H; rw [hy449]; with_reducible exact H2_) | (have H2_ := (Option.bind_some _ _).symm.trans H; with_reducible exact H2_) | with_reducible exact H | (rw [hy449]; exact H) | exact H
        have Ny449 := Aside0.mk hy449
        clear hy449
        obtain ⟨y453, hy453⟩ : ∃ y_ : List Int, y_ = (([46] : List Int)) := ⟨_, rfl⟩
        replace H : ((slices_Concat_byte_byte.f y449 y453 (t400.drop ((ji59) : Int).toNat)).bind fun t461 => ((impl_signedText.f a0_0 t461).bind fun t464 => (some t464))) = some r := by first | (rw [hy453]; with_reducible exact H) | (have H2_ := (Option.bind_some _ _).symm.trans H; rw [hy453]; with_reducible exact H2_) | (have H2_ := (Option.bind_some _ _).symm.trans H; with_reducible exact H2_) | with_reducible exact H | (rw [hy453]; exact H) | exact H
        have Ny453 := Aside0.mk hy453
        clear hy453
        have c62b0 := eq_true (of_decide_eq_true (by first | (with_reducible assumption) | assumption) : 0 ≤ (ji59))
        have c63b0 := eq_true (of_decide_eq_true (by first | (with_reducible assumption) | assumption) : (ji59) ≤ (t400.length : Int))
        obtain ⟨y456, hy456⟩ : ∃ y_ : List Int, y_ = (t400.drop ((ji59) : Int).toNat) := ⟨_, rfl⟩
        replace H : ((slices_Concat_byte_byte.f y449 y453 y456).bind fun t461 => ((impl_signedText.f a0_0 t461).bind fun t464 => (some t464))) = some r := by first | (rw [hy456]; with_reducible exact H) | (have H2_ := (Option.bind_some _ _).symm.trans H; rw [hy456]; with_reducible exact H2_) | (have H2_ := (Option.bind_some _ _).symm.trans H; with_reducible exact H2_) | with_reducible exact H | (rw [hy456]; exact H) | exact H
        have Ny456 := Aside0.mk hy456
        clear hy456
        replace H := hBi H
        obtain ⟨t461, A640, H⟩ := H
        replace H : ((impl_signedText.f a0_0 t461).bind fun t464 => (some t464)) = some r := H
        have A64 := Aside0.mk A640
        clear A640
        replace H := hBi H
        obtain ⟨t464, A650, H⟩ := H
        replace H : (some t464) = some r := H
        have A65 := Aside0.mk A650
        clear A650
        obtain rfl := Option.some.inj H
        obtain ⟨hcz66_0, hfz66_0, hcz66_1, hfz66_1, hcz66_2, hfz66_2⟩ := hkc3 BK399
        try go_wp2
        have n_ := hkA (Aside0.mk (Kd.R_drew HO_3.out)) (hkA (Aside0.mk (Kd.R_drew HO_5.out)) (hkA (Aside0.mk (blk_drew BK399.out)) (Aside0.mk (below_drew1 HB.out))))
        clear HO_3 HO_5 BK399 HB
        obtain ⟨HO_3, HO_5, BK399, HB⟩ := n_
        have q68 : ((ji59) : Int) ≤ ((t400.length : Int) : Int) := of_decide_eq_true (by first | (with_reducible assumption) | assumption)
        obtain ⟨i068, hi068, _, hsz68, _⟩ := info_parts info5
        have hroom68 : t400.length ≤ co7 := (Kd.R_reads' HO_3.out).2.1
        have hC68 : Kd.C (Kd.int .u8) _ Ao7 t400.length t400 := (Kd.R_reads' HO_3.out).2.2
        have hcut68 := cut_to (P := Tryd.prog) 28 5 .i64 Tryd.underlying28 hi068 Ao7 t400.length co7 (ji59) (of_decide_eq_true (by first | (with_reducible assumption) | assumption)) q68 hroom68
        have hr68 := Kd.C_take (m := ((ji59) : Int).toNat) hC68 (by omega)
        have hy68 : y449.length = ((ji59) : Int).toNat := (by rw [Ny449.out, List.length_take]; omega)
        rw [← Ny449.out] at hr68
        rw [← hy68] at hcut68
        have HR452 := Aside0.mk hr68
        have HC452 := Aside0.mk (show y449.length ≤ co7 from by omega)
        clear hr68 hC68 hroom68 hi068 hsz68
        have KY68 := Aside0.mk hy68
        clear hy68
        have KL68 := Aside0.mk (show ((ji59) : Int).toNat ≤ t400.length from by omega)
        replace q68 := eq_true q68
        have q69 : ((ji59) : Int) ≤ ((t400.length : Int) : Int) := of_decide_eq_true (by first | (with_reducible assumption) | assumption)
        obtain ⟨i069, hi069, _, hsz69, _⟩ := info_parts info5
        have hroom69 : t400.length ≤ co7 := (Kd.R_reads' HO_3.out).2.1
        have hC69 : Kd.C (Kd.int .u8) _ Ao7 t400.length t400 := (Kd.R_reads' HO_3.out).2.2
        have q069 : (0 : Int) ≤ ((ji59) : Int) := of_decide_eq_true (by first | (with_reducible assumption) | assumption)
        have hcut69 := cut_from (P := Tryd.prog) 28 5 .i64 Tryd.underlying28 hi069 1 hsz69 Ao7 t400.length co7 (ji59) q069 q69
        have hr69 := Kd.C_drop (m := ((ji59) : Int).toNat) (c := co7) hC69 (by omega) hroom69
        obtain ⟨A69, hA69⟩ : ∃ A1, A1 = (if co7 = ((ji59) : Int).toNat then Ao7 else (Ao7 : Option Addr).map (·.add (((ji59) : Int).toNat * 1))) := ⟨_, rfl⟩
        obtain ⟨c69, hc69⟩ : ∃ c1, c1 = co7 - ((ji59) : Int).toNat := ⟨_, rfl⟩
        have hy69 : y456.length = t400.length - ((ji59) : Int).toNat := (by rw [Ny456.out, List.length_drop] <;> omega)
        rw [show (t400).drop ((ji59) : Int).toNat = y456 from Ny456.out.symm] at hr69
        replace hr69 : Kd.C (Kd.int .u8) _ A69 y456.length y456 := (by rw [hA69]; exact hr69)
        rw [← hy69, ← hA69, ← hc69] at hcut69
        have HR459 := Aside0.mk hr69
        have HC459 := Aside0.mk (show y456.length ≤ c69 from by rw [hy69, hc69]; exact Nat.sub_le_sub_right hroom69 _)
        clear hr69 hC69 hroom69 hi069 hsz69 hc69
        have KY69 := Aside0.mk hy69
        have KA69 := Aside0.mk hA69
        clear hy69 hA69
        have KL69 := Aside0.mk (show ((ji59) : Int).toNat ≤ t400.length from by omega)
        replace q69 := eq_true q69
        refine start_ (n := 11) (S := fun w' => True) (ds := []) #[false, false, false, false, false, false, false, false, false, false, false] (by kernel_rfl) rfl rfl trivial (fun hHeld => ?_); refine with_tabW impl_decText.tab13 impl_decText.bits13 (fun HT_ HW_ => ?_)
        generalize wc.drew = w67 at HO_3 HO_5 BK399 HB HR452 HR459 hHeld ⊢
        refine hkPt (i := 0) (N := some 68) HT_ ?_
        refine hkPt (i := 1) (N := some 69) HT_ ?_
        refine hkPt (i := 2) (N := some 70) HT_ ?_
        refine hkPt (i := 5) (N := some 73) HT_ ?_
        refine hkPt (i := 6) (N := some 74) HT_ ?_
        refine hkPt (i := 7) (N := some 75) HT_ ?_
        refine one_ (i := 3) (N := some 71) #[true, true, true, true, false, true, true, true, false, false, false] rfl rfl (one_of HT_.out (by kernel_rfl)) (by decide) (fun K hK => ?_)
        refine litraw_step 5 1 [.int .u8 46] ?hg (N := 71) ?hd ?hr ?_; (case hd => rfl); (case hg => rfl); (case hr => first | (go_simp; done) | (go_simp; rfl))
        refine hK.out _ _ trivial (fun hHeld => ?_)
        clear hK K
        refine hkNo (N := some 71) ?_
        refine one_ (i := 4) (N := some 72) #[true, true, true, true, true, true, true, true, false, false, false] rfl rfl (one_of HT_.out (by kernel_rfl)) (by decide) (fun K hK => ?_)
        refine Kd.R_litmark_step (Kd.int .u8) _ 5 ?hg (N := 71) (M := 72) ?hd ?t2 ?ho2 ?ht2 ?he2 rfl (xs := ([46] : List Int)) (inner := [.int .u8 46]) (ok := fun _ => True) (okp := fun _ => True) ?hev ?hp (fun _ hk => hk) trivial (Below.refl _ _) (Nat.le_refl _) (by simp) ?_; (case hd => rfl); (case hg => rfl); (case ho2 => rfl); (case ht2 => kernel_rfl); (case he2 => kernel_rfl); (case hev => first | rfl | (go_simp; done) | (go_simp; rfl)); (case hp => exact (Reps.one (show Kd.M (Kd.int .u8) _ _ _ 46 [.int .u8 46] from rfl) (Reps.none _ _)))
        intro v454 w70 ho71 hb hg_ hnew_
        clear hg_ hnew_
        (first | rw [← Ny453.out] at ho71 | (simp only [Int.reduceToNat] at ho71; rw [← Ny453.out] at ho71) | (simp only [Int.toNat_zero, List.replicate_zero] at ho71; rw [← Ny453.out] at ho71))
        have n_ := hkA (Aside0.mk (Kd.R_elder' (hkR HO_3) (Kd.R_base ho71) hb)) (hkA (Aside0.mk (Kd.R_elder' (hkR HO_5) (Kd.R_base ho71) hb)) (hkA (Aside0.mk (Kd.R_lower (Kd.R_new' (Kd.R_new' ho71 (Kd.R_lt (hkR HO_3))) (Kd.R_lt (hkR HO_5))) (below_size (hkS HB)))) (hkA (hkBb BK399 hb) (hkA (Aside0.mk (Kd.C_below (by repeat (first | (with_reducible exact HR452.out) | (with_reducible refine Kd.C_alloc ?_ _) | (with_reducible refine Kd.C_drewN ?_ _) | (with_reducible refine Kd.C_drew ?_) | exact HR452.out)) hb)) (hkA (Aside0.mk (Kd.C_below (by repeat (first | (with_reducible exact HR459.out) | (with_reducible refine Kd.C_alloc ?_ _) | (with_reducible refine Kd.C_drewN ?_ _) | (with_reducible refine Kd.C_drew ?_) | exact HR459.out)) hb)) (hkU HB hb))))))
        clear HO_3 HO_5 BK399 HR452 HR459 HB
        obtain ⟨HO_3, HO_5, HO455, BK399, HR452, HR459, HB⟩ := n_
        clear hb ho71
        obtain ⟨Ao72, co72, eo72⟩ := Kd.R_slice HO455.out
        (first | subst eo72 | (injection eo72 with f1_ f2_ f3_; have f4_ := f1_.symm; have f5_ := f3_.symm; clear f1_ f2_ f3_; subst f4_; subst f5_))
        refine hK.out _ _ trivial (fun hHeld => ?_)
        clear hK K
        refine hkNo (N := some 72) ?_
        refine one_ (i := 8) (N := some 76) #[true, true, true, true, true, true, true, true, true, false, false] rfl rfl (one_of HT_.out (by kernel_rfl)) (by decide) (fun K hK => ?_)
        refine rowlit_step ?hg (N := 76) ?hd (cs := #[.slice Ao7 y449.length co7, .slice Ao72 y453.length co72, .slice A69 y456.length c69]) (t := 28) ?hr ?_; (case hd => rfl); (case hg => rfl); (case hr => first | (go_simp; done) | (go_simp; rfl))
        intro gb460 hg w73 hbox hb
        have n_ := hkA (hkRb HO_3 hb) (hkA (hkRb HO_5 hb) (hkA (hkRb HO455 hb) (hkA (hkBb BK399 hb) (hkA (Aside0.mk (Kd.C_below (by repeat (first | (with_reducible exact HR452.out) | (with_reducible refine Kd.C_alloc ?_ _) | (with_reducible refine Kd.C_drewN ?_ _) | (with_reducible refine Kd.C_drew ?_) | exact HR452.out)) hb)) (hkA (Aside0.mk (Kd.C_below (by repeat (first | (with_reducible exact HR459.out) | (with_reducible refine Kd.C_alloc ?_ _) | (with_reducible refine Kd.C_drewN ?_ _) | (with_reducible refine Kd.C_drew ?_) | exact HR459.out)) hb)) (hkA (hkU HB hb) (hkA (Aside0.mk (hbox)) (hkA (hkG hg (hkS HB)) (hkA (hkG hg (hkS HB)) (hkA (hkN hg BK399) (hkM hg BK399)))))))))))
        clear HO_3 HO_5 HO455 BK399 HR452 HR459 HB
        obtain ⟨HO_3, HO_5, HO455, BK399, HR452, HR459, HB, BK460, GW460, GE460, NB399_460, NB460_399⟩ := n_
        clear hb hbox hg
        refine hK.out _ _ trivial (fun hHeld => ?_)
        clear hK K
        refine hkNo (N := some 76) ?_
        refine one_ (i := 9) (N := some 77) #[true, true, true, true, true, true, true, true, true, true, false] rfl rfl (one_of HT_.out (by kernel_rfl)) (by decide) (fun K hK => ?_)
        refine goes_ Tryd.func34 (by kernel_rfl) rfl #[.slice (some ⟨gb460, 0, none⟩) 3 3] (by rfl) rfl rfl hkL ?_
        with_reducible refine (slices_Concat_byte_byte.calls Ao7 co7 y449 Ao72 co72 y453 A69 c69 y456 t461 _ ?side1 ?side2 ?side3 ?side4 ?side5 ?side6 A64.out gb460 ?side7).mono ?_
        (case side7 => exact hkB BK460)
        (case side1 => repeat (first | exact (by repeat (first | (with_reducible exact HR452.out) | (with_reducible refine Kd.C_alloc ?_ _) | (with_reducible refine Kd.C_drewN ?_ _) | (with_reducible refine Kd.C_drew ?_) | exact HR452.out)) | (with_reducible refine Kd.C_alloc ?_ _) | (with_reducible refine Kd.C_drewN ?_ _) | (with_reducible refine Kd.C_drew ?_)))
        (case side2 => exact HC452.out)
        (case side3 => exact hkC ((Kd.R_reads' HO455.out).2.2))
        (case side4 => exact (Kd.R_reads' HO455.out).2.1)
        (case side5 => repeat (first | exact (by repeat (first | (with_reducible exact HR459.out) | (with_reducible refine Kd.C_alloc ?_ _) | (with_reducible refine Kd.C_drewN ?_ _) | (with_reducible refine Kd.C_drew ?_) | exact HR459.out)) | (with_reducible refine Kd.C_alloc ?_ _) | (with_reducible refine Kd.C_drewN ?_ _) | (with_reducible refine Kd.C_drew ?_)))
        (case side6 => exact HC459.out)
        rintro e w74 ⟨v462, rfl, ho0, hb⟩
        refine ⟨_, rfl, ?_⟩
        have n_ := hkA (Aside0.mk (Kd.R_elder' (hkR HO_3) (Kd.R_base ho0) hb)) (hkA (Aside0.mk (Kd.R_elder' (hkR HO_5) (Kd.R_base ho0) hb)) (hkA (Aside0.mk (Kd.R_elder' (hkR HO455) (Kd.R_base ho0) hb)) (hkA (Aside0.mk (Kd.R_lower (Kd.R_new' (Kd.R_new' (Kd.R_new' ho0 (Kd.R_lt (hkR HO_3))) (Kd.R_lt (hkR HO_5))) (Kd.R_lt (hkR HO455))) (below_size (hkS HB)))) (hkA (hkBb BK399 hb) (hkA (Aside0.mk (Kd.C_below (by repeat (first | (with_reducible exact HR452.out) | (with_reducible refine Kd.C_alloc ?_ _) | (with_reducible refine Kd.C_drewN ?_ _) | (with_reducible refine Kd.C_drew ?_) | exact HR452.out)) hb)) (hkA (Aside0.mk (Kd.C_below (by repeat (first | (with_reducible exact HR459.out) | (with_reducible refine Kd.C_alloc ?_ _) | (with_reducible refine Kd.C_drewN ?_ _) | (with_reducible refine Kd.C_drew ?_) | exact HR459.out)) hb)) (hkA (hkBb BK460 hb) (hkU HB hb))))))))
        clear HO_3 HO_5 HO455 BK399 HR452 HR459 BK460 HB
        obtain ⟨HO_3, HO_5, HO455, HO463, BK399, HR452, HR459, BK460, HB⟩ := n_
        (try clear hb); (try clear ho0)
        refine hK.out _ _ trivial (fun hHeld => ?_)
        clear hK K
        refine hkNo (N := some 77) ?_
        refine hkPt (i := 10) (N := some 5) HT_ ?_
        refine done_ (done_of HT_.out (by kernel_rfl)) ?_
        have hnb75 := NB399_460.out
        have hnc75 := NB460_399.out
        obtain ⟨hcz76_0, hfz76_0, hcz76_1, hfz76_1, hcz76_2, hfz76_2⟩ := hkc3 BK399
        obtain ⟨Ao77, co77, eo77⟩ := Kd.R_slice HO463.out
        subst eo77
        try go_wp2_with (first | ((with_reducible refine gate_callee (f := 35) rfl ?_); refine hkGo (N := some 81) Tryd.func35 #[.bool a0_0, .slice Ao77 t461.length co77] ?_; (with_reducible refine (impl_signedText.calls a0_0 (fun k_ => some k_ = (.slice Ao77 t461.length co77 : Value).ownBlock) (.slice Ao77 t461.length co77) t461 t464 w _ ?side1 ?side2 A65.out).mono ?_); (case side1 => exact hkS HB); (case side2 => exact Kd.R_tight rfl HO463.out); rintro e w78 ⟨v465, rfl, ho0, hb, hkp⟩; refine ⟨_, rfl, ?_⟩; have n_ := hkA (Aside0.mk (Kd.R_mono (ok' := fun k_ => some k_ ≠ (.slice none 0 0 : Value).ownBlock ∧ some k_ ≠ (.slice Ao72 y453.length co72 : Value).ownBlock ∧ some k_ ≠ (v465 : Value).ownBlock) (Kd.R_keptB (HO_3.out) hkp (fun k_ hk_ hs_ => by first | exact (hk_.2) hs_ | exact hkP hk_ hs_)) (fun k_ hk_ => ⟨hk_.1.1.1, hk_.1.1.2, fun e_ => Or.elim (ho0.1 k_ e_.symm) (fun hs_ => hk_.2.1 hs_) (fun hn_ => Nat.not_le.2 hk_.2.2 hn_)⟩))) (hkA (Aside0.mk (Kd.R_mono (ok' := fun k_ => some k_ ≠ (.slice Ao7 t400.length co7 : Value).ownBlock ∧ some k_ ≠ (.slice Ao72 y453.length co72 : Value).ownBlock ∧ some k_ ≠ (v465 : Value).ownBlock) (Kd.R_keptB (HO_5.out) hkp (fun k_ hk_ hs_ => by first | exact (hk_.2) hs_ | exact hkP hk_ hs_)) (fun k_ hk_ => ⟨hk_.1.1.1, hk_.1.1.2, fun e_ => Or.elim (ho0.1 k_ e_.symm) (fun hs_ => hk_.2.1 hs_) (fun hn_ => Nat.not_le.2 hk_.2.2 hn_)⟩))) (hkA (Aside0.mk (blk_kept (hkB BK399) hkp (fun hs_ => (fun e_ => (Kd.R_ne HO463.out BK399.out (by decide)) e_) hs_))) (hkA (Aside0.mk (Kd.R_mono (ok' := fun k_ => some k_ ≠ (.slice Ao7 t400.length co7 : Value).ownBlock ∧ some k_ ≠ (.slice none 0 0 : Value).ownBlock ∧ some k_ ≠ (v465 : Value).ownBlock) (Kd.R_keptB (HO455.out) hkp (fun k_ hk_ hs_ => by first | exact (hk_.2) hs_ | exact hkP hk_ hs_)) (fun k_ hk_ => ⟨hk_.1.1.1.2, hk_.1.1.2, fun e_ => Or.elim (ho0.1 k_ e_.symm) (fun hs_ => hk_.2.1 hs_) (fun hn_ => Nat.not_le.2 hk_.2.2 hn_)⟩))) (hkA (Aside0.mk (blk_kept (hkB BK460) hkp (fun hs_ => (fun e_ => (Kd.R_ne HO463.out BK460.out (by decide)) e_) hs_))) (hkA (Aside0.mk (Kd.R_mono (ok' := fun k_ => some k_ ≠ (.slice Ao7 t400.length co7 : Value).ownBlock ∧ some k_ ≠ (.slice none 0 0 : Value).ownBlock ∧ some k_ ≠ (.slice Ao72 y453.length co72 : Value).ownBlock) ho0 (fun k_ hk_ => ⟨Or.elim hk_ (fun hs_ => fun e_ => (((HO_3.out).1 k_ e_.symm).2) hs_) (fun hn_ => (Kd.fresh' (Kd.R_lt (hkR HO_3)) k_ hn_)), Or.elim hk_ (fun hs_ => fun e_ => (((HO_5.out).1 k_ e_.symm).2) hs_) (fun hn_ => (Kd.fresh' (Kd.R_lt (hkR HO_5)) k_ hn_)), Or.elim hk_ (fun hs_ => fun e_ => (((HO455.out).1 k_ e_.symm).2) hs_) (fun hn_ => (Kd.fresh' (Kd.R_lt (hkR HO455)) k_ hn_))⟩))) (Aside0.mk (hb))))))); clear HO_3 HO_5 BK399 HO455 BK460 HB HO463; obtain ⟨HO_3, HO_5, BK399, HO455, BK460, HO466, HB⟩ := n_; (try clear hb); (try clear hkp); (try clear ho0)))
        go_ret
        exact ⟨_, by first | rfl | (simp [errW_none, errW_some] <;> rfl) | (simp only [← hji59]; first | rfl | (simp [errW_none, errW_some] <;> rfl)) | (simp [*, errW_none, errW_some] <;> rfl), by (with_reducible repeat (first | apply Kd.R_alloc | apply Kd.R_drewN | apply Kd.R_drew)); exact Kd.R_mono HO466.out (fun _ hk => trivial), hkS HB⟩
       ·rw [if_neg c61] at H
        exact absurd H (by simp)
      ·rw [if_neg c60] at H
       exact absurd H (by simp)
     ·rw [if_neg c58] at H
      have c58b0 : decide (0 < (wrap64 ((t400.length : Int) + a0_2))) = false := decide_eq_false c58
      clear c58
      obtain ⟨y467, hy467⟩ : ∃ y_ : List Int, y_ = (([48, 46] : List Int)) := ⟨_, rfl⟩
      replace H : ((slices_Repeat_byte_byte.f (([48] : List Int)) (wrap64 (-(wrap64 ((t400.length : Int) + a0_2))))).bind fun t473 => ((slices_Concat_byte_byte.f y467 t473 t400).bind fun t477 => ((impl_signedText.f a0_0 t477).bind fun t480 => (some t480)))) = some r := by first | (rw [hy467]; with_reducible exact H) | (have H2_ := (Option.bind_some _ _).symm.trans H; rw [hy467]; with_reducible exact H2_) | (have H2_ := (Option.bind_some _ _).symm.trans H; with_reducible exact H2_) | with_reducible exact H | (rw [hy467]; exact H) | exact H
      have Ny467 := Aside0.mk hy467
      clear hy467
      obtain ⟨y470, hy470⟩ : ∃ y_ : List Int, y_ = (([48] : List Int)) := ⟨_, rfl⟩
      replace H : ((slices_Repeat_byte_byte.f y470 (wrap64 (-(wrap64 ((t400.length : Int) + a0_2))))).bind fun t473 => ((slices_Concat_byte_byte.f y467 t473 t400).bind fun t477 => ((impl_signedText.f a0_0 t477).bind fun t480 => (some t480)))) = some r := by first | (rw [hy470]; with_reducible exact H) | (have H2_ := (Option.bind_some _ _).symm.trans H; rw [hy470]; with_reducible exact H2_) | (have H2_ := (Option.bind_some _ _).symm.trans H; with_reducible exact H2_) | with_reducible exact H | (rw [hy470]; exact H) | exact H
      have Ny470 := Aside0.mk hy470
      clear hy470
      replace H := hBi H
      obtain ⟨t473, A790, H⟩ := H
      replace H : ((slices_Concat_byte_byte.f y467 t473 t400).bind fun t477 => ((impl_signedText.f a0_0 t477).bind fun t480 => (some t480))) = some r := H
      have A79 := Aside0.mk A790
      clear A790
      replace H := hBi H
      obtain ⟨t477, A800, H⟩ := H
      replace H : ((impl_signedText.f a0_0 t477).bind fun t480 => (some t480)) = some r := H
      have A80 := Aside0.mk A800
      clear A800
      replace H := hBi H
      obtain ⟨t480, A810, H⟩ := H
      replace H : (some t480) = some r := H
      have A81 := Aside0.mk A810
      clear A810
      obtain rfl := Option.some.inj H
      obtain ⟨hcz82_0, hfz82_0, hcz82_1, hfz82_1, hcz82_2, hfz82_2⟩ := hkc3 BK399
      go_wp2_with (first | ((with_reducible refine gate_dst (N := 15) rfl ?_); (first | (refine Kd.R_litmark (Kd.int .u8) _ 5 ?hg (N := 15) ?hd ?hg2 ?t2 ?ho2 ?ht2 ?he2 rfl (xs := ([48, 46] : List Int)) (inner := [.int .u8 48, .int .u8 46]) (ok := fun _ => True) (okp := fun _ => True) ?hev ?hr ?hp (fun _ hk => hk) trivial (Below.refl _ _) (Nat.le_refl _) (by simp) ?_; (case hd => rfl); (case hg => rfl); (case hg2 => rfl); (case ho2 => rfl); (case ht2 => kernel_rfl); (case he2 => kernel_rfl); (case hev => first | rfl | (go_simp; done) | (go_simp; rfl)); (case hr => first | (go_simp; done) | (go_simp; rfl))) | (refine Kd.R_lit (Kd.int .u8) _ 5 ?hg (N := 15) ?hd (xs := ([48, 46] : List Int)) (inner := [.int .u8 48, .int .u8 46]) (ok := fun _ => True) (okp := fun _ => True) ?hr ?hp (fun _ hk => hk) trivial (Below.refl _ _) (Nat.le_refl _) (by simp) ?_; (case hd => rfl); (case hg => rfl); (case hr => first | (go_simp; done) | (go_simp; rfl)))); (case hp => exact (Reps.one (show Kd.M (Kd.int .u8) _ _ _ 48 [.int .u8 48] from rfl) (Reps.one (show Kd.M (Kd.int .u8) _ _ _ 46 [.int .u8 46] from rfl) (Reps.none _ _)))); intro v468 w83 ho84 hb hg_ hnew_; clear hg_ hnew_; (first | rw [← Ny467.out] at ho84 | (simp only [Int.reduceToNat] at ho84; rw [← Ny467.out] at ho84) | (simp only [Int.toNat_zero, List.replicate_zero] at ho84; rw [← Ny467.out] at ho84)); have n_ := hkA (Aside0.mk (Kd.R_elder' (hkR HO_3) (Kd.R_base ho84) hb)) (hkA (Aside0.mk (Kd.R_elder' (hkR HO_5) (Kd.R_base ho84) hb)) (hkA (Aside0.mk (Kd.R_lower (Kd.R_new' (Kd.R_new' ho84 (Kd.R_lt (hkR HO_3))) (Kd.R_lt (hkR HO_5))) (below_size (hkS HB)))) (hkA (hkBb BK399 hb) (hkU HB hb)))); clear HO_3 HO_5 BK399 HB; obtain ⟨HO_3, HO_5, HO469, BK399, HB⟩ := n_; clear hb ho84) | ((with_reducible refine gate_dst (N := 17) rfl ?_); (first | (refine Kd.R_litmark (Kd.int .u8) _ 5 ?hg (N := 17) ?hd ?hg2 ?t2 ?ho2 ?ht2 ?he2 rfl (xs := ([48] : List Int)) (inner := [.int .u8 48]) (ok := fun _ => True) (okp := fun _ => True) ?hev ?hr ?hp (fun _ hk => hk) trivial (Below.refl _ _) (Nat.le_refl _) (by simp) ?_; (case hd => rfl); (case hg => rfl); (case hg2 => rfl); (case ho2 => rfl); (case ht2 => kernel_rfl); (case he2 => kernel_rfl); (case hev => first | rfl | (go_simp; done) | (go_simp; rfl)); (case hr => first | (go_simp; done) | (go_simp; rfl))) | (refine Kd.R_lit (Kd.int .u8) _ 5 ?hg (N := 17) ?hd (xs := ([48] : List Int)) (inner := [.int .u8 48]) (ok := fun _ => True) (okp := fun _ => True) ?hr ?hp (fun _ hk => hk) trivial (Below.refl _ _) (Nat.le_refl _) (by simp) ?_; (case hd => rfl); (case hg => rfl); (case hr => first | (go_simp; done) | (go_simp; rfl)))); (case hp => exact (Reps.one (show Kd.M (Kd.int .u8) _ _ _ 48 [.int .u8 48] from rfl) (Reps.none _ _))); intro v471 w85 ho86 hb hg_ hnew_; clear hg_ hnew_; (first | rw [← Ny470.out] at ho86 | (simp only [Int.reduceToNat] at ho86; rw [← Ny470.out] at ho86) | (simp only [Int.toNat_zero, List.replicate_zero] at ho86; rw [← Ny470.out] at ho86)); have n_ := hkA (Aside0.mk (Kd.R_elder' (hkR HO_3) (Kd.R_base ho86) hb)) (hkA (Aside0.mk (Kd.R_elder' (hkR HO_5) (Kd.R_base ho86) hb)) (hkA (Aside0.mk (Kd.R_elder' (hkR HO469) (Kd.R_base ho86) hb)) (hkA (Aside0.mk (Kd.R_lower (Kd.R_new' (Kd.R_new' (Kd.R_new' ho86 (Kd.R_lt (hkR HO_3))) (Kd.R_lt (hkR HO_5))) (Kd.R_lt (hkR HO469))) (below_size (hkS HB)))) (hkA (hkBb BK399 hb) (hkU HB hb))))); clear HO_3 HO_5 HO469 BK399 HB; obtain ⟨HO_3, HO_5, HO469, HO472, BK399, HB⟩ := n_; clear hb ho86; obtain ⟨Ao87, co87, eo87⟩ := Kd.R_slice HO472.out; subst eo87) | ((with_reducible refine gate_callee (f := 33) rfl ?_); refine hkGo (N := some 21) Tryd.func33 #[.slice Ao87 y470.length co87, .int .i64 (wrap64 (-(wrap64 ((t400.length : Int) + a0_2))))] ?_; (with_reducible refine (slices_Repeat_byte_byte.calls _ _ y470 (wrap64 (-(wrap64 ((t400.length : Int) + a0_2)))) t473 _ ?side1 ?side2 A79.out).mono ?_); (case side1 => exact hkC ((Kd.R_reads' HO472.out).2.2)); (case side2 => exact (Kd.R_reads' HO472.out).2.1); rintro e w88 ⟨v474, rfl, ho0, hb⟩; refine ⟨_, rfl, ?_⟩; have n_ := hkA (Aside0.mk (Kd.R_elder' (hkR HO_3) (Kd.R_base ho0) hb)) (hkA (Aside0.mk (Kd.R_elder' (hkR HO_5) (Kd.R_base ho0) hb)) (hkA (Aside0.mk (Kd.R_elder' (hkR HO469) (Kd.R_base ho0) hb)) (hkA (Aside0.mk (Kd.R_elder' (hkR HO472) (Kd.R_base ho0) hb)) (hkA (Aside0.mk (Kd.R_lower (Kd.R_new' (Kd.R_new' (Kd.R_new' (Kd.R_new' ho0 (Kd.R_lt (hkR HO_3))) (Kd.R_lt (hkR HO_5))) (Kd.R_lt (hkR HO469))) (Kd.R_lt (hkR HO472))) (below_size (hkS HB)))) (hkA (hkBb BK399 hb) (hkU HB hb)))))); clear HO_3 HO_5 HO469 HO472 BK399 HB; obtain ⟨HO_3, HO_5, HO469, HO472, HO475, BK399, HB⟩ := n_; (try clear hb); (try clear hk); (try clear ho0); obtain ⟨Ao89, co89, eo89⟩ := Kd.R_slice HO469.out; subst eo89; obtain ⟨Ao90, co90, eo90⟩ := Kd.R_slice HO475.out; subst eo90) | ((with_reducible refine gate_dst (N := 23) rfl ?_); refine rowlit_event ?hg (N := 23) ?hd (cs := #[.slice Ao89 y467.length co89, .slice Ao90 t473.length co90, .slice Ao7 t400.length co7]) (t := 28) ?hr ?_; (case hd => rfl); (case hg => rfl); (case hr => first | (go_simp; done) | (go_simp; rfl)); intro gb476 hg w91 hbox hb; have n_ := hkA (hkRb HO_3 hb) (hkA (hkRb HO_5 hb) (hkA (hkRb HO469 hb) (hkA (hkRb HO472 hb) (hkA (hkRb HO475 hb) (hkA (hkBb BK399 hb) (hkA (hkU HB hb) (hkA (Aside0.mk (hbox)) (hkA (hkG hg (hkS HB)) (hkA (hkG hg (hkS HB)) (hkA (hkN hg BK399) (hkM hg BK399))))))))))); clear HO_3 HO_5 HO469 HO472 HO475 BK399 HB; obtain ⟨HO_3, HO_5, HO469, HO472, HO475, BK399, HB, BK476, GW476, GE476, NB399_476, NB476_399⟩ := n_; clear hb hbox hg) | ((with_reducible refine gate_callee (f := 34) rfl ?_); refine hkGo (N := some 24) Tryd.func34 #[.slice (some ⟨gb476, 0, none⟩) 3 3] ?_; (with_reducible refine (slices_Concat_byte_byte.calls Ao89 co89 y467 Ao90 co90 t473 Ao7 co7 t400 t477 _ ?side1 ?side2 ?side3 ?side4 ?side5 ?side6 A80.out gb476 ?side7).mono ?_); (case side7 => exact hkB BK476); (case side1 => exact hkC ((Kd.R_reads' HO469.out).2.2)); (case side2 => exact (Kd.R_reads' HO469.out).2.1); (case side3 => exact hkC ((Kd.R_reads' HO475.out).2.2)); (case side4 => exact (Kd.R_reads' HO475.out).2.1); (case side5 => exact hkC ((Kd.R_reads' HO_3.out).2.2)); (case side6 => exact (Kd.R_reads' HO_3.out).2.1); rintro e w92 ⟨v478, rfl, ho0, hb⟩; refine ⟨_, rfl, ?_⟩; have n_ := hkA (Aside0.mk (Kd.R_elder' (hkR HO_3) (Kd.R_base ho0) hb)) (hkA (Aside0.mk (Kd.R_elder' (hkR HO_5) (Kd.R_base ho0) hb)) (hkA (Aside0.mk (Kd.R_elder' (hkR HO469) (Kd.R_base ho0) hb)) (hkA (Aside0.mk (Kd.R_elder' (hkR HO472) (Kd.R_base ho0) hb)) (hkA (Aside0.mk (Kd.R_elder' (hkR HO475) (Kd.R_base ho0) hb)) (hkA (Aside0.mk (Kd.R_lower (Kd.R_new' (Kd.R_new' (Kd.R_new' (Kd.R_new' (Kd.R_new' ho0 (Kd.R_lt (hkR HO_3))) (Kd.R_lt (hkR HO_5))) (Kd.R_lt (hkR HO469))) (Kd.R_lt (hkR HO472))) (Kd.R_lt (hkR HO475))) (below_size (hkS HB)))) (hkA (hkBb BK399 hb) (hkA (hkBb BK476 hb) (hkU HB hb)))))))); clear HO_3 HO_5 HO469 HO472 HO475 BK399 BK476 HB; obtain ⟨HO_3, HO_5, HO469, HO472, HO475, HO479, BK399, BK476, HB⟩ := n_; (try clear hb); (try clear hk); (try clear ho0); have hnb93 := NB399_476.out; have hnc93 := NB476_399.out; obtain ⟨hcz94_0, hfz94_0, hcz94_1, hfz94_1, hcz94_2, hfz94_2⟩ := hkc3 BK399; obtain ⟨Ao95, co95, eo95⟩ := Kd.R_slice HO479.out; subst eo95) | ((with_reducible refine gate_callee (f := 35) rfl ?_); refine hkGo (N := some 81) Tryd.func35 #[.bool a0_0, .slice Ao95 t477.length co95] ?_; (with_reducible refine (impl_signedText.calls a0_0 (fun k_ => some k_ = (.slice Ao95 t477.length co95 : Value).ownBlock) (.slice Ao95 t477.length co95) t477 t480 w _ ?side1 ?side2 A81.out).mono ?_); (case side1 => exact hkS HB); (case side2 => exact Kd.R_tight rfl HO479.out); rintro e w96 ⟨v481, rfl, ho0, hb, hkp⟩; refine ⟨_, rfl, ?_⟩; have n_ := hkA (Aside0.mk (Kd.R_mono (ok' := fun k_ => some k_ ≠ (.slice none 0 0 : Value).ownBlock ∧ some k_ ≠ (.slice Ao89 y467.length co89 : Value).ownBlock ∧ some k_ ≠ (.slice Ao87 y470.length co87 : Value).ownBlock ∧ some k_ ≠ (.slice Ao90 t473.length co90 : Value).ownBlock ∧ some k_ ≠ (v481 : Value).ownBlock) (Kd.R_keptB (HO_3.out) hkp (fun k_ hk_ hs_ => by first | exact (hk_.2) hs_ | exact hkP hk_ hs_)) (fun k_ hk_ => ⟨hk_.1.1.1.1.1, hk_.1.1.1.1.2, hk_.1.1.1.2, hk_.1.1.2, fun e_ => Or.elim (ho0.1 k_ e_.symm) (fun hs_ => hk_.2.1 hs_) (fun hn_ => Nat.not_le.2 hk_.2.2 hn_)⟩))) (hkA (Aside0.mk (Kd.R_mono (ok' := fun k_ => some k_ ≠ (.slice Ao7 t400.length co7 : Value).ownBlock ∧ some k_ ≠ (.slice Ao89 y467.length co89 : Value).ownBlock ∧ some k_ ≠ (.slice Ao87 y470.length co87 : Value).ownBlock ∧ some k_ ≠ (.slice Ao90 t473.length co90 : Value).ownBlock ∧ some k_ ≠ (v481 : Value).ownBlock) (Kd.R_keptB (HO_5.out) hkp (fun k_ hk_ hs_ => by first | exact (hk_.2) hs_ | exact hkP hk_ hs_)) (fun k_ hk_ => ⟨hk_.1.1.1.1.1, hk_.1.1.1.1.2, hk_.1.1.1.2, hk_.1.1.2, fun e_ => Or.elim (ho0.1 k_ e_.symm) (fun hs_ => hk_.2.1 hs_) (fun hn_ => Nat.not_le.2 hk_.2.2 hn_)⟩))) (hkA (Aside0.mk (blk_kept (hkB BK399) hkp (fun hs_ => (fun e_ => (Kd.R_ne HO479.out BK399.out (by decide)) e_) hs_))) (hkA (Aside0.mk (Kd.R_mono (ok' := fun k_ => some k_ ≠ (.slice Ao7 t400.length co7 : Value).ownBlock ∧ some k_ ≠ (.slice none 0 0 : Value).ownBlock ∧ some k_ ≠ (.slice Ao87 y470.length co87 : Value).ownBlock ∧ some k_ ≠ (.slice Ao90 t473.length co90 : Value).ownBlock ∧ some k_ ≠ (v481 : Value).ownBlock) (Kd.R_keptB (HO469.out) hkp (fun k_ hk_ hs_ => by first | exact (hk_.2) hs_ | exact hkP hk_ hs_)) (fun k_ hk_ => ⟨hk_.1.1.1.1.1.2, hk_.1.1.1.1.2, hk_.1.1.1.2, hk_.1.1.2, fun e_ => Or.elim (ho0.1 k_ e_.symm) (fun hs_ => hk_.2.1 hs_) (fun hn_ => Nat.not_le.2 hk_.2.2 hn_)⟩))) (hkA (Aside0.mk (Kd.R_mono (ok' := fun k_ => some k_ ≠ (.slice Ao7 t400.length co7 : Value).ownBlock ∧ some k_ ≠ (.slice none 0 0 : Value).ownBlock ∧ some k_ ≠ (.slice Ao89 y467.length co89 : Value).ownBlock ∧ some k_ ≠ (.slice Ao90 t473.length co90 : Value).ownBlock ∧ some k_ ≠ (v481 : Value).ownBlock) (Kd.R_keptB (HO472.out) hkp (fun k_ hk_ hs_ => by first | exact (hk_.2) hs_ | exact hkP hk_ hs_)) (fun k_ hk_ => ⟨hk_.1.1.1.1.1.2, hk_.1.1.1.1.2, hk_.1.1.1.2, hk_.1.1.2, fun e_ => Or.elim (ho0.1 k_ e_.symm) (fun hs_ => hk_.2.1 hs_) (fun hn_ => Nat.not_le.2 hk_.2.2 hn_)⟩))) (hkA (Aside0.mk (Kd.R_mono (ok' := fun k_ => some k_ ≠ (.slice Ao7 t400.length co7 : Value).ownBlock ∧ some k_ ≠ (.slice none 0 0 : Value).ownBlock ∧ some k_ ≠ (.slice Ao89 y467.length co89 : Value).ownBlock ∧ some k_ ≠ (.slice Ao87 y470.length co87 : Value).ownBlock ∧ some k_ ≠ (v481 : Value).ownBlock) (Kd.R_keptB (HO475.out) hkp (fun k_ hk_ hs_ => by first | exact (hk_.2) hs_ | exact hkP hk_ hs_)) (fun k_ hk_ => ⟨hk_.1.1.1.1.1.2, hk_.1.1.1.1.2, hk_.1.1.1.2, hk_.1.1.2, fun e_ => Or.elim (ho0.1 k_ e_.symm) (fun hs_ => hk_.2.1 hs_) (fun hn_ => Nat.not_le.2 hk_.2.2 hn_)⟩))) (hkA (Aside0.mk (blk_kept (hkB BK476) hkp (fun hs_ => (fun e_ => (Kd.R_ne HO479.out BK476.out (by decide)) e_) hs_))) (hkA (Aside0.mk (Kd.R_mono (ok' := fun k_ => some k_ ≠ (.slice Ao7 t400.length co7 : Value).ownBlock ∧ some k_ ≠ (.slice none 0 0 : Value).ownBlock ∧ some k_ ≠ (.slice Ao89 y467.length co89 : Value).ownBlock ∧ some k_ ≠ (.slice Ao87 y470.length co87 : Value).ownBlock ∧ some k_ ≠ (.slice Ao90 t473.length co90 : Value).ownBlock) ho0 (fun k_ hk_ => ⟨Or.elim hk_ (fun hs_ => fun e_ => (((HO_3.out).1 k_ e_.symm).2) hs_) (fun hn_ => (Kd.fresh' (Kd.R_lt (hkR HO_3)) k_ hn_)), Or.elim hk_ (fun hs_ => fun e_ => (((HO_5.out).1 k_ e_.symm).2) hs_) (fun hn_ => (Kd.fresh' (Kd.R_lt (hkR HO_5)) k_ hn_)), Or.elim hk_ (fun hs_ => fun e_ => (((HO469.out).1 k_ e_.symm).2) hs_) (fun hn_ => (Kd.fresh' (Kd.R_lt (hkR HO469)) k_ hn_)), Or.elim hk_ (fun hs_ => fun e_ => (((HO472.out).1 k_ e_.symm).2) hs_) (fun hn_ => (Kd.fresh' (Kd.R_lt (hkR HO472)) k_ hn_)), Or.elim hk_ (fun hs_ => fun e_ => (((HO475.out).1 k_ e_.symm).2) hs_) (fun hn_ => (Kd.fresh' (Kd.R_lt (hkR HO475)) k_ hn_))⟩))) (Aside0.mk (hb))))))))); clear HO_3 HO_5 BK399 HO469 HO472 HO475 BK476 HB HO479; obtain ⟨HO_3, HO_5, BK399, HO469, HO472, HO475, BK476, HO482, HB⟩ := n_; (try clear hb); (try clear hkp); (try clear ho0)))
      go_ret
      exact ⟨_, hkE, by (with_reducible repeat (first | apply Kd.R_alloc | apply Kd.R_drewN | apply Kd.R_drew)); exact Kd.R_mono HO482.out (fun _ hk => trivial), hkS HB⟩

end Go.Proofs.YthmieecgojiliaaDoor.PFnExactDecText
