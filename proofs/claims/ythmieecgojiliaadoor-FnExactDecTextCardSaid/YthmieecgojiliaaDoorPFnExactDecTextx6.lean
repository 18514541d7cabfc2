-- Written by our own driver (wip/hand/hprint.py) over the seat's translation.
import Derived.Test.YthmieecgojiliaaDoorPFnExactDecTextx0
import Derived.Test.YthmieecgojiliaaDoorPFnExactDecTextx2
namespace Go.Proofs.YthmieecgojiliaaDoor.PFnExactDecText
open Go.RowKit Go.Proofs.YthmieecgojiliaaDoorW.PrintWords Go.Proofs.YthmieecgojiliaaDoorW.PrintLast Go.Proofs.YthmieecgojiliaaDoorW.PrintMore
attribute [local go_sem] max2_int min2_int max_two min_two max_three min_three max_four min_four   -- for this text's walks alone
set_option linter.unusedVariables false
set_option linter.unusedSimpArgs false

/-! ### spec_l2add: function 40 -/
mutual
def spec_l2add.l0 : Nat → List Int → Int → Int → List Int → List Int → Option (List Int)
 | 0, _, _, _, _, _ => none
 | k + 1, x5, x6, x7, x180000, x181000 => if x7 < (x180000.length : Int) then (spec_l2add.j1 k x5 x6 x7 true x180000 x181000) else (if x7 < (x181000.length : Int) then (spec_l2add.j1 k x5 x6 x7 true x180000 x181000) else (spec_l2add.j1 k x5 x6 x7 (decide (x6 > 0)) x180000 x181000))
def spec_l2add.j1 : Nat → List Int → Int → Int → Bool → List Int → List Int → Option (List Int)
 | 0, _, _, _, _, _, _ => none
 | k + 1, x5, x6, x7, x24, x180000, x181000 => if x24 = true then (if x7 < (x180000.length : Int) then (if 0 ≤ x7 then (if x7 < (x181000.length : Int) then (if x5.length < 17592186044416 then (spec_l2add.l0 k (x5 ++ [Int.tmod (wrap64 ((wrap64 (x6 + (rd x180000 x7))) + (rd x181000 x7))) 65536]) (wrap64 (Int.tdiv (wrap64 ((wrap64 (x6 + (rd x180000 x7))) + (rd x181000 x7))) 65536)) (wrap64 (x7 + 1)) x180000 x181000) else (none)) else (if x5.length < 17592186044416 then (spec_l2add.l0 k (x5 ++ [Int.tmod (wrap64 (x6 + (rd x180000 x7))) 65536]) (wrap64 (Int.tdiv (wrap64 (x6 + (rd x180000 x7))) 65536)) (wrap64 (x7 + 1)) x180000 x181000) else (none))) else (none)) else (if x7 < (x181000.length : Int) then (if 0 ≤ x7 then (if x5.length < 17592186044416 then (spec_l2add.l0 k (x5 ++ [Int.tmod (wrap64 (x6 + (rd x181000 x7))) 65536]) (wrap64 (Int.tdiv (wrap64 (x6 + (rd x181000 x7))) 65536)) (wrap64 (x7 + 1)) x180000 x181000) else (none)) else (none)) else (if x5.length < 17592186044416 then (spec_l2add.l0 k (x5 ++ [Int.tmod x6 65536]) (wrap64 (Int.tdiv x6 65536)) (wrap64 (x7 + 1)) x180000 x181000) else (none)))) else ((spec_l2norm.f k x5).bind fun t182 => (some t182))
end
def spec_l2add.f (k : Nat) (l0_0 : List Int) (l1_0 : List Int) : Option (List Int) := spec_l2add.l0 k ([] : List Int) 0 0 l0_0 l1_0
theorem spec_l2add.mono_l : ∀ k, (∀ y0 y1 y2 y3 y4, LeO (spec_l2add.l0 k y0 y1 y2 y3 y4) (spec_l2add.l0 (k + 1) y0 y1 y2 y3 y4)) ∧ (∀ y0 y1 y2 y3 y4 y5, LeO (spec_l2add.j1 k y0 y1 y2 y3 y4 y5) (spec_l2add.j1 (k + 1) y0 y1 y2 y3 y4 y5))
 | 0 => ⟨fun _ _ _ _ _ r h => by simp [spec_l2add.l0] at h, fun _ _ _ _ _ _ r h => by simp [spec_l2add.j1] at h⟩
 | k + 1 => by
  obtain ⟨ih0, ih1⟩ := spec_l2add.mono_l k
  refine ⟨?_, ?_⟩
  ·intro y0 y1 y2 y3 y4
   unfold spec_l2add.l0
   repeat' first
   | (with_reducible exact ih0 _ _ _ _ _)
   | (with_reducible exact ih1 _ _ _ _ _ _)
   | (with_reducible exact spec_l2norm.mono _ _)
   | (with_reducible exact LeO.refl _)
   | (with_reducible exact LeO.none _)
   | (with_reducible refine LeO.ite ?_ ?_)
   | (with_reducible refine LeO.bind ?_ (fun _ => ?_))
   | exact ih0 _ _ _ _ _
   | exact ih1 _ _ _ _ _ _
   | exact spec_l2norm.mono _ _
   | exact LeO.none _
   | refine LeO.ite ?_ ?_
   | refine LeO.bind ?_ (fun _ => ?_)
  ·intro y0 y1 y2 y3 y4 y5
   unfold spec_l2add.j1
   repeat' first
   | (with_reducible exact ih0 _ _ _ _ _)
   | (with_reducible exact ih1 _ _ _ _ _ _)
   | (with_reducible exact spec_l2norm.mono _ _)
   | (with_reducible exact LeO.refl _)
   | (with_reducible exact LeO.none _)
   | (with_reducible refine LeO.ite ?_ ?_)
   | (with_reducible refine LeO.bind ?_ (fun _ => ?_))
   | exact ih0 _ _ _ _ _
   | exact ih1 _ _ _ _ _ _
   | exact spec_l2norm.mono _ _
   | exact LeO.none _
   | refine LeO.ite ?_ ?_
   | refine LeO.bind ?_ (fun _ => ?_)
theorem spec_l2add.mono : ∀ a0 a1 k, LeO (spec_l2add.f k a0 a1) (spec_l2add.f (k + 1) a0 a1) := by
 intro a0 a1 k
 obtain ⟨ih0, ih1⟩ := spec_l2add.mono_l k
 unfold spec_l2add.f
 repeat' first
   | (with_reducible exact ih0 _ _ _ _ _)
   | (with_reducible exact ih1 _ _ _ _ _ _)
   | (with_reducible exact spec_l2norm.mono _ _)
   | (with_reducible exact LeO.refl _)
   | (with_reducible exact LeO.none _)
   | (with_reducible refine LeO.ite ?_ ?_)
   | (with_reducible refine LeO.bind ?_ (fun _ => ?_))
   | exact ih0 _ _ _ _ _
   | exact ih1 _ _ _ _ _ _
   | exact spec_l2norm.mono _ _
   | exact LeO.none _
   | refine LeO.ite ?_ ?_
   | refine LeO.bind ?_ (fun _ => ?_)
set_option maxHeartbeats 8000000 in
set_option maxRecDepth 100000 in
theorem spec_l2add.calls (k : Nat) (A0_0 : Option Addr) (c0_0 : Nat) (l0_0 : List Int) (A1_0 : Option Addr) (c1_0 : Nat) (l1_0 : List Int) (r : List Int) (w : World) (hr0_0 : Kd.C (Kd.int .i64) w A0_0 l0_0.length l0_0) (hc0_0 : l0_0.length ≤ c0_0) (hr1_0 : Kd.C (Kd.int .i64) w A1_0 l1_0.length l1_0) (hc1_0 : l1_0.length ≤ c1_0) (h : spec_l2add.f k l0_0 l1_0 = some r) :
  Calls Tryd.prog 40 #[.agg #[.slice A0_0 l0_0.length c0_0], .agg #[.slice A1_0 l1_0.length c1_0]] w fun e w' => ∃ v0_ : Value, e = .returned (.agg #[v0_]) ∧ Kd.R (Kd.int .i64) 3 w' w.heap.size (fun _ => True) v0_ r ∧ Below w.heap.size w w' := by
 have hu30 := Tryd.underlying30
 have HR0_0 := Aside0.mk hr0_0
 have HC0_0 := Aside0.mk hc0_0
 clear hr0_0 hc0_0
 have HR1_0 := Aside0.mk hr1_0
 have HC1_0 := Aside0.mk hc1_0
 clear hr1_0 hc1_0
 have HB := Aside0.mk (Below.refl w.heap.size w)
 have H : (spec_l2add.l0 k ([] : List Int) 0 0 l0_0 l1_0) = some r := h
 clear h
 have H' := Aside0.mk H
 clear H
 go_enter Tryd.func40, Tryd.ntmps40
 go_wp2_with (first | ((with_reducible refine gate_dst (N := 2) rfl ?_); (try (refine gate_guard (by rfl) ?_; dsimp only)); refine hkBox (N := 2) (cs := #[.slice A0_0 l0_0.length c0_0]) (t := 30) ?_; intro gb179 hg w3 hbox hb; have n_ := hkA (hkU HB hb) (hkA (Aside0.mk (hbox)) (hkA (hkG hg (hkS HB)) (hkG hg (hkS HB)))); clear HB; obtain ⟨HB, BK179, GW179, GE179⟩ := n_; clear hb hbox hg) | ((with_reducible refine gate_dst (N := 3) rfl ?_); (try (refine gate_guard (by rfl) ?_; dsimp only)); refine hkBox (N := 3) (cs := #[.slice A1_0 l1_0.length c1_0]) (t := 30) ?_; intro gb180 hg w4 hbox hb; have n_ := hkA (hkBb BK179 hb) (hkA (hkU HB hb) (hkA (Aside0.mk (hbox)) (hkA (hkG hg (hkS HB)) (hkA (hkG hg (hkS HB)) (hkA (hkN hg BK179) (hkM hg BK179)))))); clear BK179 HB; obtain ⟨BK179, HB, BK180, GW180, GE180, NB179_180, NB180_179⟩ := n_; clear hb hbox hg) | ((with_reducible refine gate_dst (N := 4) rfl ?_); (try (refine gate_guard (by rfl) ?_; dsimp only)); refine hkBox (N := 4) (cs := #[.slice none 0 0]) (t := 30) ?_; intro gb181 hg w5 hbox hb; have n_ := hkA (hkBb BK179 hb) (hkA (hkBb BK180 hb) (hkA (hkU HB hb) (hkA (Aside0.mk (hbox)) (hkA (hkG hg (hkS HB)) (hkA (hkG hg (hkS HB)) (hkA (hkN hg BK179) (hkA (hkM hg BK179) (hkA (hkN hg BK180) (hkM hg BK180))))))))); clear BK179 BK180 HB; obtain ⟨BK179, BK180, HB, BK181, GW181, GE181, NB179_181, NB181_179, NB180_181, NB181_180⟩ := n_; clear hb hbox hg))
 go_loopg [5, 6, 7] k (fun kq v5 v6 v7 w' => ∃ (x5_1 : List Int) (x6_1 : Int) (x7_1 : Int), v6 = .int .i64 x6_1 ∧ v7 = .int .i64 x7_1 ∧ Aside0 (spec_l2add.l0 kq x5_1 x6_1 x7_1 l0_0 l1_0 = some r) ∧ Aside0 (kq ≤ k) ∧ Aside0 (Kd.R (Kd.int .i64) 3 w' w.heap.size (fun _ => True) v5 x5_1) ∧ Aside0 (w'.heap[gb179]? = some (.cells #[(.slice A0_0 l0_0.length c0_0)] 30 (0, 0))) ∧ Aside0 (w'.heap[gb180]? = some (.cells #[(.slice A1_0 l1_0.length c1_0)] 30 (0, 0))) ∧ Aside0 (w'.heap[gb181]? = some (.cells #[(.slice none 0 0)] 30 (0, 0))) ∧ Aside0 (Below w.heap.size w w'))
 case atStart => exact ⟨(([] : List Int)), (0), (0), (by first | rfl | (simp; done) | (simp [*]; done)), (by first | rfl | (simp; done) | (simp [*]; done)), H', ⟨Nat.le_refl _⟩, ⟨by first | exact Kd.R_nil _ _ _ _ _ | exact Kd.N_nil _ _ _ _ _ | exact Kd.V_nil _ _ _ _ _ | exact Kd.Q_nil _ _ _ _ _ | exact Kd.S_nil _ _ _ _ _⟩, ⟨by refine hkz ?_; exact BK179.out⟩, ⟨by refine hkz ?_; exact BK180.out⟩, ⟨by refine hkz ?_; exact BK181.out⟩, ⟨hkS HB⟩⟩
 case round =>
  clear H'
  try clear c1
  try clear p2
  try clear c4
  obtain ⟨x5_1, x6_1, x7_1, rfl, rfl, HA, HK1, HO_5, BK179, BK180, BK181, HB⟩ := hrel
  cases gk with
  | zero => exact absurd HA.out (by simp [spec_l2add.l0])
  | succ k1 =>
   have H := HA.out
   clear HA
   simp only [spec_l2add.l0] at H
   have HC6 := Aside0.mk H
   clear H
   go_upto_region 4 with (fail)
   go_cut [24] (fun v24 wc => ∃ (kq : Nat) (x24_5 : Bool), v24 = .bool x24_5 ∧ Aside0 (spec_l2add.j1 kq x5_1 x6_1 x7_1 x24_5 l0_0 l1_0 = some r) ∧ Aside0 (kq ≤ k1) ∧ Aside0 (Kd.R (Kd.int .i64) 3 wc w.heap.size (fun _ => True) u5 x5_1) ∧ Aside0 (wc.heap[gb179]? = some (.cells #[(.slice A0_0 l0_0.length c0_0)] 30 (0, 0))) ∧ Aside0 (wc.heap[gb180]? = some (.cells #[(.slice A1_0 l1_0.length c1_0)] 30 (0, 0))) ∧ Aside0 (wc.heap[gb181]? = some (.cells #[(.slice none 0 0)] 30 (0, 0))) ∧ Aside0 (Below w.heap.size w wc))
   case first =>
    have H := HC6.out
    clear HC6
    by_cases c7 : x7_1 < (l0_0.length : Int)
    ·rw [if_pos c7] at H
     have c7b0 : decide (x7_1 < (l0_0.length : Int)) = true := decide_eq_true c7
     clear c7
     (first | rw [c7b0] | (simp only [i64_w, i32_w]; rw [c7b0]) | skip)
     have H' := Aside0.mk H
     clear H
     have hnb8 := NB179_180.out
     have hnc8 := NB180_179.out
     have hnb9 := NB179_181.out
     have hnc9 := NB181_179.out
     obtain ⟨hcz10_0, hfz10_0⟩ := hkc1 BK179
     go_wp2
     go_meet
     case rel => exact ⟨_, (true), (by first | rfl | (simp; done) | (simp [*]; done)), H', ⟨by have := HK1.out; first | omega | exact Nat.le_refl _⟩, ⟨by (with_reducible repeat (first | apply Kd.R_alloc | apply Kd.R_drewN | apply Kd.R_drew)); exact HO_5.out⟩, ⟨by refine hkz ?_; exact BK179.out⟩, ⟨by refine hkz ?_; exact BK180.out⟩, ⟨by refine hkz ?_; exact BK181.out⟩, ⟨hkS HB⟩⟩
    ·rw [if_neg c7] at H
     have c7b0 : decide (x7_1 < (l0_0.length : Int)) = false := decide_eq_false c7
     clear c7
     (first | rw [c7b0] | (simp only [i64_w, i32_w]; rw [c7b0]) | skip)
     by_cases c11 : x7_1 < (l1_0.length : Int)
     ·rw [if_pos c11] at H
      have c11b0 : decide (x7_1 < (l1_0.length : Int)) = true := decide_eq_true c11
      clear c11
      have H' := Aside0.mk H
      clear H
      have hnb12 := NB179_180.out
      have hnc12 := NB180_179.out
      have hnb13 := NB179_181.out
      have hnc13 := NB181_179.out
      obtain ⟨hcz14_0, hfz14_0⟩ := hkc1 BK179
      have hnb15 := NB180_181.out
      have hnc15 := NB181_180.out
      obtain ⟨hcz16_0, hfz16_0⟩ := hkc1 BK180
      go_wp2
      go_meet
      case rel => exact ⟨_, (true), (by first | rfl | (simp; done) | (simp [*]; done)), H', ⟨by have := HK1.out; first | omega | exact Nat.le_refl _⟩, ⟨by (with_reducible repeat (first | apply Kd.R_alloc | apply Kd.R_drewN | apply Kd.R_drew)); exact HO_5.out⟩, ⟨by refine hkz ?_; exact BK179.out⟩, ⟨by refine hkz ?_; exact BK180.out⟩, ⟨by refine hkz ?_; exact BK181.out⟩, ⟨hkS HB⟩⟩
     ·rw [if_neg c11] at H
      have c11b0 : decide (x7_1 < (l1_0.length : Int)) = false := decide_eq_false c11
      clear c11
      have H' := Aside0.mk H
      clear H
      have hnb17 := NB179_180.out
      have hnc17 := NB180_179.out
      have hnb18 := NB179_181.out
      have hnc18 := NB181_179.out
      obtain ⟨hcz19_0, hfz19_0⟩ := hkc1 BK179
      have hnb20 := NB180_181.out
      have hnc20 := NB181_180.out
      obtain ⟨hcz21_0, hfz21_0⟩ := hkc1 BK180
      go_wp2
      go_meet
      case rel => exact ⟨_, (decide (x6_1 > 0)), (by first | rfl | (simp; done) | (simp [*]; done)), H', ⟨by have := HK1.out; first | omega | exact Nat.le_refl _⟩, ⟨by (with_reducible repeat (first | apply Kd.R_alloc | apply Kd.R_drewN | apply Kd.R_drew)); exact HO_5.out⟩, ⟨by refine hkz ?_; exact BK179.out⟩, ⟨by refine hkz ?_; exact BK180.out⟩, ⟨by refine hkz ?_; exact BK181.out⟩, ⟨hkS HB⟩⟩
   case rest =>
    clear HC6
    try clear c1
    try clear c2
    try clear p2
    try clear c4
    try clear c7
    try clear c7b0
    try clear c8
    try clear c9
    try clear c11
    try clear c11b0
    try clear c12
    try clear c13
    try clear c15
    try clear c17
    try clear c18
    try clear c20
    try clear hcz10_0 hcz14_0 hcz16_0 hcz19_0 hcz21_0 hfz10_0 hfz14_0 hfz16_0 hfz19_0 hfz21_0
    try clear p2
    obtain ⟨kq, x24_5, rfl, HA, HJ5, HO_5, BK179, BK180, BK181, HB⟩ := hcut
    cases kq with
    | zero => exact absurd HA.out (by simp [spec_l2add.j1])
    | succ kj5 =>
     have H := HA.out
     clear HA
     simp only [spec_l2add.j1] at H
     by_cases c22 : x24_5 = true
     ·subst c22
      have H1 : (if x7_1 < (l0_0.length : Int) then (if 0 ≤ x7_1 then (if x7_1 < (l1_0.length : Int) then (if x5_1.length < 17592186044416 then (spec_l2add.l0 kj5 (x5_1 ++ [Int.tmod (wrap64 ((wrap64 (x6_1 + (rd l0_0 x7_1))) + (rd l1_0 x7_1))) 65536]) (wrap64 (Int.tdiv (wrap64 ((wrap64 (x6_1 + (rd l0_0 x7_1))) + (rd l1_0 x7_1))) 65536)) (wrap64 (x7_1 + 1)) l0_0 l1_0) else (none)) else (if x5_1.length < 17592186044416 then (spec_l2add.l0 kj5 (x5_1 ++ [Int.tmod (wrap64 (x6_1 + (rd l0_0 x7_1))) 65536]) (wrap64 (Int.tdiv (wrap64 (x6_1 + (rd l0_0 x7_1))) 65536)) (wrap64 (x7_1 + 1)) l0_0 l1_0) else (none))) else (none)) else (if x7_1 < (l1_0.length : Int) then (if 0 ≤ x7_1 then (if x5_1.length < 17592186044416 then (spec_l2add.l0 kj5 (x5_1 ++ [Int.tmod (wrap64 (x6_1 + (rd l1_0 x7_1))) 65536]) (wrap64 (Int.tdiv (wrap64 (x6_1 + (rd l1_0 x7_1))) 65536)) (wrap64 (x7_1 + 1)) l0_0 l1_0) else (none)) else (none)) else (if x5_1.length < 17592186044416 then (spec_l2add.l0 kj5 (x5_1 ++ [Int.tmod x6_1 65536]) (wrap64 (Int.tdiv x6_1 65536)) (wrap64 (x7_1 + 1)) l0_0 l1_0) else (none)))) = some r := by rw [if_pos rfl] at H; exact H
      clear H
      have H := H1
      clear H1
      by_cases c23 : x7_1 < (l0_0.length : Int)
      ·rw [if_pos c23] at H
       have c23b0 : decide (x7_1 < (l0_0.length : Int)) = true := decide_eq_true c23
       clear c23
       by_cases c24 : 0 ≤ x7_1
       ·rw [if_pos c24] at H
        have c24b0 : decide (0 ≤ x7_1) = true := decide_eq_true c24
        clear c24
        by_cases c25 : x7_1 < (l1_0.length : Int)
        ·rw [if_pos c25] at H
         have c25b0 : decide (x7_1 < (l1_0.length : Int)) = true := decide_eq_true c25
         clear c25
         by_cases c26 : x5_1.length < 17592186044416
         ·rw [if_pos c26] at H
          have LMc26 := Aside0.mk c26
          clear c26
          obtain ⟨y187, hy187⟩ : ∃ y_ : List Int, y_ = (x5_1 ++ [Int.tmod (wrap64 ((wrap64 (x6_1 + (rd l0_0 x7_1))) + (rd l1_0 x7_1))) 65536]) := ⟨_, rfl⟩
          replace H : (spec_l2add.l0 kj5 y187 (wrap64 (Int.tdiv (wrap64 ((wrap64 (x6_1 + (rd l0_0 x7_1))) + (rd l1_0 x7_1))) 65536)) (wrap64 (x7_1 + 1)) l0_0 l1_0) = some r := by first | (rw [hy187]; with_reducible exact H) | (have H2_ := (Option.bind_some _ _).symm.trans H; rw [hy187]; with_reducible exact H2_) | (have H2_ := (Option.bind_some _ _).symm.trans H; with_reducible exact H2_) | with_reducible exact H | (rw [hy187]; exact H) | exact H
          have Ny187 := Aside0.mk hy187
          clear hy187
          have H' := Aside0.mk H
          clear H
          have hnb27 := NB179_180.out
          have hnc27 := NB180_179.out
          have hnb28 := NB179_181.out
          have hnc28 := NB181_179.out
          obtain ⟨hcz29_0, hfz29_0⟩ := hkc1 BK179
          have p185 : 0 ≤ (x7_1 : Int) := of_decide_eq_true (by first | (with_reducible assumption) | assumption)
          have q185 : x7_1 < (l0_0.length : Int) := of_decide_eq_true (by first | (with_reducible assumption) | assumption)
          obtain ⟨ad185, e185, hx185_0⟩ := Kd.at_int HR0_0.out x7_1 p185 q185
          cases e185
          replace hx185_0 := (HB.out.cell (World.block_lt_of_cell? w _ hx185_0)).trans hx185_0
          replace p185 := eq_true p185
          replace q185 := eq_true q185
          have hnb30 := NB180_181.out
          have hnc30 := NB181_180.out
          obtain ⟨hcz31_0, hfz31_0⟩ := hkc1 BK180
          have p186 : 0 ≤ (x7_1 : Int) := of_decide_eq_true (by first | (with_reducible assumption) | assumption)
          have q186 : x7_1 < (l1_0.length : Int) := of_decide_eq_true (by first | (with_reducible assumption) | assumption)
          obtain ⟨ad186, e186, hx186_0⟩ := Kd.at_int HR1_0.out x7_1 p186 q186
          cases e186
          replace hx186_0 := (HB.out.cell (World.block_lt_of_cell? w _ hx186_0)).trans hx186_0
          replace p186 := eq_true p186
          replace q186 := eq_true q186
          go_wp2_with (first | ((with_reducible refine gate_builtin (b := .append) (xs := #[.tmp 52, .tmp 55]) rfl ?_); (try (refine gate_guard (by rfl) ?_; dsimp only)); at_builtin; refine Kd.R_append (Kd.int .i64) (w0 := w) w.heap.size rfl (.tmp 52) (.tmp 55) 22 3 (.int .i64 0) 8 rfl Tryd.underlying22 info3 rfl (by decide) (by omega) u5 x5_1 (Int.tmod (wrap64 ((wrap64 (x6_1 + (rd l0_0 x7_1))) + (rd l1_0 x7_1))) 65536) [.int .i64 (Int.tmod (wrap64 ((wrap64 (x6_1 + (rd l0_0 x7_1))) + (rd l1_0 x7_1))) 65536)] (fun _ => True) (fun _ => False) rfl rfl ?aP (fun _ hk => hk.elim) ?aF ?aO ?aB ?aS ?aL ?_; (case aP => exact rfl); (case aB => exact (hkS HB)); (case aF => exact (fun _ _ => trivial)); (case aO => exact (hkR HO_5)); (case aS => exact (below_size (hkS HB))); (case aL => have := LMc26.out; omega); intro v188 w32 ho hb hg hat; rw [← Ny187.out] at ho; have n_ := hkA (Aside0.mk (blk_grown (g := gb179) (o := .cells #[.slice (some ad185) l0_0.length c0_0] 30 (0, 0)) (hkB BK179) hg (Kd.R_ne HO_5.out BK179.out (by decide)))) (hkA (Aside0.mk (blk_grown (g := gb180) (o := .cells #[.slice (some ad186) l1_0.length c1_0] 30 (0, 0)) (hkB BK180) hg (Kd.R_ne HO_5.out BK180.out (by decide)))) (hkA (Aside0.mk (blk_grown (g := gb181) (o := .cells #[.slice none 0 0] 30 (0, 0)) (hkB BK181) hg (Kd.R_ne HO_5.out BK181.out (by decide)))) (hkA (Aside0.mk (hb)) (Aside0.mk (ho))))); clear BK179 BK180 BK181 HB HO_5; obtain ⟨BK179, BK180, BK181, HB, HO189⟩ := n_; clear ho hb hg hat))
          go_roundg kj5
          case measure => have := HK1.out; have := HJ5.out; omega
          case rel => exact ⟨(y187), (wrap64 (Int.tdiv (wrap64 ((wrap64 (x6_1 + (rd l0_0 x7_1))) + (rd l1_0 x7_1))) 65536)), (wrap64 (x7_1 + 1)), (by first | rfl | (simp; done) | (simp [*]; done)), (by first | rfl | (simp; done) | (simp [*]; done)), H', ⟨by have := HK1.out; have := HJ5.out; omega⟩, ⟨by (with_reducible repeat (first | apply Kd.R_alloc | apply Kd.R_drewN | apply Kd.R_drew)); exact HO189.out⟩, ⟨by refine hkz ?_; exact BK179.out⟩, ⟨by refine hkz ?_; exact BK180.out⟩, ⟨by refine hkz ?_; exact BK181.out⟩, ⟨hkS HB⟩⟩
         ·rw [if_neg c26] at H
          exact absurd H (by simp)
        ·rw [if_neg c25] at H
         have c25b0 : decide (x7_1 < (l1_0.length : Int)) = false := decide_eq_false c25
         clear c25
         by_cases c33 : x5_1.length < 17592186044416
         ·rw [if_pos c33] at H
          have LMc33 := Aside0.mk c33
          clear c33
          obtain ⟨y190, hy190⟩ : ∃ y_ : List Int, y_ = (x5_1 ++ [Int.tmod (wrap64 (x6_1 + (rd l0_0 x7_1))) 65536]) := ⟨_, rfl⟩
          replace H : (spec_l2add.l0 kj5 y190 (wrap64 (Int.tdiv (wrap64 (x6_1 + (rd l0_0 x7_1))) 65536)) (wrap64 (x7_1 + 1)) l0_0 l1_0) = some r := by first | (rw [hy190]; with_reducible exact H) | (have H2_ := (Option.bind_some _ _).symm.trans H; rw [hy190]; with_reducible exact H2_) | (have H2_ := (Option.bind_some _ _).symm.trans H; with_reducible exact H2_) | with_reducible exact H | (rw [hy190]; exact H) | exact H
          have Ny190 := Aside0.mk hy190
          clear hy190
          have H' := Aside0.mk H
          clear H
          have hnb34 := NB179_180.out
          have hnc34 := NB180_179.out
          have hnb35 := NB179_181.out
          have hnc35 := NB181_179.out
          obtain ⟨hcz36_0, hfz36_0⟩ := hkc1 BK179
          have p185 : 0 ≤ (x7_1 : Int) := of_decide_eq_true (by first | (with_reducible assumption) | assumption)
          have q185 : x7_1 < (l0_0.length : Int) := of_decide_eq_true (by first | (with_reducible assumption) | assumption)
          obtain ⟨ad185, e185, hx185_0⟩ := Kd.at_int HR0_0.out x7_1 p185 q185
          cases e185
          replace hx185_0 := (HB.out.cell (World.block_lt_of_cell? w _ hx185_0)).trans hx185_0
          replace p185 := eq_true p185
          replace q185 := eq_true q185
          have hnb37 := NB180_181.out
          have hnc37 := NB181_180.out
          obtain ⟨hcz38_0, hfz38_0⟩ := hkc1 BK180
          go_wp2_with (first | ((with_reducible refine gate_builtin (b := .append) (xs := #[.tmp 52, .tmp 55]) rfl ?_); (try (refine gate_guard (by rfl) ?_; dsimp only)); at_builtin; refine Kd.R_append (Kd.int .i64) (w0 := w) w.heap.size rfl (.tmp 52) (.tmp 55) 22 3 (.int .i64 0) 8 rfl Tryd.underlying22 info3 rfl (by decide) (by omega) u5 x5_1 (Int.tmod (wrap64 (x6_1 + (rd l0_0 x7_1))) 65536) [.int .i64 (Int.tmod (wrap64 (x6_1 + (rd l0_0 x7_1))) 65536)] (fun _ => True) (fun _ => False) rfl rfl ?aP (fun _ hk => hk.elim) ?aF ?aO ?aB ?aS ?aL ?_; (case aP => exact rfl); (case aB => exact (hkS HB)); (case aF => exact (fun _ _ => trivial)); (case aO => exact (hkR HO_5)); (case aS => exact (below_size (hkS HB))); (case aL => have := LMc33.out; omega); intro v191 w39 ho hb hg hat; rw [← Ny190.out] at ho; have n_ := hkA (Aside0.mk (blk_grown (g := gb179) (o := .cells #[.slice (some ad185) l0_0.length c0_0] 30 (0, 0)) (hkB BK179) hg (Kd.R_ne HO_5.out BK179.out (by decide)))) (hkA (Aside0.mk (blk_grown (g := gb180) (o := .cells #[.slice A1_0 l1_0.length c1_0] 30 (0, 0)) (hkB BK180) hg (Kd.R_ne HO_5.out BK180.out (by decide)))) (hkA (Aside0.mk (blk_grown (g := gb181) (o := .cells #[.slice none 0 0] 30 (0, 0)) (hkB BK181) hg (Kd.R_ne HO_5.out BK181.out (by decide)))) (hkA (Aside0.mk (hb)) (Aside0.mk (ho))))); clear BK179 BK180 BK181 HB HO_5; obtain ⟨BK179, BK180, BK181, HB, HO192⟩ := n_; clear ho hb hg hat))
          go_roundg kj5
          case measure => have := HK1.out; have := HJ5.out; omega
          case rel => exact ⟨(y190), (wrap64 (Int.tdiv (wrap64 (x6_1 + (rd l0_0 x7_1))) 65536)), (wrap64 (x7_1 + 1)), (by first | rfl | (simp; done) | (simp [*]; done)), (by first | rfl | (simp; done) | (simp [*]; done)), H', ⟨by have := HK1.out; have := HJ5.out; omega⟩, ⟨by (with_reducible repeat (first | apply Kd.R_alloc | apply Kd.R_drewN | apply Kd.R_drew)); exact HO192.out⟩, ⟨by refine hkz ?_; exact BK179.out⟩, ⟨by refine hkz ?_; exact BK180.out⟩, ⟨by refine hkz ?_; exact BK181.out⟩, ⟨hkS HB⟩⟩
         ·rw [if_neg c33] at H
          exact absurd H (by simp)
       ·rw [if_neg c24] at H
        exact absurd H (by simp)
      ·rw [if_neg c23] at H
       have c23b0 : decide (x7_1 < (l0_0.length : Int)) = false := decide_eq_false c23
       clear c23
       by_cases c40 : x7_1 < (l1_0.length : Int)
       ·rw [if_pos c40] at H
        have c40b0 : decide (x7_1 < (l1_0.length : Int)) = true := decide_eq_true c40
        clear c40
        by_cases c41 : 0 ≤ x7_1
        ·rw [if_pos c41] at H
         have c41b0 : decide (0 ≤ x7_1) = true := decide_eq_true c41
         clear c41
         by_cases c42 : x5_1.length < 17592186044416
         ·rw [if_pos c42] at H
          have LMc42 := Aside0.mk c42
          clear c42
          obtain ⟨y194, hy194⟩ : ∃ y_ : List Int, y_ = (x5_1 ++ [Int.tmod (wrap64 (x6_1 + (rd l1_0 x7_1))) 65536]) := ⟨_, rfl⟩
          replace H : (spec_l2add.l0 kj5 y194 (wrap64 (Int.tdiv (wrap64 (x6_1 + (rd l1_0 x7_1))) 65536)) (wrap64 (x7_1 + 1)) l0_0 l1_0) = some r := by first | (rw [hy194]; with_reducible exact H) | (have H2_ := (Option.bind_some _ _).symm.trans H; rw [hy194]; with_reducible exact H2_) | (have H2_ := (Option.bind_some _ _).symm.trans H; with_reducible exact H2_) | with_reducible exact H | (rw [hy194]; exact H) | exact H
          have Ny194 := Aside0.mk hy194
          clear hy194
          have H' := Aside0.mk H
          clear H
          have hnb43 := NB179_180.out
          have hnc43 := NB180_179.out
          have hnb44 := NB179_181.out
          have hnc44 := NB181_179.out
          obtain ⟨hcz45_0, hfz45_0⟩ := hkc1 BK179
          have hnb46 := NB180_181.out
          have hnc46 := NB181_180.out
          obtain ⟨hcz47_0, hfz47_0⟩ := hkc1 BK180
          have p193 : 0 ≤ (x7_1 : Int) := of_decide_eq_true (by first | (with_reducible assumption) | assumption)
          have q193 : x7_1 < (l1_0.length : Int) := of_decide_eq_true (by first | (with_reducible assumption) | assumption)
          obtain ⟨ad193, e193, hx193_0⟩ := Kd.at_int HR1_0.out x7_1 p193 q193
          cases e193
          replace hx193_0 := (HB.out.cell (World.block_lt_of_cell? w _ hx193_0)).trans hx193_0
          replace p193 := eq_true p193
          replace q193 := eq_true q193
          go_wp2_with (first | ((with_reducible refine gate_builtin (b := .append) (xs := #[.tmp 52, .tmp 55]) rfl ?_); (try (refine gate_guard (by rfl) ?_; dsimp only)); at_builtin; refine Kd.R_append (Kd.int .i64) (w0 := w) w.heap.size rfl (.tmp 52) (.tmp 55) 22 3 (.int .i64 0) 8 rfl Tryd.underlying22 info3 rfl (by decide) (by omega) u5 x5_1 (Int.tmod (wrap64 (x6_1 + (rd l1_0 x7_1))) 65536) [.int .i64 (Int.tmod (wrap64 (x6_1 + (rd l1_0 x7_1))) 65536)] (fun _ => True) (fun _ => False) rfl rfl ?aP (fun _ hk => hk.elim) ?aF ?aO ?aB ?aS ?aL ?_; (case aP => exact rfl); (case aB => exact (hkS HB)); (case aF => exact (fun _ _ => trivial)); (case aO => exact (hkR HO_5)); (case aS => exact (below_size (hkS HB))); (case aL => have := LMc42.out; omega); intro v195 w48 ho hb hg hat; rw [← Ny194.out] at ho; have n_ := hkA (Aside0.mk (blk_grown (g := gb179) (o := .cells #[.slice A0_0 l0_0.length c0_0] 30 (0, 0)) (hkB BK179) hg (Kd.R_ne HO_5.out BK179.out (by decide)))) (hkA (Aside0.mk (blk_grown (g := gb180) (o := .cells #[.slice (some ad193) l1_0.length c1_0] 30 (0, 0)) (hkB BK180) hg (Kd.R_ne HO_5.out BK180.out (by decide)))) (hkA (Aside0.mk (blk_grown (g := gb181) (o := .cells #[.slice none 0 0] 30 (0, 0)) (hkB BK181) hg (Kd.R_ne HO_5.out BK181.out (by decide)))) (hkA (Aside0.mk (hb)) (Aside0.mk (ho))))); clear BK179 BK180 BK181 HB HO_5; obtain ⟨BK179, BK180, BK181, HB, HO196⟩ := n_; clear ho hb hg hat))
          go_roundg kj5
          case measure => have := HK1.out; have := HJ5.out; omega
          case rel => exact ⟨(y194), (wrap64 (Int.tdiv (wrap64 (x6_1 + (rd l1_0 x7_1))) 65536)), (wrap64 (x7_1 + 1)), (by first | rfl | (simp; done) | (simp [*]; done)), (by first | rfl | (simp; done) | (simp [*]; done)), H', ⟨by have := HK1.out; have := HJ5.out; omega⟩, ⟨by (with_reducible repeat (first | apply Kd.R_alloc | apply Kd.R_drewN | apply Kd.R_drew)); exact HO196.out⟩, ⟨by refine hkz ?_; exact BK179.out⟩, ⟨by refine hkz ?_; exact BK180.out⟩, ⟨by refine hkz ?_; exact BK181.out⟩, ⟨hkS HB⟩⟩
         ·rw [if_neg c42] at H
          exact absurd H (by simp)
        ·rw [if_neg c41] at H
         exact absurd H (by simp)
       ·rw [if_neg c40] at H
        have c40b0 : decide (x7_1 < (l1_0.length : Int)) = false := decide_eq_false c40
        clear c40
        by_cases c49 : x5_1.length < 17592186044416
        ·rw [if_pos c49] at H
         have LMc49 := Aside0.mk c49
         clear c49
         obtain ⟨y197, hy197⟩ : ∃ y_ : List Int, y_ = (x5_1 ++ [Int.tmod x6_1 65536]) := ⟨_, rfl⟩
         replace H : (spec_l2add.l0 kj5 y197 (wrap64 (Int.tdiv x6_1 65536)) (wrap64 (x7_1 + 1)) l0_0 l1_0) = some r := by first | (rw [hy197]; with_reducible exact H) | (have H2_ := (Option.bind_some _ _).symm.trans H; rw [hy197]; with_reducible exact H2_) | (have H2_ := (Option.bind_some _ _).symm.trans H; with_reducible exact H2_) | with_reducible exact H | (rw [hy197]; exact H) | exact H
         have Ny197 := Aside0.mk hy197
         clear hy197
         have H' := Aside0.mk H
         clear H
         have hnb50 := NB179_180.out
         have hnc50 := NB180_179.out
         have hnb51 := NB179_181.out
         have hnc51 := NB181_179.out
         obtain ⟨hcz52_0, hfz52_0⟩ := hkc1 BK179
         have hnb53 := NB180_181.out
         have hnc53 := NB181_180.out
         obtain ⟨hcz54_0, hfz54_0⟩ := hkc1 BK180
         go_wp2_with (first | ((with_reducible refine gate_builtin (b := .append) (xs := #[.tmp 52, .tmp 55]) rfl ?_); (try (refine gate_guard (by rfl) ?_; dsimp only)); at_builtin; refine Kd.R_append (Kd.int .i64) (w0 := w) w.heap.size rfl (.tmp 52) (.tmp 55) 22 3 (.int .i64 0) 8 rfl Tryd.underlying22 info3 rfl (by decide) (by omega) u5 x5_1 (Int.tmod x6_1 65536) [.int .i64 (Int.tmod x6_1 65536)] (fun _ => True) (fun _ => False) rfl rfl ?aP (fun _ hk => hk.elim) ?aF ?aO ?aB ?aS ?aL ?_; (case aP => exact rfl); (case aB => exact (hkS HB)); (case aF => exact (fun _ _ => trivial)); (case aO => exact (hkR HO_5)); (case aS => exact (below_size (hkS HB))); (case aL => have := LMc49.out; omega); intro v198 w55 ho hb hg hat; rw [← Ny197.out] at ho; have n_ := hkA (Aside0.mk (blk_grown (g := gb179) (o := .cells #[.slice A0_0 l0_0.length c0_0] 30 (0, 0)) (hkB BK179) hg (Kd.R_ne HO_5.out BK179.out (by decide)))) (hkA (Aside0.mk (blk_grown (g := gb180) (o := .cells #[.slice A1_0 l1_0.length c1_0] 30 (0, 0)) (hkB BK180) hg (Kd.R_ne HO_5.out BK180.out (by decide)))) (hkA (Aside0.mk (blk_grown (g := gb181) (o := .cells #[.slice none 0 0] 30 (0, 0)) (hkB BK181) hg (Kd.R_ne HO_5.out BK181.out (by decide)))) (hkA (Aside0.mk (hb)) (Aside0.mk (ho))))); clear BK179 BK180 BK181 HB HO_5; obtain ⟨BK179, BK180, BK181, HB, HO199⟩ := n_; clear ho hb hg hat))
         go_roundg kj5
         case measure => have := HK1.out; have := HJ5.out; omega
         case rel => exact ⟨(y197), (wrap64 (Int.tdiv x6_1 65536)), (wrap64 (x7_1 + 1)), (by first | rfl | (simp; done) | (simp [*]; done)), (by first | rfl | (simp; done) | (simp [*]; done)), H', ⟨by have := HK1.out; have := HJ5.out; omega⟩, ⟨by (with_reducible repeat (first | apply Kd.R_alloc | apply Kd.R_drewN | apply Kd.R_drew)); exact HO199.out⟩, ⟨by refine hkz ?_; exact BK179.out⟩, ⟨by refine hkz ?_; exact BK180.out⟩, ⟨by refine hkz ?_; exact BK181.out⟩, ⟨hkS HB⟩⟩
        ·rw [if_neg c49] at H
         exact absurd H (by simp)
     ·replace c22 := Bool.eq_false_iff.mpr c22
      subst c22
      have H1 : ((spec_l2norm.f kj5 x5_1).bind fun t182 => (some t182)) = some r := by rw [if_neg (show ¬ (false = true) by decide)] at H; exact H
      clear H
      have H := H1
      clear H1
      replace H := hBi H
      obtain ⟨t182, A560, H⟩ := H
      replace H : (some t182) = some r := H
      have A56 := Aside0.mk A560
      clear A560
      obtain rfl := Option.some.inj H
      obtain ⟨Ao57, co57, eo57⟩ := Kd.R_slice HO_5.out
      subst eo57
      go_wp2_with (first | ((with_reducible refine gate_callee (f := 38) rfl ?_); refine hkGo (N := some 60) Tryd.func38 #[.slice Ao57 x5_1.length co57] ?_; (with_reducible refine (spec_l2norm.calls kj5 _ _ x5_1 t182 _ ?side1 ?side2 A56.out).mono ?_); (case side1 => exact hkC ((Kd.R_reads' HO_5.out).2.2)); (case side2 => exact (Kd.R_reads' HO_5.out).2.1); rintro e w58 ⟨v183, rfl, ho0, hb⟩; refine ⟨_, rfl, ?_⟩; have n_ := hkA (Aside0.mk (Kd.R_elder' (hkR HO_5) (Kd.R_base ho0) hb)) (hkA (Aside0.mk (Kd.R_lower (Kd.R_new' ho0 (Kd.R_lt (hkR HO_5))) (below_size (hkS HB)))) (hkA (hkBb BK179 hb) (hkA (hkBb BK180 hb) (hkA (hkBb BK181 hb) (hkU HB hb))))); clear HO_5 BK179 BK180 BK181 HB; obtain ⟨HO_5, HO184, BK179, BK180, BK181, HB⟩ := n_; (try clear hb); (try clear ho0); obtain ⟨Ao59, co59, eo59⟩ := Kd.R_slice HO184.out; subst eo59; have hnb60 := NB181_179.out; have hnc60 := NB179_181.out; have hnb61 := NB181_180.out; have hnc61 := NB180_181.out; obtain ⟨hcz62_0, hfz62_0⟩ := hkc1 BK181))
      refine bodyPost_ret (results_cell_row rfl _ _ gb181 30 #[.slice Ao59 t182.length co59] (0, 0) _ rfl hkPp Tryd.underlying30 rfl (by kernel_rfl)) rfl ?_
      exact ⟨_, hkE, by (with_reducible repeat (first | apply Kd.R_alloc | apply Kd.R_drewN | apply Kd.R_drew)); exact Kd.R_mono (Kd.R_far (p := ⟨gb181, 0, none⟩) (Kd.R_types HO184.out BK181.out (by decide)) (fun _ hk => hk.2) (.slice Ao59 t182.length co59)) (fun _ hk => trivial), hkS HB⟩

end Go.Proofs.YthmieecgojiliaaDoor.PFnExactDecText
