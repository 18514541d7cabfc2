-- Written by our own driver (wip/hand/hprint.py) over the seat's translation.
import Derived.Test.YthmieecgojiliaaDoorPFnExactDecTextx0
namespace Go.Proofs.YthmieecgojiliaaDoor.PFnExactDecText
open Go.RowKit Go.Proofs.YthmieecgojiliaaDoorW.PrintWords Go.Proofs.YthmieecgojiliaaDoorW.PrintLast Go.Proofs.YthmieecgojiliaaDoorW.PrintMore
attribute [local go_sem] max2_int min2_int max_two min_two max_three min_three max_four min_four   -- for this text's walks alone
set_option linter.unusedVariables false
set_option linter.unusedSimpArgs false

/-! ### strconv_Itoa_32: function 32 -/
def strconv_Itoa_32.f (a0 : Int) : Option (ByteArray) := if -9223372036854775808 ≤ a0 ∧ a0 ≤ 9223372036854775807 then some ⟨(Go.Lib.itoa a0).toArray⟩ else none
/-- The numbers of this seat, by those of the shelf. -/
def strconv_Itoa_32.ren : Go.Shelf.Ren := ⟨fun | 171 => 32 | 243 => 46 | 246 => 51 | 283 => 55 | 284 => 56 | 285 => 57 | 286 => 58 | 129 => 60 | 317 => 59 | 318 => 61 | 319 => 62 | 320 => 63 | 337 => 64 | 338 => 65 | n => n, fun | 3 => 3 | 9 => 9 | 2 => 2 | 4 => 4 | 171 => 82 | 0 => 0 | 53 => 78 | 37 => 28 | 5 => 5 | 173 => 85 | 212 => 89 | 51 => 75 | 20 => 20 | 213 => 90 | 46 => 70 | 232 => 93 | 233 => 94 | n => n, fun | 17 => 0 | 18 => 1 | 19 => 2 | n => n⟩
theorem strconv_Itoa_32.lays : Go.Proofs.LaysM.n171 Tryd.prog strconv_Itoa_32.ren where
 mixed := by kernel_rfl
 f129 := Tryd.func60.trans (congrArg some (by kernel_rfl))
 f171 := Tryd.func32.trans (congrArg some (by kernel_rfl))
 f243 := Tryd.func46.trans (congrArg some (by kernel_rfl))
 f246 := Tryd.func51.trans (congrArg some (by kernel_rfl))
 f283 := Tryd.func55.trans (congrArg some (by kernel_rfl))
 f284 := Tryd.func56.trans (congrArg some (by kernel_rfl))
 f285 := Tryd.func57.trans (congrArg some (by kernel_rfl))
 f286 := Tryd.func58.trans (congrArg some (by kernel_rfl))
 f317 := Tryd.func59.trans (congrArg some (by kernel_rfl))
 f318 := Tryd.func61.trans (congrArg some (by kernel_rfl))
 f319 := Tryd.func62.trans (congrArg some (by kernel_rfl))
 f320 := Tryd.func63.trans (congrArg some (by kernel_rfl))
 f337 := Tryd.func64.trans (congrArg some (by kernel_rfl))
 f338 := Tryd.func65.trans (congrArg some (by kernel_rfl))
 t0 := Tryd.underlying0
 a0 := Tryd.isAgg0
 z0 := Tryd.sizeOf0
 v0 := Tryd.zeroValue0
 t2 := Tryd.underlying2
 a2 := Tryd.isAgg2
 z2 := Tryd.sizeOf2
 v2 := Tryd.zeroValue2
 t3 := Tryd.underlying3
 a3 := Tryd.isAgg3
 z3 := Tryd.sizeOf3
 v3 := Tryd.zeroValue3
 t4 := Tryd.underlying4
 a4 := Tryd.isAgg4
 z4 := Tryd.sizeOf4
 v4 := Tryd.zeroValue4
 t5 := Tryd.underlying5
 a5 := Tryd.isAgg5
 z5 := Tryd.sizeOf5
 v5 := Tryd.zeroValue5
 t9 := Tryd.underlying9
 a9 := Tryd.isAgg9
 z9 := Tryd.sizeOf9
 v9 := Tryd.zeroValue9
 t20 := Tryd.underlying20
 a20 := Tryd.isAgg20
 z20 := Tryd.sizeOf20
 v20 := Tryd.zeroValue20
 t37 := Tryd.underlying28
 a37 := Tryd.isAgg28
 z37 := Tryd.sizeOf28
 v37 := Tryd.zeroValue28
 t46 := Tryd.underlying70
 a46 := Tryd.isAgg70
 z46 := Tryd.sizeOf70
 v46 := Tryd.zeroValue70
 t51 := Tryd.underlying75
 a51 := Tryd.isAgg75
 z51 := Tryd.sizeOf75
 v51 := Tryd.zeroValue75
 t53 := Tryd.underlying78
 a53 := Tryd.isAgg78
 z53 := Tryd.sizeOf78
 v53 := Tryd.zeroValue78
 t171 := Tryd.underlying82
 a171 := Tryd.isAgg82
 z171 := Tryd.sizeOf82
 v171 := Tryd.zeroValue82
 t173 := Tryd.underlying85
 a173 := Tryd.isAgg85
 z173 := Tryd.sizeOf85
 v173 := Tryd.zeroValue85
 t212 := Tryd.underlying89
 a212 := Tryd.isAgg89
 z212 := Tryd.sizeOf89
 v212 := Tryd.zeroValue89
 t213 := Tryd.underlying90
 a213 := Tryd.isAgg90
 z213 := Tryd.sizeOf90
 t232 := Tryd.underlying93
 a232 := Tryd.isAgg93
 z232 := Tryd.sizeOf93
 v232 := Tryd.zeroValue93
 t233 := Tryd.underlying94
 a233 := Tryd.isAgg94
 z233 := Tryd.sizeOf94
 v233 := Tryd.zeroValue94
 g17 := by kernel_rfl
 g18 := by kernel_rfl
 g19 := by kernel_rfl
 i0 := by kernel_rfl
 i2 := by kernel_rfl
 i3 := by kernel_rfl
 i4 := by kernel_rfl
 i5 := by kernel_rfl
 i9 := by kernel_rfl
 i20 := by kernel_rfl
 i37 := by kernel_rfl
 i46 := by kernel_rfl
 i51 := by kernel_rfl
 i53 := by kernel_rfl
 i171 := by kernel_rfl
 i173 := by kernel_rfl
 i212 := by kernel_rfl
 i232 := by kernel_rfl
 i233 := by kernel_rfl
 m17 := by kernel_rfl
 m18 := by kernel_rfl
 m19 := by kernel_rfl
theorem strconv_Itoa_32.tabIs {w : World} (h : hTab w) : Go.Lib.TabIs Tryd.prog w "internal/strconv.uint64pow10" .u64 Go.Lib.pow10Tab := by
 obtain ⟨t, fz, hh⟩ := h
 have hg : Tryd.prog.globalNamed "internal/strconv.uint64pow10" = some 0 := by kernel_rfl
 unfold Go.Lib.TabIs World.var?
 rw [hg, Option.bind_some, hh]
theorem strconv_Itoa_32.calls (a0 : Int) (r : ByteArray) (w : World) (h : strconv_Itoa_32.f a0 = some r) (hT : hTab w := by exact hTab_use (by assumption)) :
  Calls Tryd.prog 32 #[.int .i64 a0] w fun e w' => e = .returned (.string r) ∧ Below w.heap.size w w' := by
 replace h : (if -9223372036854775808 ≤ a0 ∧ a0 ≤ 9223372036854775807 then some (⟨(Go.Lib.itoa a0).toArray⟩ : ByteArray) else none) = some r := h
 by_cases hb : -9223372036854775808 ≤ a0 ∧ a0 ≤ 9223372036854775807
 ·rw [if_pos hb] at h
  obtain rfl := Option.some.inj h
  refine (show Calls Tryd.prog 32 #[.int .i64 a0] w _ from Go.Proofs.Any.strconv_Itoa strconv_Itoa_32.lays a0 hb.1 hb.2 w (strconv_Itoa_32.tabIs hT)).mono ?_
  rintro e w' ⟨rfl, k, os, rfl⟩
  exact ⟨rfl, pw_below_drewN (Below.refl _ _) k |>.trans ⟨rfl, rfl, rfl, by simp, fun j hj => Go.Sort.heap_grow_old _ _ hj⟩⟩
 ·rw [if_neg hb] at h
  cases h


/-! ### bits_Mul32: function 52 -/
def bits_Mul32.f (a0 : Int) (a1 : Int) : Option (Int × Int) := some (((IntKind.u64.wrap ((IntKind.u64.wrap (a0)) * (IntKind.u64.wrap (a1)))) / 4294967296) % 4294967296, (IntKind.u64.wrap ((IntKind.u64.wrap (a0)) * (IntKind.u64.wrap (a1)))) % 4294967296)
set_option maxHeartbeats 8000000 in
set_option maxRecDepth 100000 in
theorem bits_Mul32.calls (a0 : Int) (a1 : Int) (r1 : Int) (r2 : Int) (w : World) (h : bits_Mul32.f a0 a1 = some (r1, r2)) :
  Calls Tryd.prog 52 #[.int .u32 a0, .int .u32 a1] w fun e w' => e = .returned (.tuple #[.int .u32 r1, .int .u32 r2]) ∧ Drawn0 w w' := by
 have H : (some (((IntKind.u64.wrap ((IntKind.u64.wrap (a0)) * (IntKind.u64.wrap (a1)))) / 4294967296) % 4294967296, (IntKind.u64.wrap ((IntKind.u64.wrap (a0)) * (IntKind.u64.wrap (a1)))) % 4294967296)) = some (r1, r2) := h
 clear h
 simp only [Option.some.injEq, Prod.mk.injEq] at H
 obtain ⟨rfl, rfl⟩ := H
 go_enter Tryd.func52, Tryd.ntmps52
 go_wp2
 go_ret2
 exact ⟨by first | rfl | (simp; done) | (simp [*]; done), by repeat (first | exact Drawn0.refl _ | apply Drawn0.step)⟩

/-! ### bits_Mul64: function 53 -/
def bits_Mul64.f (a0 : Int) (a1 : Int) : Option (Int × Int) := some (IntKind.u64.wrap ((IntKind.u64.wrap ((IntKind.u64.wrap ((a0 / 4294967296) * (a1 / 4294967296))) + ((IntKind.u64.wrap ((IntKind.u64.wrap ((a0 / 4294967296) * (Go.bits .and .u64 a1 4294967295))) + ((IntKind.u64.wrap ((Go.bits .and .u64 a0 4294967295) * (Go.bits .and .u64 a1 4294967295))) / 4294967296))) / 4294967296))) + ((IntKind.u64.wrap ((Go.bits .and .u64 (IntKind.u64.wrap ((IntKind.u64.wrap ((a0 / 4294967296) * (Go.bits .and .u64 a1 4294967295))) + ((IntKind.u64.wrap ((Go.bits .and .u64 a0 4294967295) * (Go.bits .and .u64 a1 4294967295))) / 4294967296))) 4294967295) + (IntKind.u64.wrap ((Go.bits .and .u64 a0 4294967295) * (a1 / 4294967296))))) / 4294967296)), IntKind.u64.wrap (a0 * a1))
set_option maxHeartbeats 8000000 in
set_option maxRecDepth 100000 in
theorem bits_Mul64.calls (a0 : Int) (a1 : Int) (r1 : Int) (r2 : Int) (w : World) (h : bits_Mul64.f a0 a1 = some (r1, r2)) :
  Calls Tryd.prog 53 #[.int .u64 a0, .int .u64 a1] w fun e w' => e = .returned (.tuple #[.int .u64 r1, .int .u64 r2]) ∧ Drawn0 w w' := by
 have H : (some (IntKind.u64.wrap ((IntKind.u64.wrap ((IntKind.u64.wrap ((a0 / 4294967296) * (a1 / 4294967296))) + ((IntKind.u64.wrap ((IntKind.u64.wrap ((a0 / 4294967296) * (Go.bits .and .u64 a1 4294967295))) + ((IntKind.u64.wrap ((Go.bits .and .u64 a0 4294967295) * (Go.bits .and .u64 a1 4294967295))) / 4294967296))) / 4294967296))) + ((IntKind.u64.wrap ((Go.bits .and .u64 (IntKind.u64.wrap ((IntKind.u64.wrap ((a0 / 4294967296) * (Go.bits .and .u64 a1 4294967295))) + ((IntKind.u64.wrap ((Go.bits .and .u64 a0 4294967295) * (Go.bits .and .u64 a1 4294967295))) / 4294967296))) 4294967295) + (IntKind.u64.wrap ((Go.bits .and .u64 a0 4294967295) * (a1 / 4294967296))))) / 4294967296)), IntKind.u64.wrap (a0 * a1))) = some (r1, r2) := h
 clear h
 simp only [Option.some.injEq, Prod.mk.injEq] at H
 obtain ⟨rfl, rfl⟩ := H
 go_enter Tryd.func53, Tryd.ntmps53
 go_wp2
 go_ret2
 exact ⟨by first | rfl | (simp; done) | (simp [*]; done), by repeat (first | exact Drawn0.refl _ | apply Drawn0.step)⟩

/-! ### bits_Mul: function 47 -/
def bits_Mul.f (a0 : Int) (a1 : Int) : Option (Int × Int) := (bits_Mul64.f a0 a1).bind fun bt391 => (some (bt391.1, bt391.2))
set_option maxHeartbeats 8000000 in
set_option maxRecDepth 100000 in
theorem bits_Mul.calls (a0 : Int) (a1 : Int) (r1 : Int) (r2 : Int) (w : World) (h : bits_Mul.f a0 a1 = some (r1, r2)) :
  Calls Tryd.prog 47 #[.int .u64 a0, .int .u64 a1] w fun e w' => e = .returned (.tuple #[.int .u64 r1, .int .u64 r2]) ∧ Drawn0 w w' := by
 have H : ((bits_Mul64.f a0 a1).bind fun bt391 => (some (bt391.1, bt391.2))) = some (r1, r2) := h
 clear h
 replace H := hBi H
 obtain ⟨⟨t391, t392⟩, A30, H⟩ := H
 replace H : (some (t391, t392)) = some (r1, r2) := H
 have A3 := Aside0.mk A30
 clear A30
 simp only [Option.some.injEq, Prod.mk.injEq] at H
 obtain ⟨rfl, rfl⟩ := H
 go_enter Tryd.func47, Tryd.ntmps47
 go_wp2_with (first | ((with_reducible refine gate_callee (f := 53) rfl ?_); refine hkGo (N := some 25) Tryd.func53 #[.int .u64 a0, .int .u64 a1] ?_; (with_reducible refine (bits_Mul64.calls a0 a1 t391 t392 _ A3.out).mono ?_); rintro e w' ⟨rfl, ⟨nd, rfl⟩⟩; refine ⟨_, rfl, ?_⟩))
 go_ret2
 exact ⟨by first | rfl | (simp; done) | (simp [*]; done), by repeat (first | exact Drawn0.refl _ | apply Drawn0.step)⟩

/-! ### slices_Repeat_byte_byte: function 33 -/
def slices_Repeat_byte_byte.f (l0 : List Int) (a1 : Int) : Option (List Int) := if l0.length = 1 ∧ 0 ≤ a1 ∧ a1 ≤ 1099511627776 then some (List.replicate a1.toNat (rd l0 0)) else none
/-- A row of m bytes, the first n of them c, the others 0. -/
def slices_Repeat_byte_byte.L (c : Int) (m n : Nat) : List Value := List.replicate n (.int .u8 c) ++ List.replicate (m - n) (.int .u8 0)
theorem slices_Repeat_byte_byte.L_len (c : Int) (m n : Nat) (h : n ≤ m) : (slices_Repeat_byte_byte.L c m n).length = m := by simp [slices_Repeat_byte_byte.L]; omega
theorem slices_Repeat_byte_byte.L_splice (c : Int) (m n j : Nat) (h : n + j ≤ m) : splice (slices_Repeat_byte_byte.L c m n) n (List.replicate j (.int .u8 c)) = slices_Repeat_byte_byte.L c m (n + j) := by
 unfold splice slices_Repeat_byte_byte.L
 rw [List.take_append_of_le_length (by simp), List.take_of_length_le (by simp), List.length_replicate, List.drop_append, List.drop_eq_nil_of_le (by simp), List.nil_append, List.drop_replicate, List.length_replicate, ← List.append_assoc, List.replicate_append_replicate]
 congr 2
 omega
theorem slices_Repeat_byte_byte.L_at (c : Int) (m n j : Nat) (v : Value) (hj : (List.replicate n (Value.int .u8 c))[j]? = some v) : (slices_Repeat_byte_byte.L c m n)[j]? = some v := by
 unfold slices_Repeat_byte_byte.L
 have hl : j < n := by have := (List.getElem?_eq_some_iff.1 hj).1; simpa using this
 rw [List.getElem?_append_left (by simpa using hl)]
 exact hj
theorem slices_Repeat_byte_byte.done (c : Int) (m g : Nat) (base : Nat) (w : World) (hm : m ≤ maxLen) (hb : base ≤ g) (hh : w.heap[g]? = some (.cells (slices_Repeat_byte_byte.L c m m).toArray 5 (0, 0))) : Kd.R (Kd.int .u8) 5 w base (fun _ => True) (.slice (some ⟨g, 0, none⟩) m m) (List.replicate m c) := by
 have hL : slices_Repeat_byte_byte.L c m m = List.replicate m (.int .u8 c) := by simp [slices_Repeat_byte_byte.L]
 rw [hL] at hh
 refine Kd.R_of_own ?_ (fun _ _ => trivial)
 rw [List.length_replicate]
 refine ⟨by simp [encs], .inr ⟨g, m, _, rfl, hb, hp_of hh, Nat.le_refl _, hm, by simp, ?_⟩⟩
 simp [encs]
theorem slices_Repeat_byte_byte.mul (m : Nat) (h : m ≤ 1099511627776) : bits_Mul.f 1 (m : Int) = some (0, (m : Int)) := by
 have w : ∀ x : Int, 0 ≤ x → x < 18446744073709551616 → IntKind.u64.wrap x = x := fun x h0 h1 => by rw [IntKind.wrap_u64]; omega
 have hl : Go.bits .and .u64 (m : Int) 4294967295 = (m : Int) % 4294967296 := and_low32 _ (by omega) (by omega)
 have h1 : Go.bits .and .u64 1 4294967295 = 1 := by rw [and_low32 _ (by omega) (by omega)]; rfl
 have h0 : Go.bits .and .u64 0 4294967295 = 0 := by rw [and_low32 _ (by omega) (by omega)]; rfl
 have d : (1 : Int) / 4294967296 = 0 := rfl
 have z : IntKind.u64.wrap 0 = 0 := w 0 (by omega) (by omega)
 have e : ((m : Int) % 4294967296) / 4294967296 = 0 := by omega
 have e2 : ((m : Int) / 4294967296) / 4294967296 = 0 := by omega
 have key : bits_Mul64.f 1 (m : Int) = some (0, (m : Int)) := by
  unfold bits_Mul64.f
  simp only [hl, h1, d, Int.zero_mul, Int.one_mul, z, Int.zero_add, w _ (show (0 : Int) ≤ (m : Int) % 4294967296 by omega) (by omega), e, h0, w _ (show (0 : Int) ≤ (m : Int) / 4294967296 by omega) (by omega), e2, w _ (show (0 : Int) ≤ (m : Int) by omega) (by omega), Int.add_zero, show (0 : Int) / 4294967296 = 0 from rfl]
 unfold bits_Mul.f
 rw [key]
 rfl
section
variable {P : Program} {ops : Array Oper} {rest : List Oper} {o : Oper} {a : Act} {Q : Exit → Act → World → Prop}
theorem slices_Repeat_byte_byte.make {W : World} (hgd : o.guard = none) (t e : TypeId) (x y : Operand) (ho : o.op = .makeSlice t x y) (c : Int) (m : Nat) (hx : a.eval x = .int .i64 (m : Int)) (hy : a.eval y = .int .i64 (m : Int)) (ht : P.underlying t = some (.slice e))
  (hinfo : (P.info? e).map (fun i => (i.zero, i.size, i.bytes)) = some (some (.int .u8 0), 1, 1)) (hm : m ≤ 1099511627776)
  (h : ∀ g w1, Aside0 (W.heap.size ≤ g) → Aside0 (w1.heap[g]? = some (.cells (slices_Repeat_byte_byte.L c m 0).toArray e (0, 0))) → Aside0 (Below W.heap.size W w1) → wpList P ops Q rest (a.put o.dst (.slice (some ⟨g, 0, none⟩) m m)) w1) : wpList P ops Q (o :: rest) a W := by
 obtain ⟨i0, hi, hzz⟩ := Option.map_eq_some_iff.1 hinfo
 simp only [Prod.mk.injEq] at hzz
 obtain ⟨hz0, hz1, hz2⟩ := hzz
 have hr := run_make (P := P) W t e i0 _ ht hi hz0 .i64 .i64 (m : Int) (m : Int) (by omega) (Int.le_refl _) (by rw [hz2]; omega) (by omega)
 simp only [Int.toNat_natCast] at hr
 rw [hz1, Nat.mul_one] at hr
 have hcs : madeCells (Value.int IntKind.u8 0).cells m = (slices_Repeat_byte_byte.L c m 0).toArray := by
  apply Array.ext
  ·simp [madeCells, slices_Repeat_byte_byte.L]
  ·intro i h1 h2
   simp only [madeCells, slices_Repeat_byte_byte.L, Value.cells, Array.getElem_map, Array.getElem_range, List.getElem_toArray, List.replicate_zero, List.nil_append, List.getElem_replicate]
   have : i % 1 = 0 := Nat.mod_one i
   simp [this]
 rw [hcs] at hr
 refine Kd.event_run hgd (v := .slice (some ⟨W.heap.size, 0, none⟩) m m) (w1 := W.alloc (.cells (slices_Repeat_byte_byte.L c m 0).toArray e)) ?_ (h _ _ ⟨Nat.le_refl _⟩ ⟨blk_new W _⟩ ⟨below_alloc (Below.refl _ _) _⟩)
 simp [execOp, ho, hx, hy, hr]
end
theorem slices_Repeat_byte_byte.pos1 {w w1 : World} {ad : Addr} {c : Int} {n : Nat} {g : Nat} (hx : w.cell? ad = some (.int .u8 c)) (hb : Below w.heap.size w w1) (hn1 : n ≤ 1) (h : 0 < (List.replicate n (Value.int .u8 c)).length) :
  (some (⟨g, 0, none⟩ : Addr) = some ⟨g, 0, none⟩) ∧ ∃ a, some ad = some a ∧ ∀ j v, (List.replicate n (Value.int .u8 c))[j]? = some v → w1.cell? (a.add j) = some v := by
 refine ⟨rfl, ad, rfl, fun j v hj => ?_⟩
 have hl := (List.getElem?_eq_some_iff.1 hj).1
 have hv := (List.getElem?_eq_some_iff.1 hj).2
 rw [List.length_replicate] at hl
 obtain rfl : j = 0 := by omega
 rw [List.getElem_replicate] at hv
 subst hv
 have : ad.add 0 = ad := by cases ad; simp [Addr.add]
 rw [this]
 exact pw_cell_below hb hx
theorem slices_Repeat_byte_byte.posn {w : World} {c : Int} {m nn j g : Nat} (hh : w.heap[g]? = some (.cells (slices_Repeat_byte_byte.L c m nn).toArray 5 (0, 0))) (hj : j ≤ nn) (h : 0 < (List.replicate j (Value.int .u8 c)).length) :
  (some (⟨g, nn, none⟩ : Addr) = some ⟨g, nn, none⟩) ∧ ∃ a, some (⟨g, 0, none⟩ : Addr) = some a ∧ ∀ i v, (List.replicate j (Value.int .u8 c))[i]? = some v → w.cell? (a.add i) = some v := by
 refine ⟨rfl, ⟨g, 0, none⟩, rfl, fun i v hi => ?_⟩
 have hl := (List.getElem?_eq_some_iff.1 hi).1
 have hv := (List.getElem?_eq_some_iff.1 hi).2
 rw [List.length_replicate] at hl
 rw [List.getElem_replicate] at hv
 subst hv
 have hadd : (⟨g, 0, none⟩ : Addr).add i = ⟨g, i, none⟩ := by unfold Addr.add; split <;> simp_all
 rw [hadd, cell_of_row w g i _ 5 (0, 0) hh]
 have := slices_Repeat_byte_byte.L_at c m nn i (.int .u8 c) (by rw [List.getElem?_replicate, if_pos (by omega)])
 simpa using this
def slices_Repeat_byte_byte.T9 : Bool × List (List Nat × List Nat) := (true, [([], []), ([], []), ([], []), ([1, 2], [1, 2]), ([], []), ([], []), ([4, 5], [4, 5]), ([3, 6], [3, 6]), ([0, 7], [0, 7]), ([8, 7, 0, 1, 2, 3, 4, 5, 6, 7, 8], [0, 2, 5, 8])])
def slices_Repeat_byte_byte.B9 : List Nat := [0, 0, 0, 6, 0, 0, 48, 126, 255, 511]
theorem slices_Repeat_byte_byte.tab9 : rtab .any (opsOf Tryd.f33 9) = slices_Repeat_byte_byte.T9 := by kernel_rfl
theorem slices_Repeat_byte_byte.bits9 : waitsOk slices_Repeat_byte_byte.T9.2 slices_Repeat_byte_byte.B9 = true := by kernel_rfl
set_option maxHeartbeats 4000000 in
set_option maxRecDepth 100000 in
theorem slices_Repeat_byte_byte.core (ad : Addr) (c0 m : Nat) (c : Int) (w : World) (hx0 : w.cell? ad = some (.int .u8 c)) (hm0 : m ≤ 1099511627776) :
  Calls Tryd.prog 33 #[.slice (some ad) 1 c0, .int .i64 (m : Int)] w fun e w' => ∃ v0_ : Value, e = .returned v0_ ∧ Kd.R (Kd.int .u8) 5 w' w.heap.size (fun _ => True) v0_ (List.replicate m c) ∧ Below w.heap.size w w' := by
 have LM := Aside0.mk hm0
 have HX := Aside0.mk hx0
 have HM := Aside0.mk (slices_Repeat_byte_byte.mul m hm0)
 have wu1 : IntKind.u64.wrap 1 = 1 := by rw [IntKind.wrap_u64]; omega
 have wum : IntKind.u64.wrap (m : Int) = (m : Int) := by rw [IntKind.wrap_u64]; omega
 have wim : IntKind.i64.wrap (m : Int) = (m : Int) := by rw [IntKind.wrap_i64]; omega
 have hneg : decide ((m : Int) < 0) = false := decide_eq_false (by omega)
 have hbig : decide ((9223372036854775807 : Int) < (m : Int)) = false := decide_eq_false (by omega)
 have hsz5 : (Tryd.prog.info? 5).map (·.size) = some 1 := by obtain ⟨i0, hi0, _, hs0, _⟩ := info_parts info5; rw [hi0, Option.map_some, hs0]
 obtain ⟨n0, hn0⟩ : ∃ n0 : Nat, n0 = min 1 m := ⟨_, rfl⟩
 have HN0 := Aside0.mk hn0
 clear hx0 hm0 hn0
 go_enter Tryd.func33, Tryd.ntmps33
 go_wp2_with (first
  | ((with_reducible refine gate_callee (f := 47) rfl ?_); refine hkGo (N := some 18) Tryd.func47 #[.int .u64 1, .int .u64 (m : Int)] ?_; (with_reducible refine (bits_Mul.calls 1 (m : Int) 0 (m : Int) _ HM.out).mono ?_); rintro e w' ⟨rfl, ⟨nd, rfl⟩⟩; refine ⟨_, rfl, ?_⟩)
  | ((with_reducible refine gate_dst (N := 30) rfl ?_); refine slices_Repeat_byte_byte.make rfl 28 5 (.tmp 29) (.tmp 29) rfl c m rfl rfl Tryd.underlying28 info5 LM.out ?_; intro g w1 GW0 HH HB0; have n_ := hkA (Aside0.mk (show Below w.heap.size w w1 from (pw_below_drewN (Below.refl _ _) nd).trans HB0.out)) (Aside0.mk (show w.heap.size ≤ g from GW0.out)); clear GW0 HB0; obtain ⟨HB, GW⟩ := n_)
  | ((with_reducible refine gate_builtin (b := .copy) (xs := #[.tmp 31, .tmp 32]) rfl ?_); refine wpList_copy_splice rfl (.tmp 31) (.tmp 32) 28 28 rfl 5 Tryd.underlying28 hsz5 (some ⟨g, 0, none⟩) (some ad) m m 1 c0 rfl rfl g 0 (slices_Repeat_byte_byte.L c m 0) 5 HH.out (List.replicate n0 (.int .u8 c)) ?hn ?hpos ?hfit ?h1 w.heap.size w HB.out GW.out ?_; (case hn => rw [List.length_replicate, HN0.out]); (case hpos => exact slices_Repeat_byte_byte.pos1 HX.out HB.out (by rw [HN0.out]; omega)); (case hfit => rw [List.length_replicate, slices_Repeat_byte_byte.L_len _ _ _ (Nat.zero_le _), HN0.out]; omega); (case h1 => intro v hv; rw [List.eq_of_mem_replicate hv]; rfl); intro w2 HG2 hB2; have n_ := hkA (Aside0.mk (show w2.heap[g]? = some (.cells (slices_Repeat_byte_byte.L c m n0).toArray 5 (0, 0)) by have := slices_Repeat_byte_byte.L_splice c m 0 n0 (by rw [HN0.out]; omega); rw [Nat.zero_add] at this; rw [← this]; exact HG2.out)) (Aside0.mk hB2); clear HG2 hB2 HH HB; obtain ⟨HH, HB⟩ := n_))
 go_loopg [8] m (fun gg s8 wr => ∃ nn : Nat, nn ≤ m ∧ (0 < m → 0 < nn) ∧ m - nn ≤ gg ∧ s8 = .int .i64 (nn : Int) ∧ Aside0 (wr.heap[g]? = some (.cells (slices_Repeat_byte_byte.L c m nn).toArray 5 (0, 0))) ∧ Aside0 (Below w.heap.size w wr))
 case atStart => exact ⟨n0, by rw [HN0.out]; omega, by rw [HN0.out]; omega, by omega, by go_num, HH, HB⟩
 case round =>
  clear HH HB
  obtain ⟨nn, hnm, hn1, hg, rfl, HH, HB⟩ := hrel
  by_cases hlt : nn < m
  ·have hltz : decide ((nn : Int) < (m : Int)) = true := decide_eq_true (by omega)
   obtain ⟨i0, hi0, _, hsz0, _⟩ := info_parts info5
   have hcutF := cut_from (P := Tryd.prog) 28 5 .i64 Tryd.underlying28 hi0 1 hsz0 (some ⟨g, 0, none⟩) m m (nn : Int) (by omega) (by omega)
   have hcutT := cut_to (P := Tryd.prog) 28 5 .i64 Tryd.underlying28 hi0 (some ⟨g, 0, none⟩) m m (nn : Int) (by omega) (by omega) (Nat.le_refl _)
   have hne : ¬ m = nn := by omega
   have hadd : (⟨g, 0, none⟩ : Addr).add (nn * 1) = ⟨g, nn, none⟩ := by unfold Addr.add; split <;> simp_all
   simp only [Int.toNat_natCast, if_neg hne, Option.map_some, hadd] at hcutF hcutT
   obtain ⟨j, hj⟩ : ∃ j : Nat, j = min nn (m - nn) := ⟨_, rfl⟩
   have hw : IntKind.i64.wrap ((nn : Int) + (j : Int)) = ((nn + j : Nat) : Int) := by have := LM.out; rw [IntKind.wrap_i64]; omega
   have J1 := Aside0.mk (show nn + j ≤ m by omega)
   have J2 := Aside0.mk (show 0 < j by omega)
   have J3 := Aside0.mk hj
   clear hj hadd hsz0 hi0
   go_wp2
   have n_ := hkA (Aside0.mk (blk_drew HH.out)) (Aside0.mk (below_drew1 HB.out))
   clear HH HB
   obtain ⟨HH, HB⟩ := n_
   refine start_ (n := 10) (S := fun w' => True) (ds := []) #[false, false, false, false, false, false, false, false, false, false] (by kernel_rfl) rfl rfl trivial (fun hHeld => ?_); refine with_tabW slices_Repeat_byte_byte.tab9 slices_Repeat_byte_byte.bits9 (fun HT_ HW_ => ?_)
   generalize wr.drew = w3 at HH HB hHeld ⊢
   refine hkPt (i := 0) (N := some 38) HT_ ?_
   refine hkPt (i := 1) (N := some 39) HT_ ?_
   refine hkPt (i := 2) (N := some 40) HT_ ?_
   refine hkPt (i := 3) (N := some 41) HT_ ?_
   refine hkPt (i := 4) (N := some 42) HT_ ?_
   refine hkPt (i := 5) (N := some 43) HT_ ?_
   refine hkPt (i := 6) (N := some 44) HT_ ?_
   refine one_ (i := 7) (N := some 45) #[true, true, true, true, true, true, true, true, false, false] rfl rfl (one_of HT_.out (by kernel_rfl)) (by decide) (fun K hK => ?_)
   refine step_copy_splice (by rfl) (.tmp 41) (.tmp 44) 28 28 rfl 5 Tryd.underlying28 hsz5 (some ⟨g, nn, none⟩) (some ⟨g, 0, none⟩) (m - nn) (m - nn) nn m rfl rfl g nn (slices_Repeat_byte_byte.L c m nn) 5 HH.out (List.replicate j (.int .u8 c)) ?hn ?hpos ?hfit ?h1 w.heap.size w HB.out GW.out ?_
   (case hn => rw [List.length_replicate, J3.out])
   (case hpos => exact slices_Repeat_byte_byte.posn HH.out (by rw [J3.out]; exact Nat.min_le_left _ _))
   (case hfit => rw [List.length_replicate, slices_Repeat_byte_byte.L_len _ _ _ hnm]; exact J1.out)
   (case h1 => intro v hv; rw [List.eq_of_mem_replicate hv]; rfl)
   intro w4 hg4 hb4
   rw [List.length_replicate]
   have n_ := hkA (Aside0.mk (show w4.heap[g]? = some (.cells (slices_Repeat_byte_byte.L c m (nn + j)).toArray 5 (0, 0)) by rw [← slices_Repeat_byte_byte.L_splice c m nn j J1.out]; exact hg4.out)) (Aside0.mk hb4)
   clear hg4 hb4 HH HB
   obtain ⟨HH, HB⟩ := n_
   refine hK.out _ _ trivial (fun hHeld => ?_)
   clear hK K
   refine hkNo (N := some 45) ?_
   refine hkPt (i := 8) (N := some 46) HT_ ?_
   refine hkPt (i := 9) (N := some 8) HT_ ?_
   refine done_ (done_of HT_.out (by kernel_rfl)) ?_
   try go_wp2
   go_roundg (m - (nn + j))
   case measure => have := J2.out; have := J1.out; omega
   case rel => exact ⟨nn + j, J1.out, by omega, by omega, by go_num, HH, HB⟩
  ·have hltz : decide ((nn : Int) < (m : Int)) = false := decide_eq_false (by omega)
   obtain rfl : nn = m := by omega
   go_wp2
   go_ret
   exact ⟨_, rfl, slices_Repeat_byte_byte.done c nn g _ _ (by have := LM.out; simp only [maxLen]; omega) GW.out HH.out, HB.out⟩
theorem slices_Repeat_byte_byte.calls (A0 : Option Addr) (c0 : Nat) (l0 : List Int) (a1 : Int) (r : List Int) (w : World) (hr0 : Kd.C (Kd.int .u8) w A0 l0.length l0) (hc0 : l0.length ≤ c0) (h : slices_Repeat_byte_byte.f l0 a1 = some r) :
  Calls Tryd.prog 33 #[.slice A0 l0.length c0, .int .i64 a1] w fun e w' => ∃ v0_ : Value, e = .returned (v0_) ∧ Kd.R (Kd.int .u8) 5 w' w.heap.size (fun _ => True) v0_ r ∧ Below w.heap.size w w' := by
 replace h : (if l0.length = 1 ∧ 0 ≤ a1 ∧ a1 ≤ 1099511627776 then some (List.replicate a1.toNat (rd l0 0)) else none) = some r := h
 by_cases hb : l0.length = 1 ∧ 0 ≤ a1 ∧ a1 ≤ 1099511627776
 ·rw [if_pos hb] at h
  obtain rfl := Option.some.inj h
  obtain ⟨hl, h0, h1⟩ := hb
  obtain ⟨m, rfl⟩ := Int.eq_ofNat_of_zero_le h0
  obtain ⟨ad, e, hx⟩ := Kd.at_int hr0 (0 : Int) (by omega) (by omega)
  cases e
  have ha : ad.add (0 : Int).toNat = ad := by cases ad; simp [Addr.add]
  rw [ha] at hx
  rw [hl]
  exact slices_Repeat_byte_byte.core ad c0 m (rd l0 0) w hx (by omega)
 ·rw [if_neg hb] at h
  cases h


-- NOT PRINTED: function 48 (slices_Grow_byte_byte)

end Go.Proofs.YthmieecgojiliaaDoor.PFnExactDecText
