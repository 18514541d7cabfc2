/- Small facts on numbers, lists and rounds, of no program. -/
import Derived.Test.YtnodpgddmkmngaaWMore
import Derived.Test.YtnodpgddmkmngaaWNEv
import Derived.Laws.BitsLemmas
namespace Go.Proofs.Ytnodpgddmkmngaa.Lib
open Go.RowKit Go.Proofs.YtnodpgddmkmngaaW.PrintWords Go.Proofs.YtnodpgddmkmngaaW.PrintLast

theorem w64 {x : Int} (h1 : -9223372036854775808 ≤ x) (h2 : x ≤ 9223372036854775807) : wrap64 x = x := by
  unfold wrap64; omega
theorem wfI {x : Int} (h : (Lit.int .i64 x).wf = true) : -9223372036854775808 ≤ x ∧ x ≤ 9223372036854775807 := by
  simp [Lit.wf, IntKind.min, IntKind.max, IntKind.signed, IntKind.bits] at h
  omega
theorem wfB {x : Int} (h : (Lit.int .u8 x).wf = true) : 0 ≤ x ∧ x ≤ 255 := by
  simp [Lit.wf, IntKind.min, IntKind.max, IntKind.signed, IntKind.bits] at h
  omega

theorem rd_nat (l : List Int) (i : Nat) : rd l (i : Int) = l.getD i 0 := by unfold rd; simp
theorem rd_get (l : List Int) (i : Nat) (h : i < l.length) : rd l (i : Int) = l[i] := by
  rw [rd_nat]; simp [List.getD, List.getElem?_eq_getElem h]

/-- Enough rounds. -/
theorem ev_some {α : Type} (r : α) : Ev (fun _ => some r) r := Ev.now r
theorem ev_bind {α β : Type} {g : Nat → Option α} {f : Nat → α → Option β} {a : α} {r : β} (h : Ev g a) (k : Ev (fun n => f n a) r) : Ev (fun n => (g n).bind (f n)) r := Ev.bind h k
theorem ev_bind0 {α β : Type} {g : Option α} {f : Nat → α → Option β} {a : α} {r : β} (h : g = some a) (k : Ev (fun n => f n a) r) : Ev (fun n => g.bind (f n)) r := by
  subst h; exact k
theorem ev_if_pos {α : Type} {c : Prop} [Decidable c] {g f : Nat → Option α} {r : α} (h : c) (k : Ev g r) : Ev (fun n => if c then g n else f n) r := by
  simp only [if_pos h]; exact k
theorem ev_if_neg {α : Type} {c : Prop} [Decidable c] {g f : Nat → Option α} {r : α} (h : ¬ c) (k : Ev f r) : Ev (fun n => if c then g n else f n) r := by
  simp only [if_neg h]; exact k
/-- A tested way: either side. -/
theorem ev_if {α : Type} {c : Prop} [Decidable c] {g f : Nat → Option α} {r : α} (h1 : c → Ev g r) (h2 : ¬ c → Ev f r) : Ev (fun n => if c then g n else f n) r := by
  by_cases h : c
  · exact ev_if_pos h (h1 h)
  · exact ev_if_neg h (h2 h)
theorem ev_det {α : Type} {g : Nat → Option α} {r s : α} (h : Ev g r) (k : Ev g s) : r = s := by
  obtain ⟨a, ha⟩ := h
  obtain ⟨b, hb⟩ := k
  have h1 := ha (max a b) (Nat.le_max_left _ _)
  have h2 := hb (max a b) (Nat.le_max_right _ _)
  rw [h1] at h2
  exact Option.some.inj h2
theorem ite2 {α : Type} {P Q : Prop} [Decidable P] [Decidable Q] (X R : α) : (if P then (if Q then X else R) else R) = if P ∧ Q then X else R := by
  by_cases h : P <;> by_cases k : Q <;> simp [h, k]
theorem ite_some {α : Type} {P : Prop} [Decidable P] (x y : α) : (if P then some x else some y) = some (if P then x else y) := by
  by_cases h : P <;> simp [h]
end Go.Proofs.Ytnodpgddmkmngaa.Lib
/- Numbers in base 65536 as lists, lowest first: values, the one form, uniqueness. Of no program. -/
namespace Go.Proofs.Ytnodpgddmkmngaa.Lib

/-- All elements are limbs. -/
def Limbs (l : List Int) : Prop := ∀ x ∈ l, 0 ≤ x ∧ x ≤ 65535
/-- A list's value. -/
def val : List Int → Int
  | [] => 0
  | x :: l => x + 65536 * val l
/-- Powers of the base. -/
def pw : Nat → Int
  | 0 => 1
  | n + 1 => 65536 * pw n
theorem pw_pos (n : Nat) : 1 ≤ pw n := by
  induction n with
  | zero => simp [pw]
  | succ n ih => simp only [pw]; omega
theorem pw_add (a b : Nat) : pw (a + b) = pw a * pw b := by
  induction b with
  | zero => simp [pw]
  | succ b ih => rw [Nat.add_succ]; simp only [pw]; rw [ih, Int.mul_left_comm]
theorem pw_le {a b : Nat} (h : a ≤ b) : pw a ≤ pw b := by
  induction b with
  | zero => have : a = 0 := by omega
            subst this; exact Int.le_refl _
  | succ b ih =>
    by_cases e : a = b + 1
    · subst e; exact Int.le_refl _
    · have := ih (by omega)
      have := pw_pos b
      simp only [pw]; omega
theorem Limbs.nil : Limbs [] := fun _ h => by cases h
theorem Limbs.cons {x : Int} {l : List Int} (h0 : 0 ≤ x) (h1 : x ≤ 65535) (h : Limbs l) : Limbs (x :: l) := fun y hy => by
  rcases List.mem_cons.1 hy with rfl | hy
  · exact ⟨h0, h1⟩
  · exact h y hy
theorem Limbs.tail {x : Int} {l : List Int} (h : Limbs (x :: l)) : Limbs l := fun y hy => h y (List.mem_cons_of_mem _ hy)
theorem Limbs.head {x : Int} {l : List Int} (h : Limbs (x :: l)) : 0 ≤ x ∧ x ≤ 65535 := h x List.mem_cons_self
theorem Limbs.append {a b : List Int} (ha : Limbs a) (hb : Limbs b) : Limbs (a ++ b) := fun y hy => by
  rcases List.mem_append.1 hy with hy | hy
  · exact ha y hy
  · exact hb y hy
theorem Limbs.left {a b : List Int} (h : Limbs (a ++ b)) : Limbs a := fun y hy => h y (List.mem_append_left _ hy)
theorem Limbs.right {a b : List Int} (h : Limbs (a ++ b)) : Limbs b := fun y hy => h y (List.mem_append_right _ hy)
theorem Limbs.take {a : List Int} (h : Limbs a) (n : Nat) : Limbs (a.take n) := fun y hy => h y (List.mem_of_mem_take hy)
theorem Limbs.drop {a : List Int} (h : Limbs a) (n : Nat) : Limbs (a.drop n) := fun y hy => h y (List.mem_of_mem_drop hy)
theorem Limbs.getD {l : List Int} (h : Limbs l) (i : Nat) : 0 ≤ l.getD i 0 ∧ l.getD i 0 ≤ 65535 := by
  by_cases hi : i < l.length
  · simp only [List.getD, List.getElem?_eq_getElem hi, Option.getD_some]
    exact h _ (List.getElem_mem hi)
  · simp [List.getD, List.getElem?_eq_none (by omega : l.length ≤ i)]
theorem Limbs.zeros (n : Nat) : Limbs (List.replicate n 0) := fun y hy => by
  have := List.eq_of_mem_replicate hy
  omega
theorem Limbs.set {l : List Int} (h : Limbs l) (i : Nat) {x : Int} (h0 : 0 ≤ x) (h1 : x ≤ 65535) : Limbs (l.set i x) := fun y hy => by
  rcases List.mem_or_eq_of_mem_set hy with hy | rfl
  · exact h y hy
  · exact ⟨h0, h1⟩

theorem val_nonneg {l : List Int} (h : Limbs l) : 0 ≤ val l := by
  induction l with
  | nil => exact Int.le_refl _
  | cons x l ih =>
    have := ih h.tail
    have := h.head
    simp only [val]; omega
theorem val_lt {l : List Int} (h : Limbs l) : val l < pw l.length := by
  induction l with
  | nil => simp [val, pw]
  | cons x l ih =>
    have := ih h.tail
    have := h.head
    simp only [val, pw, List.length_cons]; omega
theorem val_append (a b : List Int) : val (a ++ b) = val a + pw a.length * val b := by
  induction a with
  | nil => simp [val, pw]
  | cons x a ih =>
    simp only [List.cons_append, val, ih, List.length_cons, pw, Int.mul_add, Int.mul_assoc]
    omega
theorem val_zeros (n : Nat) : val (List.replicate n 0) = 0 := by
  induction n with
  | zero => rfl
  | succ n ih => simp [List.replicate_succ, val, ih]
theorem val_snoc (a : List Int) (x : Int) : val (a ++ [x]) = val a + pw a.length * x := by
  rw [val_append]; simp [val]
theorem val_take_drop (l : List Int) (n : Nat) (h : n ≤ l.length) : val l = val (l.take n) + pw n * val (l.drop n) := by
  have := val_append (l.take n) (l.drop n)
  rw [List.take_append_drop, List.length_take, Nat.min_eq_left h] at this
  exact this
/-- Same length, same value, same list. -/
theorem val_inj : ∀ {a b : List Int}, Limbs a → Limbs b → a.length = b.length → val a = val b → a = b
  | [], [], _, _, _, _ => rfl
  | [], _ :: _, _, _, h, _ => by simp at h
  | _ :: _, [], _, _, h, _ => by simp at h
  | x :: a, y :: b, ha, hb, hl, hv => by
    have h1 := ha.head
    have h2 := hb.head
    simp only [val] at hv
    have e : x = y := by omega
    subst e
    have : val a = val b := by omega
    rw [val_inj ha.tail hb.tail (by simpa using hl) this]
/-- No zero at the high end. -/
def Top (l : List Int) : Prop := l.getLast? ≠ some 0
/-- The one form of a number. -/
def Norm (l : List Int) : Prop := Limbs l ∧ Top l
theorem Norm.nil : Norm [] := ⟨Limbs.nil, by simp [Top]⟩
theorem Norm.low {l : List Int} (h : Norm l) (hn : l ≠ []) : pw (l.length - 1) ≤ val l := by
  obtain ⟨hl, ht⟩ := h
  obtain ⟨a, x, rfl⟩ : ∃ a x, l = a ++ [x] := ⟨l.dropLast, l.getLast hn, (List.dropLast_concat_getLast hn).symm⟩
  have hx := hl x (by simp)
  have hx0 : x ≠ 0 := fun e => ht (by simp [e])
  have h1 := val_nonneg hl.left
  have h2 := pw_pos a.length
  rw [val_snoc]
  have h3 : pw a.length * 1 ≤ pw a.length * x := Int.mul_le_mul_of_nonneg_left (by omega) (by omega)
  simp only [List.length_append, List.length_cons, List.length_nil, Nat.add_sub_cancel]
  omega
theorem Norm.zero {l : List Int} (h : Norm l) (hv : val l = 0) : l = [] := by
  by_cases hn : l = []
  · exact hn
  · have := h.low hn
    have := pw_pos (l.length - 1)
    omega
theorem Norm.pos {l : List Int} (h : Norm l) (hn : l ≠ []) : 1 ≤ val l := by
  have := h.low hn
  have := pw_pos (l.length - 1)
  omega
theorem len_le_of_val {a b : List Int} (ha : Norm a) (hb : Limbs b) (hv : val a ≤ val b) : a.length ≤ b.length := by
  by_cases hn : a = []
  · subst hn; simp
  · have h1 := ha.low hn
    have h2 := val_lt hb
    by_cases h : a.length ≤ b.length
    · exact h
    · have := pw_le (show b.length ≤ a.length - 1 by omega)
      omega
theorem norm_inj {a b : List Int} (ha : Norm a) (hb : Norm b) (hv : val a = val b) : a = b :=
  val_inj ha.1 hb.1 (Nat.le_antisymm (len_le_of_val ha hb.1 (by omega)) (len_le_of_val hb ha.1 (by omega))) hv
theorem len_of_lt {a : List Int} (ha : Norm a) {n : Nat} (hv : val a < pw n) : a.length ≤ n := by
  by_cases hn : a = []
  · subst hn; simp
  · have h1 := ha.low hn
    by_cases h : a.length ≤ n
    · exact h
    · have := pw_le (show n ≤ a.length - 1 by omega)
      omega
/-- Zeros at the high end taken away. -/
def strip : List Int → List Int
  | [] => []
  | x :: l => if strip l = [] ∧ x = 0 then [] else x :: strip l
theorem val_strip (l : List Int) : val (strip l) = val l := by
  induction l with
  | nil => rfl
  | cons x l ih =>
    simp only [strip]
    split
    · rename_i h
      rw [h.1] at ih
      simp only [val] at ih ⊢
      omega
    · simp only [val, ih]
theorem strip_limbs {l : List Int} (h : Limbs l) : Limbs (strip l) := by
  induction l with
  | nil => exact h
  | cons x l ih =>
    simp only [strip]
    split
    · exact Limbs.nil
    · exact Limbs.cons h.head.1 h.head.2 (ih h.tail)
theorem strip_top (l : List Int) : Top (strip l) := by
  induction l with
  | nil => simp [strip, Top]
  | cons x l ih =>
    simp only [strip]
    split
    · simp [Top]
    · rename_i h
      unfold Top at *
      by_cases e : strip l = []
      · rw [e]; simp only [List.getLast?_singleton]
        intro hx
        exact h ⟨e, by simpa using hx⟩
      · rw [List.getLast?_cons_of_ne_nil e]; exact ih
theorem strip_norm {l : List Int} (h : Limbs l) : Norm (strip l) := ⟨strip_limbs h, strip_top l⟩
theorem strip_len (l : List Int) : (strip l).length ≤ l.length := by
  induction l with
  | nil => simp [strip]
  | cons x l ih =>
    simp only [strip]
    split
    · simp
    · simp; exact ih
theorem strip_of_norm {l : List Int} (h : Norm l) : strip l = l := norm_inj (strip_norm h.1) h (val_strip l)
theorem strip_zero (l : List Int) : strip (l ++ [0]) = strip l := by
  induction l with
  | nil => simp [strip]
  | cons x l ih => simp only [List.cons_append, strip, ih]
theorem strip_top_eq {l : List Int} {x : Int} (hx : x ≠ 0) : strip (l ++ [x]) = l ++ [x] := by
  induction l with
  | nil => simp [strip, hx]
  | cons y l ih =>
    simp only [List.cons_append, strip, ih]
    rw [if_neg (by simp)]
/-- Is a list a valid number? -/
def okB (l : List Int) : Bool := decide (l.length ≤ 100) && l.all (fun x => decide (0 ≤ x) && decide (x ≤ 65535)) && (l.getLast? != some 0)
theorem okB_iff (l : List Int) : okB l = true ↔ l.length ≤ 100 ∧ Norm l := by
  simp only [okB, Norm, Limbs, Top, Bool.and_eq_true, decide_eq_true_eq, List.all_eq_true, bne_iff_ne, and_assoc]
end Go.Proofs.Ytnodpgddmkmngaa.Lib
/- Bits of whole numbers that are not negative. Of no program. -/
namespace Go.Proofs.Ytnodpgddmkmngaa.Lib
open Go.RowKit
theorem wraps_i64 (n : Int) (h₀ : 0 ≤ n) (h₁ : n < 2 ^ 63) : IntKind.i64.wrap n = n := by
  rw [IntKind.wrap_i64]; omega
theorem and_mask (i : Nat) (hi : i ≤ 63) (x : Int) (h0 : 0 ≤ x) (h1 : x ≤ 9223372036854775807) : Go.bits .and .i64 x (2 ^ i - 1) = x % 2 ^ i :=
  bits_mask .i64 63 (by decide) wraps_i64 i hi x h0 (by omega)
theorem or_join (i : Nat) (x y : Int) (hx0 : 0 ≤ x) (hx1 : x ≤ 9223372036854775807) (hx : x % 2 ^ i = 0) (hy0 : 0 ≤ y) (hy : y < 2 ^ i) (hy1 : y ≤ 9223372036854775807) : Go.bits .or .i64 x y = x + y :=
  bits_join .i64 63 (by decide) wraps_i64 i x y hx0 hx (by omega) hy0 hy (by omega)
theorem bits_or_comm (x y : Int) : Go.bits .or .i64 x y = Go.bits .or .i64 y x := by
  simp only [Go.bits, BitVec.or_comm]
section
variable (x : Int) (h0 : 0 ≤ x) (h1 : x ≤ 9223372036854775807)
include h0 h1
theorem and_1 : Go.bits .and .i64 x 1 = x % 2 := and_mask 1 (by decide) x h0 h1
theorem and_7 : Go.bits .and .i64 x 7 = x % 8 := and_mask 3 (by decide) x h0 h1
theorem and_15 : Go.bits .and .i64 x 15 = x % 16 := and_mask 4 (by decide) x h0 h1
theorem and_31 : Go.bits .and .i64 x 31 = x % 32 := and_mask 5 (by decide) x h0 h1
theorem and_63 : Go.bits .and .i64 x 63 = x % 64 := and_mask 6 (by decide) x h0 h1
theorem and_255 : Go.bits .and .i64 x 255 = x % 256 := and_mask 8 (by decide) x h0 h1
theorem and_2047 : Go.bits .and .i64 x 2047 = x % 2048 := and_mask 11 (by decide) x h0 h1
theorem and_20 : Go.bits .and .i64 x 1048575 = x % 1048576 := and_mask 20 (by decide) x h0 h1
theorem and_30 : Go.bits .and .i64 x 1073741823 = x % 1073741824 := and_mask 30 (by decide) x h0 h1
theorem and_32 : Go.bits .and .i64 x 4294967295 = x % 4294967296 := and_mask 32 (by decide) x h0 h1
theorem and_52 : Go.bits .and .i64 x 4503599627370495 = x % 4503599627370496 := and_mask 52 (by decide) x h0 h1
end
end Go.Proofs.Ytnodpgddmkmngaa.Lib
/- The one form of a whole number that fits an int; Go's division at what is not negative. Of no program. -/
namespace Go.Proofs.Ytnodpgddmkmngaa.Lib
open Go.RowKit
theorem td (a b : Int) (h : 0 ≤ a) : Int.tdiv a b = a / b := Int.tdiv_eq_ediv_of_nonneg h
theorem tm (a b : Int) (h : 0 ≤ a) : Int.tmod a b = a % b := Int.tmod_eq_emod_of_nonneg h
/-- The limbs of n, f of them at the most. -/
def digF : Nat → Int → List Int
  | 0, _ => []
  | f + 1, n => if n ≤ 0 then [] else (n % 65536) :: digF f (n / 65536)
/-- The limbs of an int that is not negative. -/
def dig (n : Int) : List Int := digF 4 n
theorem digF_len (f : Nat) : ∀ n, (digF f n).length ≤ f := by
  induction f with
  | zero => intro n; simp [digF]
  | succ f ih =>
    intro n
    unfold digF
    by_cases h : n ≤ 0
    · rw [if_pos h]; simp
    · rw [if_neg h]
      have := ih (n / 65536)
      simp; omega
theorem digF_limbs (f : Nat) : ∀ n, Limbs (digF f n) := by
  induction f with
  | zero => intro n; simp [digF]; exact Limbs.nil
  | succ f ih =>
    intro n
    unfold digF
    by_cases h : n ≤ 0
    · rw [if_pos h]; exact Limbs.nil
    · rw [if_neg h]; exact Limbs.cons (by omega) (by omega) (ih _)
theorem digF_val (f : Nat) : ∀ n, 0 ≤ n → n < pw f → val (digF f n) = n := by
  induction f with
  | zero => intro n h0 h1; simp [pw] at h1; simp [digF, val]; omega
  | succ f ih =>
    intro n h0 h1
    unfold digF
    by_cases h : n ≤ 0
    · rw [if_pos h]; simp [val]; omega
    · rw [if_neg h]
      simp only [pw] at h1
      simp only [val]
      rw [ih (n / 65536) (by omega) (by omega)]
      omega
theorem digF_top (f : Nat) : ∀ n, 0 ≤ n → n < pw f → Top (digF f n) := by
  induction f with
  | zero => intro n _ _; simp [digF, Top]
  | succ f ih =>
    intro n h0 h1
    unfold digF
    by_cases h : n ≤ 0
    · rw [if_pos h]; simp [Top]
    · rw [if_neg h]
      simp only [pw] at h1
      have h2 := ih (n / 65536) (by omega) (by omega)
      have h3 := digF_val f (n / 65536) (by omega) (by omega)
      unfold Top at *
      by_cases e : digF f (n / 65536) = []
      · rw [e] at h3 ⊢
        simp only [val] at h3
        rw [List.getLast?_singleton]
        intro hx
        have := Option.some.inj hx
        omega
      · rw [List.getLast?_cons_of_ne_nil e]; exact h2
theorem pw4 : pw 4 = 18446744073709551616 := by simp [pw]
theorem dig_norm {n : Int} (h0 : 0 ≤ n) (h1 : n ≤ 9223372036854775807) : Norm (dig n) := ⟨digF_limbs _ _, digF_top _ _ h0 (by rw [pw4]; omega)⟩
theorem dig_val {n : Int} (h0 : 0 ≤ n) (h1 : n ≤ 9223372036854775807) : val (dig n) = n := digF_val _ _ h0 (by rw [pw4]; omega)
theorem dig_len (n : Int) : (dig n).length ≤ 4 := digF_len _ _
theorem dig_zero : dig 0 = [] := by simp [dig, digF]
theorem dig_of_norm {l : List Int} (h : Norm l) (h1 : val l ≤ 9223372036854775807) : l = dig (val l) :=
  norm_inj h (dig_norm (val_nonneg h.1) h1) (dig_val (val_nonneg h.1) h1).symm
theorem dig_small {n : Int} (h0 : 1 ≤ n) (h1 : n ≤ 65535) : dig n = [n] := by
  simp only [dig, digF]
  rw [if_neg (by omega), show n / 65536 = 0 by omega, show n % 65536 = n by omega]
  simp
end Go.Proofs.Ytnodpgddmkmngaa.Lib
