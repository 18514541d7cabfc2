/- Small facts on numbers and lists that this law's pure text wants, of no program. -/
import Derived.Test.YthmieecgojiliaaDoorVFnExactDecTexta
import Derived.Laws.BitsLemmas
import Derived.Lib.BitFns
/- Small facts on numbers, lists and rounds, of no program. -/
namespace Go.Proofs.YthmieecgojiliaaDoor.Lib
open Go.RowKit Go.Proofs.YthmieecgojiliaaDoorW.PrintWords Go.Proofs.YthmieecgojiliaaDoorW.PrintLast

theorem w64 {x : Int} (h1 : -9223372036854775808 ≤ x) (h2 : x ≤ 9223372036854775807) : wrap64 x = x := by
  unfold wrap64; omega

theorem rd_nat (l : List Int) (i : Nat) : rd l (i : Int) = l.getD i 0 := by unfold rd; simp
theorem rd_get (l : List Int) (i : Nat) (h : i < l.length) : rd l (i : Int) = l[i] := by
  rw [rd_nat]; simp [List.getD, List.getElem?_eq_getElem h]

theorem ev_bind0 {α β : Type} {g : Option α} {f : Nat → α → Option β} {a : α} {r : β} (h : g = some a) (k : Ev (fun n => f n a) r) : Ev (fun n => g.bind (f n)) r := by
  subst h; exact k
theorem ev_if_pos {α : Type} {c : Prop} [Decidable c] {g f : Nat → Option α} {r : α} (h : c) (k : Ev g r) : Ev (fun n => if c then g n else f n) r := by
  simp only [if_pos h]; exact k
theorem ev_if_neg {α : Type} {c : Prop} [Decidable c] {g f : Nat → Option α} {r : α} (h : ¬ c) (k : Ev f r) : Ev (fun n => if c then g n else f n) r := by
  simp only [if_neg h]; exact k
/-- A tested way: either side. -/
theorem ev_if {α : Type} {c : Prop} [Decidable c] {g f : Nat → Option α} {r : α} (h1 : c → Ev g r) (h2 : ¬ c → Ev f r) : Ev (fun n => if c then g n else f n) r := by
  by_cases h : c
  · exact ev_if_pos h (h1 h)
  · exact ev_if_neg h (h2 h)
end Go.Proofs.YthmieecgojiliaaDoor.Lib
/- Numbers in base 65536 as lists, lowest first: values, the one form, uniqueness. Of no program. -/
namespace Go.Proofs.YthmieecgojiliaaDoor.Lib

/-- All elements are limbs. -/
def Limbs (l : List Int) : Prop := ∀ x ∈ l, 0 ≤ x ∧ x ≤ 65535
/-- A list's value. -/
def val : List Int → Int
  | [] => 0
  | x :: l => x + 65536 * val l
/-- Powers of the base. -/
def pw : Nat → Int
  | 0 => 1
  | n + 1 => 65536 * pw n
theorem pw_pos (n : Nat) : 1 ≤ pw n := by
  induction n with
  | zero => simp [pw]
  | succ n ih => simp only [pw]; omega
theorem pw_le {a b : Nat} (h : a ≤ b) : pw a ≤ pw b := by
  induction b with
  | zero => have : a = 0 := by omega
            subst this; exact Int.le_refl _
  | succ b ih =>
    by_cases e : a = b + 1
    · subst e; exact Int.le_refl _
    · have := ih (by omega)
      have := pw_pos b
      simp only [pw]; omega
theorem Limbs.nil : Limbs [] := fun _ h => by cases h
theorem Limbs.cons {x : Int} {l : List Int} (h0 : 0 ≤ x) (h1 : x ≤ 65535) (h : Limbs l) : Limbs (x :: l) := fun y hy => by
  rcases List.mem_cons.1 hy with rfl | hy
  · exact ⟨h0, h1⟩
  · exact h y hy
theorem Limbs.tail {x : Int} {l : List Int} (h : Limbs (x :: l)) : Limbs l := fun y hy => h y (List.mem_cons_of_mem _ hy)
theorem Limbs.head {x : Int} {l : List Int} (h : Limbs (x :: l)) : 0 ≤ x ∧ x ≤ 65535 := h x List.mem_cons_self
theorem Limbs.append {a b : List Int} (ha : Limbs a) (hb : Limbs b) : Limbs (a ++ b) := fun y hy => by
  rcases List.mem_append.1 hy with hy | hy
  · exact ha y hy
  · exact hb y hy
theorem Limbs.left {a b : List Int} (h : Limbs (a ++ b)) : Limbs a := fun y hy => h y (List.mem_append_left _ hy)
theorem Limbs.take {a : List Int} (h : Limbs a) (n : Nat) : Limbs (a.take n) := fun y hy => h y (List.mem_of_mem_take hy)
theorem Limbs.drop {a : List Int} (h : Limbs a) (n : Nat) : Limbs (a.drop n) := fun y hy => h y (List.mem_of_mem_drop hy)
theorem Limbs.getD {l : List Int} (h : Limbs l) (i : Nat) : 0 ≤ l.getD i 0 ∧ l.getD i 0 ≤ 65535 := by
  by_cases hi : i < l.length
  · simp only [List.getD, List.getElem?_eq_getElem hi, Option.getD_some]
    exact h _ (List.getElem_mem hi)
  · simp [List.getD, List.getElem?_eq_none (by omega : l.length ≤ i)]
theorem Limbs.zeros (n : Nat) : Limbs (List.replicate n 0) := fun y hy => by
  have := List.eq_of_mem_replicate hy
  omega
theorem Limbs.set {l : List Int} (h : Limbs l) (i : Nat) {x : Int} (h0 : 0 ≤ x) (h1 : x ≤ 65535) : Limbs (l.set i x) := fun y hy => by
  rcases List.mem_or_eq_of_mem_set hy with hy | rfl
  · exact h y hy
  · exact ⟨h0, h1⟩

theorem val_nonneg {l : List Int} (h : Limbs l) : 0 ≤ val l := by
  induction l with
  | nil => exact Int.le_refl _
  | cons x l ih =>
    have := ih h.tail
    have := h.head
    simp only [val]; omega
theorem val_lt {l : List Int} (h : Limbs l) : val l < pw l.length := by
  induction l with
  | nil => simp [val, pw]
  | cons x l ih =>
    have := ih h.tail
    have := h.head
    simp only [val, pw, List.length_cons]; omega
theorem val_append (a b : List Int) : val (a ++ b) = val a + pw a.length * val b := by
  induction a with
  | nil => simp [val, pw]
  | cons x a ih =>
    simp only [List.cons_append, val, ih, List.length_cons, pw, Int.mul_add, Int.mul_assoc]
    omega
theorem val_snoc (a : List Int) (x : Int) : val (a ++ [x]) = val a + pw a.length * x := by
  rw [val_append]; simp [val]
/-- Same length, same value, same list. -/
theorem val_inj : ∀ {a b : List Int}, Limbs a → Limbs b → a.length = b.length → val a = val b → a = b
  | [], [], _, _, _, _ => rfl
  | [], _ :: _, _, _, h, _ => by simp at h
  | _ :: _, [], _, _, h, _ => by simp at h
  | x :: a, y :: b, ha, hb, hl, hv => by
    have h1 := ha.head
    have h2 := hb.head
    simp only [val] at hv
    have e : x = y := by omega
    subst e
    have : val a = val b := by omega
    rw [val_inj ha.tail hb.tail (by simpa using hl) this]
/-- No zero at the high end. -/
def Top (l : List Int) : Prop := l.getLast? ≠ some 0
/-- The one form of a number. -/
def Norm (l : List Int) : Prop := Limbs l ∧ Top l
theorem Norm.nil : Norm [] := ⟨Limbs.nil, by simp [Top]⟩
theorem Norm.low {l : List Int} (h : Norm l) (hn : l ≠ []) : pw (l.length - 1) ≤ val l := by
  obtain ⟨hl, ht⟩ := h
  obtain ⟨a, x, rfl⟩ : ∃ a x, l = a ++ [x] := ⟨l.dropLast, l.getLast hn, (List.dropLast_concat_getLast hn).symm⟩
  have hx := hl x (by simp)
  have hx0 : x ≠ 0 := fun e => ht (by simp [e])
  have h1 := val_nonneg hl.left
  have h2 := pw_pos a.length
  rw [val_snoc]
  have h3 : pw a.length * 1 ≤ pw a.length * x := Int.mul_le_mul_of_nonneg_left (by omega) (by omega)
  simp only [List.length_append, List.length_cons, List.length_nil, Nat.add_sub_cancel]
  omega
theorem Norm.zero {l : List Int} (h : Norm l) (hv : val l = 0) : l = [] := by
  by_cases hn : l = []
  · exact hn
  · have := h.low hn
    have := pw_pos (l.length - 1)
    omega
theorem Norm.pos {l : List Int} (h : Norm l) (hn : l ≠ []) : 1 ≤ val l := by
  have := h.low hn
  have := pw_pos (l.length - 1)
  omega
theorem len_le_of_val {a b : List Int} (ha : Norm a) (hb : Limbs b) (hv : val a ≤ val b) : a.length ≤ b.length := by
  by_cases hn : a = []
  · subst hn; simp
  · have h1 := ha.low hn
    have h2 := val_lt hb
    by_cases h : a.length ≤ b.length
    · exact h
    · have := pw_le (show b.length ≤ a.length - 1 by omega)
      omega
theorem norm_inj {a b : List Int} (ha : Norm a) (hb : Norm b) (hv : val a = val b) : a = b :=
  val_inj ha.1 hb.1 (Nat.le_antisymm (len_le_of_val ha hb.1 (by omega)) (len_le_of_val hb ha.1 (by omega))) hv
/-- Zeros at the high end taken away. -/
def strip : List Int → List Int
  | [] => []
  | x :: l => if strip l = [] ∧ x = 0 then [] else x :: strip l
theorem val_strip (l : List Int) : val (strip l) = val l := by
  induction l with
  | nil => rfl
  | cons x l ih =>
    simp only [strip]
    split
    · rename_i h
      rw [h.1] at ih
      simp only [val] at ih ⊢
      omega
    · simp only [val, ih]
theorem strip_limbs {l : List Int} (h : Limbs l) : Limbs (strip l) := by
  induction l with
  | nil => exact h
  | cons x l ih =>
    simp only [strip]
    split
    · exact Limbs.nil
    · exact Limbs.cons h.head.1 h.head.2 (ih h.tail)
theorem strip_top (l : List Int) : Top (strip l) := by
  induction l with
  | nil => simp [strip, Top]
  | cons x l ih =>
    simp only [strip]
    split
    · simp [Top]
    · rename_i h
      unfold Top at *
      by_cases e : strip l = []
      · rw [e]; simp only [List.getLast?_singleton]
        intro hx
        exact h ⟨e, by simpa using hx⟩
      · rw [List.getLast?_cons_of_ne_nil e]; exact ih
theorem strip_norm {l : List Int} (h : Limbs l) : Norm (strip l) := ⟨strip_limbs h, strip_top l⟩
theorem strip_len (l : List Int) : (strip l).length ≤ l.length := by
  induction l with
  | nil => simp [strip]
  | cons x l ih =>
    simp only [strip]
    split
    · simp
    · simp; exact ih
theorem strip_of_norm {l : List Int} (h : Norm l) : strip l = l := norm_inj (strip_norm h.1) h (val_strip l)
theorem strip_zero (l : List Int) : strip (l ++ [0]) = strip l := by
  induction l with
  | nil => simp [strip]
  | cons x l ih => simp only [List.cons_append, strip, ih]
theorem strip_top_eq {l : List Int} {x : Int} (hx : x ≠ 0) : strip (l ++ [x]) = l ++ [x] := by
  induction l with
  | nil => simp [strip, hx]
  | cons y l ih =>
    simp only [List.cons_append, strip, ih]
    rw [if_neg (by simp)]
/-- Is a list a valid number? -/
def okB (l : List Int) : Bool := decide (l.length ≤ 100) && l.all (fun x => decide (0 ≤ x) && decide (x ≤ 65535)) && (l.getLast? != some 0)
theorem okB_iff (l : List Int) : okB l = true ↔ l.length ≤ 100 ∧ Norm l := by
  simp only [okB, Norm, Limbs, Top, Bool.and_eq_true, decide_eq_true_eq, List.all_eq_true, bne_iff_ne, and_assoc]
end Go.Proofs.YthmieecgojiliaaDoor.Lib
/- Bits of whole numbers that are not negative. Of no program. -/
namespace Go.Proofs.YthmieecgojiliaaDoor.Lib
open Go.RowKit
section
variable (x : Int) (h0 : 0 ≤ x) (h1 : x ≤ 9223372036854775807)
include h0 h1
end
end Go.Proofs.YthmieecgojiliaaDoor.Lib
/- The one form of a whole number that fits an int; Go's division at what is not negative. Of no program. -/
namespace Go.Proofs.YthmieecgojiliaaDoor.Lib
open Go.RowKit
theorem td (a b : Int) (h : 0 ≤ a) : Int.tdiv a b = a / b := Int.tdiv_eq_ediv_of_nonneg h
theorem tm (a b : Int) (h : 0 ≤ a) : Int.tmod a b = a % b := Int.tmod_eq_emod_of_nonneg h
/-- The limbs of n, f of them at the most. -/
def digF : Nat → Int → List Int
  | 0, _ => []
  | f + 1, n => if n ≤ 0 then [] else (n % 65536) :: digF f (n / 65536)
/-- The limbs of an int that is not negative. -/
def dig (n : Int) : List Int := digF 4 n
theorem digF_len (f : Nat) : ∀ n, (digF f n).length ≤ f := by
  induction f with
  | zero => intro n; simp [digF]
  | succ f ih =>
    intro n
    unfold digF
    by_cases h : n ≤ 0
    · rw [if_pos h]; simp
    · rw [if_neg h]
      have := ih (n / 65536)
      simp; omega
theorem digF_limbs (f : Nat) : ∀ n, Limbs (digF f n) := by
  induction f with
  | zero => intro n; simp [digF]; exact Limbs.nil
  | succ f ih =>
    intro n
    unfold digF
    by_cases h : n ≤ 0
    · rw [if_pos h]; exact Limbs.nil
    · rw [if_neg h]; exact Limbs.cons (by omega) (by omega) (ih _)
theorem digF_val (f : Nat) : ∀ n, 0 ≤ n → n < pw f → val (digF f n) = n := by
  induction f with
  | zero => intro n h0 h1; simp [pw] at h1; simp [digF, val]; omega
  | succ f ih =>
    intro n h0 h1
    unfold digF
    by_cases h : n ≤ 0
    · rw [if_pos h]; simp [val]; omega
    · rw [if_neg h]
      simp only [pw] at h1
      simp only [val]
      rw [ih (n / 65536) (by omega) (by omega)]
      omega
theorem digF_top (f : Nat) : ∀ n, 0 ≤ n → n < pw f → Top (digF f n) := by
  induction f with
  | zero => intro n _ _; simp [digF, Top]
  | succ f ih =>
    intro n h0 h1
    unfold digF
    by_cases h : n ≤ 0
    · rw [if_pos h]; simp [Top]
    · rw [if_neg h]
      simp only [pw] at h1
      have h2 := ih (n / 65536) (by omega) (by omega)
      have h3 := digF_val f (n / 65536) (by omega) (by omega)
      unfold Top at *
      by_cases e : digF f (n / 65536) = []
      · rw [e] at h3 ⊢
        simp only [val] at h3
        rw [List.getLast?_singleton]
        intro hx
        have := Option.some.inj hx
        omega
      · rw [List.getLast?_cons_of_ne_nil e]; exact h2
theorem pw4 : pw 4 = 18446744073709551616 := by simp [pw]
theorem dig_norm {n : Int} (h0 : 0 ≤ n) (h1 : n ≤ 9223372036854775807) : Norm (dig n) := ⟨digF_limbs _ _, digF_top _ _ h0 (by rw [pw4]; omega)⟩
theorem dig_val {n : Int} (h0 : 0 ≤ n) (h1 : n ≤ 9223372036854775807) : val (dig n) = n := digF_val _ _ h0 (by rw [pw4]; omega)
theorem dig_len (n : Int) : (dig n).length ≤ 4 := digF_len _ _
end Go.Proofs.YthmieecgojiliaaDoor.Lib
/- Comparing numbers; the number of bits. Of no program. -/
namespace Go.Proofs.YthmieecgojiliaaDoor.Lib
open Go.RowKit Go.Proofs.YthmieecgojiliaaDoorW.PrintWords Go.Proofs.YthmieecgojiliaaDoorW.PrintLast

end Go.Proofs.YthmieecgojiliaaDoor.Lib
/- More on values. Of no program. -/
namespace Go.Proofs.YthmieecgojiliaaDoor.Lib
open Go.RowKit Go.Proofs.YthmieecgojiliaaDoorW.PrintWords Go.Proofs.YthmieecgojiliaaDoorW.PrintLast
theorem val_drop_at {l : List Int} {i : Nat} (h : i < l.length) : val (l.drop i) = rd l (i : Int) + 65536 * val (l.drop (i + 1)) := by
  rw [List.drop_eq_getElem_cons h, rd_get _ _ h]; rfl
theorem rd_limb {l : List Int} (h : Limbs l) (i : Int) : 0 ≤ rd l i ∧ rd l i ≤ 65535 := h.getD i.toNat
end Go.Proofs.YthmieecgojiliaaDoor.Lib
/- Zeros at the high end; a quotient by a small number. Of no program. -/
namespace Go.Proofs.YthmieecgojiliaaDoor.Lib
open Go.RowKit Go.Proofs.YthmieecgojiliaaDoorW.PrintWords Go.Proofs.YthmieecgojiliaaDoorW.PrintLast
theorem take_snoc {l : List Int} {n : Nat} (h : n < l.length) : l.take (n + 1) = l.take n ++ [l[n]] := List.take_succ_eq_append_getElem h
theorem strip_take_zero {l : List Int} {n : Nat} (h : n < l.length) (h0 : l[n] = 0) : strip (l.take (n + 1)) = strip (l.take n) := by
  rw [take_snoc h, h0, strip_zero]
theorem strip_take_ne {l : List Int} {n : Nat} (h : n < l.length) (h0 : l[n] ≠ 0) : strip (l.take (n + 1)) = l.take (n + 1) := by
  rw [take_snoc h, strip_top_eq h0]
theorem len_set_drop (l : List Int) (i : Nat) (x : Int) : (l.set i x).drop (i + 1) = l.drop (i + 1) := by
  rw [List.drop_set_of_lt (by omega)]
theorem val_set_drop (l : List Int) (i : Nat) (x : Int) (h : i < l.length) : val ((l.set i x).drop i) = x + 65536 * val (l.drop (i + 1)) := by
  rw [List.drop_eq_getElem_cons (by simpa using h)]
  simp [val, len_set_drop]
/-- A step of a long division by a small number. -/
theorem small_step (D r x y q : Int) (_hD : 1 ≤ D) (hx : x = q * D + r) : y + 65536 * x = ((r * 65536 + y) / D + 65536 * q) * D + (r * 65536 + y) % D := by
  have e := Int.mul_ediv_add_emod (r * 65536 + y) D
  rw [hx, Int.add_mul, Int.mul_assoc 65536 q D]
  have e2 : (r * 65536 + y) / D * D = D * ((r * 65536 + y) / D) := Int.mul_comm _ _
  omega
theorem small_digit (D r y : Int) (hD : 1 ≤ D) (h0 : 0 ≤ r) (h1 : r < D) (hy0 : 0 ≤ y) (hy1 : y ≤ 65535) : 0 ≤ (r * 65536 + y) / D ∧ (r * 65536 + y) / D ≤ 65535 := by
  constructor
  · exact Int.ediv_nonneg (by omega) (by omega)
  · have : (r * 65536 + y) / D < 65536 := Int.ediv_lt_of_lt_mul (by omega) (by omega)
    omega
theorem div_unique {a q r D : Int} (hD : 1 ≤ D) (h : a = q * D + r) (h0 : 0 ≤ r) (h1 : r < D) : q = a / D ∧ r = a % D := by
  have e : a = r + D * q := by rw [h, Int.mul_comm]; omega
  constructor
  · rw [e, Int.add_mul_ediv_left _ _ (by omega), Int.ediv_eq_zero_of_lt h0 h1]; omega
  · rw [e, Int.add_mul_emod_self_left, Int.emod_eq_of_lt h0 h1]
end Go.Proofs.YthmieecgojiliaaDoor.Lib
/- Shifts. Of no program. -/
namespace Go.Proofs.YthmieecgojiliaaDoor.Lib
open Go.RowKit Go.Proofs.YthmieecgojiliaaDoorW.PrintWords Go.Proofs.YthmieecgojiliaaDoorW.PrintLast Go.Proofs.YthmieecgojiliaaDoorW.PrintMore
theorem rd_out (l : List Int) (i : Nat) (h : l.length ≤ i) : rd l (i : Int) = 0 := by
  rw [rd_nat]; simp [List.getD, List.getElem?_eq_none h]
end Go.Proofs.YthmieecgojiliaaDoor.Lib
/- Decoding a rune. Of no program. -/
namespace Go.Proofs.YthmieecgojiliaaDoor.Lib
open Go.RowKit Go.Proofs.YthmieecgojiliaaDoorW.PrintWords Go.Proofs.YthmieecgojiliaaDoorW.PrintLast
/-- All elements are bytes. -/
def Bytes (l : List Int) : Prop := ∀ x ∈ l, 0 ≤ x ∧ x ≤ 255
theorem Bytes.drop {l : List Int} (h : Bytes l) (n : Nat) : Bytes (l.drop n) := fun x hx => h x (List.mem_of_mem_drop hx)
theorem Bytes.take {l : List Int} (h : Bytes l) (n : Nat) : Bytes (l.take n) := fun x hx => h x (List.mem_of_mem_take hx)
theorem Bytes.head {x : Int} {l : List Int} (h : Bytes (x :: l)) : 0 ≤ x ∧ x ≤ 255 := h x List.mem_cons_self
theorem Bytes.tail {x : Int} {l : List Int} (h : Bytes (x :: l)) : Bytes l := fun y hy => h y (List.mem_cons_of_mem _ hy)
theorem Bytes.nil : Bytes [] := fun _ h => by cases h
theorem Bytes.cons {x : Int} {l : List Int} (h0 : 0 ≤ x) (h1 : x ≤ 255) (h : Bytes l) : Bytes (x :: l) := fun y hy => by
  rcases List.mem_cons.1 hy with rfl | hy
  · exact ⟨h0, h1⟩
  · exact h y hy
theorem Bytes.append {a b : List Int} (ha : Bytes a) (hb : Bytes b) : Bytes (a ++ b) := fun y hy => by
  rcases List.mem_append.1 hy with hy | hy
  · exact ha y hy
  · exact hb y hy
theorem Bytes.at_ {l : List Int} (h : Bytes l) (i : Int) : 0 ≤ rd l i ∧ rd l i ≤ 255 := by
  unfold rd
  by_cases hi : i.toNat < l.length
  · simp only [List.getD, List.getElem?_eq_getElem hi, Option.getD_some]
    exact h _ (List.getElem_mem hi)
  · simp [List.getD, List.getElem?_eq_none (by omega : l.length ≤ i.toNat)]
end Go.Proofs.YthmieecgojiliaaDoor.Lib
/- Decimal digits, lowest first: values, the one form. Of no program. -/
namespace Go.Proofs.YthmieecgojiliaaDoor.Lib
open Go.RowKit Go.Proofs.YthmieecgojiliaaDoorW.PrintWords Go.Proofs.YthmieecgojiliaaDoorW.PrintLast
/-- All are digits, as bytes. -/
def Dgs (l : List Int) : Prop := ∀ x ∈ l, 48 ≤ x ∧ x ≤ 57
def val10 : List Int → Int
  | [] => 0
  | x :: l => (x - 48) + 10 * val10 l
def pt : Nat → Int
  | 0 => 1
  | n + 1 => 10 * pt n
theorem Dgs.nil : Dgs [] := fun _ h => by cases h
theorem Dgs.cons {x : Int} {l : List Int} (h0 : 48 ≤ x) (h1 : x ≤ 57) (h : Dgs l) : Dgs (x :: l) := fun y hy => by
  rcases List.mem_cons.1 hy with rfl | hy
  · exact ⟨h0, h1⟩
  · exact h y hy
theorem Dgs.tail {x : Int} {l : List Int} (h : Dgs (x :: l)) : Dgs l := fun y hy => h y (List.mem_cons_of_mem _ hy)
theorem Dgs.head {x : Int} {l : List Int} (h : Dgs (x :: l)) : 48 ≤ x ∧ x ≤ 57 := h x List.mem_cons_self
theorem Dgs.snoc {x : Int} {l : List Int} (h : Dgs l) (h0 : 48 ≤ x) (h1 : x ≤ 57) : Dgs (l ++ [x]) := fun y hy => by
  rcases List.mem_append.1 hy with hy | hy
  · exact h y hy
  · have : y = x := by simpa using hy
    subst this; exact ⟨h0, h1⟩
theorem Dgs.left {a b : List Int} (h : Dgs (a ++ b)) : Dgs a := fun y hy => h y (List.mem_append_left _ hy)
theorem pt_pos (n : Nat) : 1 ≤ pt n := by
  induction n with
  | zero => simp [pt]
  | succ n ih => simp only [pt]; omega
theorem pt_le {a b : Nat} (h : a ≤ b) : pt a ≤ pt b := by
  induction b with
  | zero => have : a = 0 := by omega
            subst this; exact Int.le_refl _
  | succ b ih =>
    by_cases e : a = b + 1
    · subst e; exact Int.le_refl _
    · have := ih (by omega)
      have := pt_pos b
      simp only [pt]; omega
theorem val10_snoc (l : List Int) (x : Int) : val10 (l ++ [x]) = val10 l + pt l.length * (x - 48) := by
  induction l with
  | nil => simp [val10, pt]
  | cons y l ih =>
    simp only [List.cons_append, val10, ih, List.length_cons, pt, Int.mul_add, Int.mul_assoc]
    omega
theorem val10_nonneg {l : List Int} (h : Dgs l) : 0 ≤ val10 l := by
  induction l with
  | nil => exact Int.le_refl _
  | cons x l ih =>
    have := ih h.tail
    have := h.head
    simp only [val10]; omega
theorem val10_low {l : List Int} (h : Dgs l) (hn : l ≠ []) (ht : l.getLast? ≠ some 48) : pt (l.length - 1) ≤ val10 l := by
  obtain ⟨a, x, rfl⟩ : ∃ a x, l = a ++ [x] := ⟨l.dropLast, l.getLast hn, (List.dropLast_concat_getLast hn).symm⟩
  have hx := h x (by simp)
  have hx0 : x ≠ 48 := fun e => ht (by simp [e])
  have h1 := val10_nonneg h.left
  have h2 := pt_pos a.length
  rw [val10_snoc]
  have h3 : pt a.length * 1 ≤ pt a.length * (x - 48) := Int.mul_le_mul_of_nonneg_left (by omega) (by omega)
  simp only [List.length_append, List.length_cons, List.length_nil, Nat.add_sub_cancel]
  omega
theorem last_tail {x : Int} {l : List Int} {c : Int} (h : (x :: l).getLast? ≠ some c) : l.getLast? ≠ some c := by
  cases l with
  | nil => simp
  | cons y l => rwa [List.getLast?_cons_of_ne_nil (by simp)] at h
theorem val10_inj : ∀ {a b : List Int}, Dgs a → Dgs b → a.getLast? ≠ some 48 → b.getLast? ≠ some 48 → val10 a = val10 b → a = b
  | [], [], _, _, _, _, _ => rfl
  | [], y :: b, _, hb, _, tb, h => by
    have h1 := val10_low hb (by simp) tb
    have h2 := pt_pos ((y :: b).length - 1)
    have h3 : val10 [] = 0 := rfl
    omega
  | x :: a, [], ha, _, ta, _, h => by
    have h1 := val10_low ha (by simp) ta
    have h2 := pt_pos ((x :: a).length - 1)
    have h3 : val10 [] = 0 := rfl
    omega
  | x :: a, y :: b, ha, hb, ta, tb, h => by
    have h1 := ha.head
    have h2 := hb.head
    simp only [val10] at h
    have e : x = y := by omega
    subst e
    rw [val10_inj ha.tail hb.tail (last_tail ta) (last_tail tb) (by omega)]
theorem pt_mul10 (n : Nat) (x q : Int) : pt n * (x - 48) + pt (n + 1) * q = pt n * ((x - 48) + 10 * q) := by
  simp only [pt]
  rw [Int.mul_add, ← Int.mul_assoc (pt n) 10 q, Int.mul_comm (pt n) 10]
/-- Fewer digits than a bound tells. -/
theorem val10_len {l : List Int} (h : Dgs l) (hn : l.getLast? ≠ some 48) {n : Nat} (hv : val10 l < pt n) : l.length ≤ n := by
  by_cases e : l = []
  · subst e; simp
  · have h1 := val10_low h e hn
    by_cases h2 : l.length ≤ n
    · exact h2
    · have := pt_le (show n ≤ l.length - 1 by omega)
      omega
theorem pw_pt (n : Nat) : pw n ≤ pt (5 * n) := by
  induction n with
  | zero => simp [pw, pt]
  | succ n ih =>
    have h := pt_pos (5 * n)
    rw [show 5 * (n + 1) = 5 * n + 5 by omega]
    simp only [pw, pt]
    omega
/-- The decimal digits of a number that is not 0, lowest first. -/
structure IsDec (v : Int) (l : List Int) : Prop where
  dgs : Dgs l
  top : l.getLast? ≠ some 48
  eq : val10 l = v
theorem IsDec.inj {v : Int} {a b : List Int} (ha : IsDec v a) (hb : IsDec v b) : a = b := val10_inj ha.dgs hb.dgs ha.top hb.top (by rw [ha.eq, hb.eq])
theorem IsDec.len {v : Int} {a : List Int} (ha : IsDec v a) {n : Nat} (hv : v < pw n) : a.length ≤ 5 * n := val10_len ha.dgs ha.top (by rw [ha.eq]; have := pw_pt n; omega)
theorem IsDec.pos {v : Int} {a : List Int} (ha : IsDec v a) (hv : 1 ≤ v) : a ≠ [] := fun e => by
  have := ha.eq
  rw [e] at this
  simp only [val10] at this
  omega
end Go.Proofs.YthmieecgojiliaaDoor.Lib
/- Draws: bytes out of a mixed number. Of no program. -/
namespace Go.Proofs.YthmieecgojiliaaDoor.Lib
open Go.RowKit Go.Proofs.YthmieecgojiliaaDoorW.PrintWords Go.Proofs.YthmieecgojiliaaDoorW.PrintLast
end Go.Proofs.YthmieecgojiliaaDoor.Lib
/- Powers of two. Of no program. -/
namespace Go.Proofs.YthmieecgojiliaaDoor.Lib
open Go.RowKit Go.Proofs.YthmieecgojiliaaDoorW.PrintWords Go.Proofs.YthmieecgojiliaaDoorW.PrintLast
/-- A magnitude with a sign. -/
def sg (s : Bool) (m : Int) : Int := if s = true then -m else m
end Go.Proofs.YthmieecgojiliaaDoor.Lib
