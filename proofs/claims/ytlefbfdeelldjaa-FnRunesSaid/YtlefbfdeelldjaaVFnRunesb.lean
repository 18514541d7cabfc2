/- Small facts on numbers and lists that this law's pure text wants, of no program. -/
import Derived.Test.YtlefbfdeelldjaaVFnRunesa
import Derived.Laws.BitsLemmas
import Derived.Lib.BitFns
/- Small facts on numbers, lists and rounds, of no program. -/
namespace Go.Proofs.Ytlefbfdeelldjaa.Lib
open Go.RowKit Go.Proofs.YtlefbfdeelldjaaW.PrintWords Go.Proofs.YtlefbfdeelldjaaW.PrintLast

theorem w64 {x : Int} (h1 : -9223372036854775808 ≤ x) (h2 : x ≤ 9223372036854775807) : wrap64 x = x := by
  unfold wrap64; omega

theorem rd_nat (l : List Int) (i : Nat) : rd l (i : Int) = l.getD i 0 := by unfold rd; simp
theorem rd_get (l : List Int) (i : Nat) (h : i < l.length) : rd l (i : Int) = l[i] := by
  rw [rd_nat]; simp [List.getD, List.getElem?_eq_getElem h]

theorem ev_bind0 {α β : Type} {g : Option α} {f : Nat → α → Option β} {a : α} {r : β} (h : g = some a) (k : Ev (fun n => f n a) r) : Ev (fun n => g.bind (f n)) r := by
  subst h; exact k
theorem ev_if_pos {α : Type} {c : Prop} [Decidable c] {g f : Nat → Option α} {r : α} (h : c) (k : Ev g r) : Ev (fun n => if c then g n else f n) r := by
  simp only [if_pos h]; exact k
theorem ev_if_neg {α : Type} {c : Prop} [Decidable c] {g f : Nat → Option α} {r : α} (h : ¬ c) (k : Ev f r) : Ev (fun n => if c then g n else f n) r := by
  simp only [if_neg h]; exact k
end Go.Proofs.Ytlefbfdeelldjaa.Lib
/- Numbers in base 65536 as lists, lowest first: values, the one form, uniqueness. Of no program. -/
namespace Go.Proofs.Ytlefbfdeelldjaa.Lib

/-- All elements are limbs. -/
def Limbs (l : List Int) : Prop := ∀ x ∈ l, 0 ≤ x ∧ x ≤ 65535
/-- A list's value. -/
def val : List Int → Int
  | [] => 0
  | x :: l => x + 65536 * val l
/-- Powers of the base. -/
def pw : Nat → Int
  | 0 => 1
  | n + 1 => 65536 * pw n
theorem pw_pos (n : Nat) : 1 ≤ pw n := by
  induction n with
  | zero => simp [pw]
  | succ n ih => simp only [pw]; omega
theorem Limbs.nil : Limbs [] := fun _ h => by cases h
theorem Limbs.cons {x : Int} {l : List Int} (h0 : 0 ≤ x) (h1 : x ≤ 65535) (h : Limbs l) : Limbs (x :: l) := fun y hy => by
  rcases List.mem_cons.1 hy with rfl | hy
  · exact ⟨h0, h1⟩
  · exact h y hy
theorem Limbs.tail {x : Int} {l : List Int} (h : Limbs (x :: l)) : Limbs l := fun y hy => h y (List.mem_cons_of_mem _ hy)
theorem Limbs.head {x : Int} {l : List Int} (h : Limbs (x :: l)) : 0 ≤ x ∧ x ≤ 65535 := h x List.mem_cons_self
theorem Limbs.append {a b : List Int} (ha : Limbs a) (hb : Limbs b) : Limbs (a ++ b) := fun y hy => by
  rcases List.mem_append.1 hy with hy | hy
  · exact ha y hy
  · exact hb y hy
theorem Limbs.left {a b : List Int} (h : Limbs (a ++ b)) : Limbs a := fun y hy => h y (List.mem_append_left _ hy)
theorem Limbs.take {a : List Int} (h : Limbs a) (n : Nat) : Limbs (a.take n) := fun y hy => h y (List.mem_of_mem_take hy)
theorem Limbs.drop {a : List Int} (h : Limbs a) (n : Nat) : Limbs (a.drop n) := fun y hy => h y (List.mem_of_mem_drop hy)
theorem Limbs.getD {l : List Int} (h : Limbs l) (i : Nat) : 0 ≤ l.getD i 0 ∧ l.getD i 0 ≤ 65535 := by
  by_cases hi : i < l.length
  · simp only [List.getD, List.getElem?_eq_getElem hi, Option.getD_some]
    exact h _ (List.getElem_mem hi)
  · simp [List.getD, List.getElem?_eq_none (by omega : l.length ≤ i)]
theorem Limbs.zeros (n : Nat) : Limbs (List.replicate n 0) := fun y hy => by
  have := List.eq_of_mem_replicate hy
  omega
theorem Limbs.set {l : List Int} (h : Limbs l) (i : Nat) {x : Int} (h0 : 0 ≤ x) (h1 : x ≤ 65535) : Limbs (l.set i x) := fun y hy => by
  rcases List.mem_or_eq_of_mem_set hy with hy | rfl
  · exact h y hy
  · exact ⟨h0, h1⟩

theorem val_nonneg {l : List Int} (h : Limbs l) : 0 ≤ val l := by
  induction l with
  | nil => exact Int.le_refl _
  | cons x l ih =>
    have := ih h.tail
    have := h.head
    simp only [val]; omega
theorem val_append (a b : List Int) : val (a ++ b) = val a + pw a.length * val b := by
  induction a with
  | nil => simp [val, pw]
  | cons x a ih =>
    simp only [List.cons_append, val, ih, List.length_cons, pw, Int.mul_add, Int.mul_assoc]
    omega
theorem val_snoc (a : List Int) (x : Int) : val (a ++ [x]) = val a + pw a.length * x := by
  rw [val_append]; simp [val]
/-- No zero at the high end. -/
def Top (l : List Int) : Prop := l.getLast? ≠ some 0
/-- The one form of a number. -/
def Norm (l : List Int) : Prop := Limbs l ∧ Top l
theorem Norm.nil : Norm [] := ⟨Limbs.nil, by simp [Top]⟩
theorem Norm.low {l : List Int} (h : Norm l) (hn : l ≠ []) : pw (l.length - 1) ≤ val l := by
  obtain ⟨hl, ht⟩ := h
  obtain ⟨a, x, rfl⟩ : ∃ a x, l = a ++ [x] := ⟨l.dropLast, l.getLast hn, (List.dropLast_concat_getLast hn).symm⟩
  have hx := hl x (by simp)
  have hx0 : x ≠ 0 := fun e => ht (by simp [e])
  have h1 := val_nonneg hl.left
  have h2 := pw_pos a.length
  rw [val_snoc]
  have h3 : pw a.length * 1 ≤ pw a.length * x := Int.mul_le_mul_of_nonneg_left (by omega) (by omega)
  simp only [List.length_append, List.length_cons, List.length_nil, Nat.add_sub_cancel]
  omega
theorem Norm.zero {l : List Int} (h : Norm l) (hv : val l = 0) : l = [] := by
  by_cases hn : l = []
  · exact hn
  · have := h.low hn
    have := pw_pos (l.length - 1)
    omega
end Go.Proofs.Ytlefbfdeelldjaa.Lib
/- Bits of whole numbers that are not negative. Of no program. -/
namespace Go.Proofs.Ytlefbfdeelldjaa.Lib
open Go.RowKit
theorem wraps_i64 (n : Int) (h₀ : 0 ≤ n) (h₁ : n < 2 ^ 63) : IntKind.i64.wrap n = n := by
  rw [IntKind.wrap_i64]; omega
theorem and_mask (i : Nat) (hi : i ≤ 63) (x : Int) (h0 : 0 ≤ x) (h1 : x ≤ 9223372036854775807) : Go.bits .and .i64 x (2 ^ i - 1) = x % 2 ^ i :=
  bits_mask .i64 63 (by decide) wraps_i64 i hi x h0 (by omega)
theorem or_join (i : Nat) (x y : Int) (hx0 : 0 ≤ x) (hx1 : x ≤ 9223372036854775807) (hx : x % 2 ^ i = 0) (hy0 : 0 ≤ y) (hy : y < 2 ^ i) (hy1 : y ≤ 9223372036854775807) : Go.bits .or .i64 x y = x + y :=
  bits_join .i64 63 (by decide) wraps_i64 i x y hx0 hx (by omega) hy0 hy (by omega)
section
variable (x : Int) (h0 : 0 ≤ x) (h1 : x ≤ 9223372036854775807)
include h0 h1
theorem and_7 : Go.bits .and .i64 x 7 = x % 8 := and_mask 3 (by decide) x h0 h1
theorem and_15 : Go.bits .and .i64 x 15 = x % 16 := and_mask 4 (by decide) x h0 h1
theorem and_31 : Go.bits .and .i64 x 31 = x % 32 := and_mask 5 (by decide) x h0 h1
theorem and_63 : Go.bits .and .i64 x 63 = x % 64 := and_mask 6 (by decide) x h0 h1
end
end Go.Proofs.Ytlefbfdeelldjaa.Lib
/- The one form of a whole number that fits an int; Go's division at what is not negative. Of no program. -/
namespace Go.Proofs.Ytlefbfdeelldjaa.Lib
open Go.RowKit
theorem td (a b : Int) (h : 0 ≤ a) : Int.tdiv a b = a / b := Int.tdiv_eq_ediv_of_nonneg h
theorem tm (a b : Int) (h : 0 ≤ a) : Int.tmod a b = a % b := Int.tmod_eq_emod_of_nonneg h
end Go.Proofs.Ytlefbfdeelldjaa.Lib
/- Comparing numbers; the number of bits. Of no program. -/
namespace Go.Proofs.Ytlefbfdeelldjaa.Lib
open Go.RowKit Go.Proofs.YtlefbfdeelldjaaW.PrintWords Go.Proofs.YtlefbfdeelldjaaW.PrintLast

end Go.Proofs.Ytlefbfdeelldjaa.Lib
/- More on values. Of no program. -/
namespace Go.Proofs.Ytlefbfdeelldjaa.Lib
open Go.RowKit Go.Proofs.YtlefbfdeelldjaaW.PrintWords Go.Proofs.YtlefbfdeelldjaaW.PrintLast
end Go.Proofs.Ytlefbfdeelldjaa.Lib
/- Zeros at the high end; a quotient by a small number. Of no program. -/
namespace Go.Proofs.Ytlefbfdeelldjaa.Lib
open Go.RowKit Go.Proofs.YtlefbfdeelldjaaW.PrintWords Go.Proofs.YtlefbfdeelldjaaW.PrintLast
end Go.Proofs.Ytlefbfdeelldjaa.Lib
/- Shifts. Of no program. -/
namespace Go.Proofs.Ytlefbfdeelldjaa.Lib
open Go.RowKit Go.Proofs.YtlefbfdeelldjaaW.PrintWords Go.Proofs.YtlefbfdeelldjaaW.PrintLast Go.Proofs.YtlefbfdeelldjaaW.PrintMore
end Go.Proofs.Ytlefbfdeelldjaa.Lib
/- Decoding a rune. Of no program. -/
namespace Go.Proofs.Ytlefbfdeelldjaa.Lib
open Go.RowKit Go.Proofs.YtlefbfdeelldjaaW.PrintWords Go.Proofs.YtlefbfdeelldjaaW.PrintLast
/-- All elements are bytes. -/
def Bytes (l : List Int) : Prop := ∀ x ∈ l, 0 ≤ x ∧ x ≤ 255
theorem Bytes.drop {l : List Int} (h : Bytes l) (n : Nat) : Bytes (l.drop n) := fun x hx => h x (List.mem_of_mem_drop hx)
theorem Bytes.take {l : List Int} (h : Bytes l) (n : Nat) : Bytes (l.take n) := fun x hx => h x (List.mem_of_mem_take hx)
theorem Bytes.head {x : Int} {l : List Int} (h : Bytes (x :: l)) : 0 ≤ x ∧ x ≤ 255 := h x List.mem_cons_self
theorem Bytes.tail {x : Int} {l : List Int} (h : Bytes (x :: l)) : Bytes l := fun y hy => h y (List.mem_cons_of_mem _ hy)
theorem Bytes.nil : Bytes [] := fun _ h => by cases h
theorem Bytes.cons {x : Int} {l : List Int} (h0 : 0 ≤ x) (h1 : x ≤ 255) (h : Bytes l) : Bytes (x :: l) := fun y hy => by
  rcases List.mem_cons.1 hy with rfl | hy
  · exact ⟨h0, h1⟩
  · exact h y hy
theorem Bytes.append {a b : List Int} (ha : Bytes a) (hb : Bytes b) : Bytes (a ++ b) := fun y hy => by
  rcases List.mem_append.1 hy with hy | hy
  · exact ha y hy
  · exact hb y hy
theorem Bytes.at_ {l : List Int} (h : Bytes l) (i : Int) : 0 ≤ rd l i ∧ rd l i ≤ 255 := by
  unfold rd
  by_cases hi : i.toNat < l.length
  · simp only [List.getD, List.getElem?_eq_getElem hi, Option.getD_some]
    exact h _ (List.getElem_mem hi)
  · simp [List.getD, List.getElem?_eq_none (by omega : l.length ≤ i.toNat)]
/-- Is a number a code point? -/
def mayB (r : Int) : Bool := decide (0 ≤ r ∧ r ≤ 1114111 ∧ ¬ (55296 ≤ r ∧ r ≤ 57343))
/-- What is decoded, if it is in its shortest form and a code point. -/
def finV (r least n : Int) : Int × Int := if r < least ∨ mayB r = false then (65533, 1) else (r, n)
/-- The rune at the beginning of bytes (c1, c2, c3: what follows; 0: nothing). -/
def dec4 (x c1 c2 c3 : Int) : Int × Int :=
  if x < 128 then (x, 1)
  else if 192 ≤ x ∧ x ≤ 223 then (if 128 ≤ c1 ∧ c1 ≤ 191 then finV (x % 32 * 64 + c1 % 64) 128 2 else (65533, 1))
  else if 224 ≤ x ∧ x ≤ 239 then (if (128 ≤ c1 ∧ c1 ≤ 191) ∧ 128 ≤ c2 ∧ c2 ≤ 191 then finV ((x % 16 * 64 + c1 % 64) * 64 + c2 % 64) 2048 3 else (65533, 1))
  else if 240 ≤ x ∧ x ≤ 247 then (if (128 ≤ c1 ∧ c1 ≤ 191) ∧ (128 ≤ c2 ∧ c2 ≤ 191) ∧ 128 ≤ c3 ∧ c3 ≤ 191 then finV (((x % 8 * 64 + c1 % 64) * 64 + c2 % 64) * 64 + c3 % 64) 65536 4 else (65533, 1))
  else (65533, 1)
/-- The rune at the beginning of bytes. -/
def decV (b : List Int) : Int × Int := dec4 (b.getD 0 0) (b.getD 1 0) (b.getD 2 0) (b.getD 3 0)
theorem orc (r c : Int) (h0 : 0 ≤ r) (h1 : r ≤ 1000000) (c0 : 0 ≤ c) (c1 : c ≤ 255) : Go.bits .or .i64 (wrap64 (r * 64)) (wrap64 (Go.bits .and .u8 c 63)) = r * 64 + c % 64 := by
  rw [u8_and63 c c0 (by omega), w64 (by omega) (by omega), w64 (by omega) (by omega), or_join 6 (r * 64) (c % 64) (by omega) (by omega) (by omega) (by omega) (by omega) (by omega)]
end Go.Proofs.Ytlefbfdeelldjaa.Lib
/- Decimal digits, lowest first: values, the one form. Of no program. -/
namespace Go.Proofs.Ytlefbfdeelldjaa.Lib
open Go.RowKit Go.Proofs.YtlefbfdeelldjaaW.PrintWords Go.Proofs.YtlefbfdeelldjaaW.PrintLast
/-- All are digits, as bytes. -/
def Dgs (l : List Int) : Prop := ∀ x ∈ l, 48 ≤ x ∧ x ≤ 57
def val10 : List Int → Int
  | [] => 0
  | x :: l => (x - 48) + 10 * val10 l
def pt : Nat → Int
  | 0 => 1
  | n + 1 => 10 * pt n
theorem Dgs.nil : Dgs [] := fun _ h => by cases h
theorem Dgs.cons {x : Int} {l : List Int} (h0 : 48 ≤ x) (h1 : x ≤ 57) (h : Dgs l) : Dgs (x :: l) := fun y hy => by
  rcases List.mem_cons.1 hy with rfl | hy
  · exact ⟨h0, h1⟩
  · exact h y hy
theorem Dgs.tail {x : Int} {l : List Int} (h : Dgs (x :: l)) : Dgs l := fun y hy => h y (List.mem_cons_of_mem _ hy)
theorem Dgs.head {x : Int} {l : List Int} (h : Dgs (x :: l)) : 48 ≤ x ∧ x ≤ 57 := h x List.mem_cons_self
theorem Dgs.snoc {x : Int} {l : List Int} (h : Dgs l) (h0 : 48 ≤ x) (h1 : x ≤ 57) : Dgs (l ++ [x]) := fun y hy => by
  rcases List.mem_append.1 hy with hy | hy
  · exact h y hy
  · have : y = x := by simpa using hy
    subst this; exact ⟨h0, h1⟩
theorem Dgs.left {a b : List Int} (h : Dgs (a ++ b)) : Dgs a := fun y hy => h y (List.mem_append_left _ hy)
theorem pt_pos (n : Nat) : 1 ≤ pt n := by
  induction n with
  | zero => simp [pt]
  | succ n ih => simp only [pt]; omega
theorem pt_le {a b : Nat} (h : a ≤ b) : pt a ≤ pt b := by
  induction b with
  | zero => have : a = 0 := by omega
            subst this; exact Int.le_refl _
  | succ b ih =>
    by_cases e : a = b + 1
    · subst e; exact Int.le_refl _
    · have := ih (by omega)
      have := pt_pos b
      simp only [pt]; omega
theorem val10_snoc (l : List Int) (x : Int) : val10 (l ++ [x]) = val10 l + pt l.length * (x - 48) := by
  induction l with
  | nil => simp [val10, pt]
  | cons y l ih =>
    simp only [List.cons_append, val10, ih, List.length_cons, pt, Int.mul_add, Int.mul_assoc]
    omega
theorem val10_nonneg {l : List Int} (h : Dgs l) : 0 ≤ val10 l := by
  induction l with
  | nil => exact Int.le_refl _
  | cons x l ih =>
    have := ih h.tail
    have := h.head
    simp only [val10]; omega
theorem val10_low {l : List Int} (h : Dgs l) (hn : l ≠ []) (ht : l.getLast? ≠ some 48) : pt (l.length - 1) ≤ val10 l := by
  obtain ⟨a, x, rfl⟩ : ∃ a x, l = a ++ [x] := ⟨l.dropLast, l.getLast hn, (List.dropLast_concat_getLast hn).symm⟩
  have hx := h x (by simp)
  have hx0 : x ≠ 48 := fun e => ht (by simp [e])
  have h1 := val10_nonneg h.left
  have h2 := pt_pos a.length
  rw [val10_snoc]
  have h3 : pt a.length * 1 ≤ pt a.length * (x - 48) := Int.mul_le_mul_of_nonneg_left (by omega) (by omega)
  simp only [List.length_append, List.length_cons, List.length_nil, Nat.add_sub_cancel]
  omega
theorem last_tail {x : Int} {l : List Int} {c : Int} (h : (x :: l).getLast? ≠ some c) : l.getLast? ≠ some c := by
  cases l with
  | nil => simp
  | cons y l => rwa [List.getLast?_cons_of_ne_nil (by simp)] at h
theorem val10_inj : ∀ {a b : List Int}, Dgs a → Dgs b → a.getLast? ≠ some 48 → b.getLast? ≠ some 48 → val10 a = val10 b → a = b
  | [], [], _, _, _, _, _ => rfl
  | [], y :: b, _, hb, _, tb, h => by
    have h1 := val10_low hb (by simp) tb
    have h2 := pt_pos ((y :: b).length - 1)
    have h3 : val10 [] = 0 := rfl
    omega
  | x :: a, [], ha, _, ta, _, h => by
    have h1 := val10_low ha (by simp) ta
    have h2 := pt_pos ((x :: a).length - 1)
    have h3 : val10 [] = 0 := rfl
    omega
  | x :: a, y :: b, ha, hb, ta, tb, h => by
    have h1 := ha.head
    have h2 := hb.head
    simp only [val10] at h
    have e : x = y := by omega
    subst e
    rw [val10_inj ha.tail hb.tail (last_tail ta) (last_tail tb) (by omega)]
/-- Fewer digits than a bound tells. -/
theorem val10_len {l : List Int} (h : Dgs l) (hn : l.getLast? ≠ some 48) {n : Nat} (hv : val10 l < pt n) : l.length ≤ n := by
  by_cases e : l = []
  · subst e; simp
  · have h1 := val10_low h e hn
    by_cases h2 : l.length ≤ n
    · exact h2
    · have := pt_le (show n ≤ l.length - 1 by omega)
      omega
theorem pw_pt (n : Nat) : pw n ≤ pt (5 * n) := by
  induction n with
  | zero => simp [pw, pt]
  | succ n ih =>
    have h := pt_pos (5 * n)
    rw [show 5 * (n + 1) = 5 * n + 5 by omega]
    simp only [pw, pt]
    omega
/-- The decimal digits of a number that is not 0, lowest first. -/
structure IsDec (v : Int) (l : List Int) : Prop where
  dgs : Dgs l
  top : l.getLast? ≠ some 48
  eq : val10 l = v
theorem IsDec.inj {v : Int} {a b : List Int} (ha : IsDec v a) (hb : IsDec v b) : a = b := val10_inj ha.dgs hb.dgs ha.top hb.top (by rw [ha.eq, hb.eq])
theorem IsDec.len {v : Int} {a : List Int} (ha : IsDec v a) {n : Nat} (hv : v < pw n) : a.length ≤ 5 * n := val10_len ha.dgs ha.top (by rw [ha.eq]; have := pw_pt n; omega)
end Go.Proofs.Ytlefbfdeelldjaa.Lib
/- Draws: bytes out of a mixed number. Of no program. -/
namespace Go.Proofs.Ytlefbfdeelldjaa.Lib
open Go.RowKit Go.Proofs.YtlefbfdeelldjaaW.PrintWords Go.Proofs.YtlefbfdeelldjaaW.PrintLast
/-- An 'and' with 255 is a byte, whatever the other is. -/
theorem and255_bd (y : Int) : 0 ≤ Go.bits .and .i64 y 255 ∧ Go.bits .and .i64 y 255 ≤ 255 := by
  have h : (BitVec.ofInt 64 y &&& BitVec.ofInt 64 255).toNat ≤ 255 := by
    rw [BitVec.toNat_and]
    exact Nat.and_le_right
  change 0 ≤ IntKind.i64.wrap ((BitVec.ofInt 64 y &&& BitVec.ofInt 64 255).toNat : Int) ∧ IntKind.i64.wrap ((BitVec.ofInt 64 y &&& BitVec.ofInt 64 255).toNat : Int) ≤ 255
  generalize (BitVec.ofInt 64 y &&& BitVec.ofInt 64 255).toNat = n at h
  rw [IntKind.wrap_i64]
  omega
end Go.Proofs.Ytlefbfdeelldjaa.Lib
/- Powers of two. Of no program. -/
namespace Go.Proofs.Ytlefbfdeelldjaa.Lib
open Go.RowKit Go.Proofs.YtlefbfdeelldjaaW.PrintWords Go.Proofs.YtlefbfdeelldjaaW.PrintLast
end Go.Proofs.Ytlefbfdeelldjaa.Lib
