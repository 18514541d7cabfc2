-- Written by our own driver (wip/hand/hprint.py) over the seat's translation.
import Derived.Test.YtgjpahofopoflaaPFnExactNatDivx21
import Derived.Test.YtgjpahofopoflaaPFnExactNatDivx0
import Derived.Test.YtgjpahofopoflaaPFnExactNatDivx11
import Derived.Test.YtgjpahofopoflaaPFnExactNatDivx18
import Derived.Test.YtgjpahofopoflaaPFnExactNatDivx19
import Derived.Test.YtgjpahofopoflaaPFnExactNatDivx20
namespace Go.Proofs.Ytgjpahofopoflaa.PFnExactNatDiv
open Go.RowKit Go.Proofs.YtgjpahofopoflaaW.PrintWords Go.Proofs.YtgjpahofopoflaaW.PrintLast Go.Proofs.YtgjpahofopoflaaW.PrintMore
attribute [local go_sem] max2_int min2_int max_two min_two max_three min_three max_four min_four   -- for this text's walks alone
set_option linter.unusedVariables false
set_option linter.unusedSimpArgs false

-- Two calls, a third call of their results, two boxes, in any order.
set_option maxHeartbeats 8000000 in
set_option maxRecDepth 100000 in
theorem laws_FnExactNatDiv.nest35 {k : Nat} {A0_0 : Option Addr} {c0_0 : Nat} {l0_0 : List Int} {A1_0 : Option Addr} {c1_0 : Nat} {l1_0 t396 t399 t402 t405 : List Int} {t408 : Bool} {w : World} {gb392 gb393 : Nat} {Q : Exit → Act → World → Prop} {u0 u1 u2 u3 u4 u5 u6 u7 u8 u9 u10 u11 u12 u13 u14 u15 u16 u17 u18 u19 u20 u21 u22 u23 u24 u25 u26 u27 u28 u29 u30 u31 u32 u33 u34 u35 u36 u37 u38 u39 u40 u41 u42 u43 u44 u45 u46 u47 u48 u49 u50 u51 u52 u53 u54 u55 u56 u57 u58 u59 u60 u61 u62 u63 u64 u65 u66 u67 u68 u69 u70 u71 u72 u73 u74 u75 u76 u77 u78 u79 u80 u81 u82 u83 u84 u85 u86 u87 u88 u89 u90 u91 u92 u93 u94 u95 u96 u97 u98 u99 u100 u101 u102 u103 u104 u105 u106 u107 u108 u109 u110 u111 u112 u113 u114 u115 u116 u117 u118 u119 u121 u123 u124 u125 u126 u127 u128 u129 u130 u131 u132 u133 u134 u135 u136 u137 u138 u139 u140 u141 u142 u143 u144 u145 u146 u147 u148 u149 u150 u151 u152 u153 u154 u155 : Value}
 (hQ : ∀ c (a : Act) (t : Tmp) v w, Q (.panic c) (a.put (some t) v) w → Q (.panic c) a w) (HR0_0 : Aside0 (Kd.C (Kd.int .i64) w A0_0 l0_0.length l0_0)) (HC0_0 : Aside0 (l0_0.length ≤ c0_0)) (HR1_0 : Aside0 (Kd.C (Kd.int .i64) w A1_0 l1_0.length l1_0)) (HC1_0 : Aside0 (l1_0.length ≤ c1_0))
 (A19 : Aside0 (laws_toNat.f k l0_0 = some t396)) (A20 : Aside0 (laws_toNat.f k l1_0 = some t399)) (A21 : Aside0 (impl_NatDiv.f k t396 t399 = some (t402, t405, t408)))
 (BK392 : Aside0 (w.heap[gb392]? = some (.cells #[.slice A0_0 l0_0.length c0_0] 31 (0, 0)))) (BK393 : Aside0 (w.heap[gb393]? = some (.cells #[.slice A1_0 l1_0.length c1_0] 31 (0, 0))))
 (hHeld : w.cell? ⟨gb392, 0, none⟩ = some (.slice A0_0 l0_0.length c0_0) ∧ w.cell? ⟨gb393, 0, none⟩ = some (.slice A1_0 l1_0.length c1_0))
 (HT_ : Aside0 (rtab .any #[{ dst := some 120, op := Op.load 31 (Operand.tmp 2), type := 31, pos := "exact.go:1184", after := #[], guard := none }, { dst := some 121, op := Op.call { callee := Callee.value (Operand.func 26), args := #[Operand.tmp 120], argTypes := #[31] }, type := 38, pos := "exact.go:1184", after := #[{ on := 0, ground := Ground.data }], guard := none }, { dst := some 122, op := Op.load 31 (Operand.tmp 3), type := 31, pos := "exact.go:1184", after := #[], guard := none }, { dst := some 123, op := Op.call { callee := Callee.value (Operand.func 26), args := #[Operand.tmp 122], argTypes := #[31] }, type := 38, pos := "exact.go:1184", after := #[{ on := 2, ground := Ground.data }, { on := 1, ground := Ground.chain }], guard := none }, { dst := some 124, op := Op.call { callee := Callee.value (Operand.func 23), args := #[Operand.tmp 121, Operand.tmp 123], argTypes := #[38, 38] }, type := 53, pos := "exact.go:1184", after := #[{ on := 1, ground := Ground.data }, { on := 3, ground := Ground.data }, { on := 3, ground := Ground.chain }], guard := none }, { dst := some 119, op := Op.move (Operand.tmp 124), type := 53, pos := "exact.go:1184", after := #[{ on := 4, ground := Ground.data }], guard := none }, { dst := some 125, op := Op.extract (Operand.tmp 119) 0, type := 38, pos := "exact.go:1184", after := #[{ on := 5, ground := Ground.data }], guard := none }, { dst := some 126, op := Op.extract (Operand.tmp 119) 1, type := 38, pos := "exact.go:1184", after := #[{ on := 5, ground := Ground.data }, { on := 11, ground := Ground.gcOnly Departure.lateStores }], guard := none }, { dst := some 127, op := Op.extract (Operand.tmp 119) 2, type := 4, pos := "exact.go:1184", after := #[{ on := 5, ground := Ground.data }, { on := 12, ground := Ground.gcOnly Departure.lateStores }], guard := none }, { dst := some 17, op := Op.alloc 38, type := 0, pos := "exact.go:1184", after := #[], guard := none }, { dst := some 18, op := Op.alloc 38, type := 0, pos := "exact.go:1184", after := #[], guard := none }, { dst := none, op := Op.store 38 (Operand.tmp 17) (Operand.tmp 125), type := 0, pos := "exact.go:1184", after := #[{ on := 9, ground := Ground.data }, { on := 6, ground := Ground.data }, { on := 4, ground := Ground.chain }, { on := 0, ground := Ground.phase }, { on := 1, ground := Ground.phase }, { on := 2, ground := Ground.phase }, { on := 3, ground := Ground.phase }, { on := 4, ground := Ground.phase }, { on := 5, ground := Ground.phase }, { on := 6, ground := Ground.phase }, { on := 7, ground := Ground.textOnly Departure.lateStores }, { on := 8, ground := Ground.textOnly Departure.lateStores }, { on := 9, ground := Ground.phase }, { on := 10, ground := Ground.phase }], guard := none }, { dst := none, op := Op.store 38 (Operand.tmp 18) (Operand.tmp 126), type := 0, pos := "exact.go:1184", after := #[{ on := 10, ground := Ground.data }, { on := 7, ground := Ground.data }, { on := 11, ground := Ground.chain }, { on := 0, ground := Ground.phase }, { on := 1, ground := Ground.phase }, { on := 2, ground := Ground.phase }, { on := 3, ground := Ground.phase }, { on := 4, ground := Ground.phase }, { on := 5, ground := Ground.phase }, { on := 6, ground := Ground.phase }, { on := 7, ground := Ground.phase }, { on := 8, ground := Ground.textOnly Departure.lateStores }, { on := 9, ground := Ground.phase }, { on := 10, ground := Ground.phase }, { on := 11, ground := Ground.phase }], guard := none }, { dst := some 19, op := Op.assign (Operand.tmp 127), type := 4, pos := "exact.go:1184", after := #[{ on := 8, ground := Ground.data }, { on := 12, ground := Ground.chain }, { on := 0, ground := Ground.phase }, { on := 1, ground := Ground.phase }, { on := 2, ground := Ground.phase }, { on := 3, ground := Ground.phase }, { on := 4, ground := Ground.phase }, { on := 5, ground := Ground.phase }, { on := 6, ground := Ground.phase }, { on := 7, ground := Ground.phase }, { on := 8, ground := Ground.phase }, { on := 9, ground := Ground.phase }, { on := 10, ground := Ground.phase }, { on := 11, ground := Ground.phase }, { on := 12, ground := Ground.phase }], guard := none }] = laws_FnExactNatDiv.T35)) (HW_ : Aside0 (waitsOk laws_FnExactNatDiv.T35.2 laws_FnExactNatDiv.B35 = true))
 (hJ1_3_4_9_10 : ∀ (s_ : Value × Value × Value × Value × Nat × Nat) (w' : World), (w'.cell? ⟨gb392, 0, none⟩ = some (.slice A0_0 l0_0.length c0_0) ∧ w'.cell? ⟨gb393, 0, none⟩ = some (.slice A1_0 l1_0.length c1_0)) ∧ Aside0 (Kd.R (Kd.int .i64) 3 w' w.heap.size (fun k_ => some k_ ≠ (s_.2.1 : Value).ownBlock ∧ some k_ ≠ (s_.2.2.1 : Value).ownBlock ∧ some k_ ≠ (s_.2.2.2.1 : Value).ownBlock) s_.1 t396) ∧ Aside0 (Kd.R (Kd.int .i64) 3 w' w.heap.size (fun k_ => some k_ ≠ (s_.1 : Value).ownBlock ∧ some k_ ≠ (s_.2.2.1 : Value).ownBlock ∧ some k_ ≠ (s_.2.2.2.1 : Value).ownBlock) s_.2.1 t399) ∧ Aside0 (Kd.R (Kd.int .i64) 3 w' w.heap.size (fun k_ => some k_ ≠ (s_.1 : Value).ownBlock ∧ some k_ ≠ (s_.2.1 : Value).ownBlock ∧ some k_ ≠ (s_.2.2.2.1 : Value).ownBlock) s_.2.2.1 t402) ∧ Aside0 (Kd.R (Kd.int .i64) 3 w' w.heap.size (fun k_ => some k_ ≠ (s_.1 : Value).ownBlock ∧ some k_ ≠ (s_.2.1 : Value).ownBlock ∧ some k_ ≠ (s_.2.2.1 : Value).ownBlock) s_.2.2.2.1 t405) ∧ Aside0 (w'.heap[gb392]? = some (.cells #[.slice A0_0 l0_0.length c0_0] 31 (0, 0))) ∧ Aside0 (w'.heap[gb393]? = some (.cells #[.slice A1_0 l1_0.length c1_0] 31 (0, 0))) ∧ Aside0 (w'.heap[s_.2.2.2.2.1]? = some (.cells #[.slice none 0 0] 38 (0, 0))) ∧ Aside0 (w'.heap[s_.2.2.2.2.2]? = some (.cells #[.slice none 0 0] 38 (0, 0))) ∧ Aside0 (w.heap.size ≤ s_.2.2.2.2.1) ∧ Aside0 (w.heap.size ≤ s_.2.2.2.2.1) ∧ Aside0 (gb392 ≠ s_.2.2.2.2.1) ∧ Aside0 (s_.2.2.2.2.1 ≠ gb392) ∧ Aside0 (gb393 ≠ s_.2.2.2.2.1) ∧ Aside0 (s_.2.2.2.2.1 ≠ gb393) ∧ Aside0 (s_.2.2.2.2.2 ≠ s_.2.2.2.2.1) ∧ Aside0 (s_.2.2.2.2.1 ≠ s_.2.2.2.2.2) ∧ Aside0 (w.heap.size ≤ s_.2.2.2.2.2) ∧ Aside0 (w.heap.size ≤ s_.2.2.2.2.2) ∧ Aside0 (gb392 ≠ s_.2.2.2.2.2) ∧ Aside0 (s_.2.2.2.2.2 ≠ gb392) ∧ Aside0 (gb393 ≠ s_.2.2.2.2.2) ∧ Aside0 (s_.2.2.2.2.2 ≠ gb393) ∧ Aside0 (Below w.heap.size w w') → wpAnyLast Try.prog .any #[{ dst := some 120, op := Op.load 31 (Operand.tmp 2), type := 31, pos := "exact.go:1184", after := #[], guard := none }, { dst := some 121, op := Op.call { callee := Callee.value (Operand.func 26), args := #[Operand.tmp 120], argTypes := #[31] }, type := 38, pos := "exact.go:1184", after := #[{ on := 0, ground := Ground.data }], guard := none }, { dst := some 122, op := Op.load 31 (Operand.tmp 3), type := 31, pos := "exact.go:1184", after := #[], guard := none }, { dst := some 123, op := Op.call { callee := Callee.value (Operand.func 26), args := #[Operand.tmp 122], argTypes := #[31] }, type := 38, pos := "exact.go:1184", after := #[{ on := 2, ground := Ground.data }, { on := 1, ground := Ground.chain }], guard := none }, { dst := some 124, op := Op.call { callee := Callee.value (Operand.func 23), args := #[Operand.tmp 121, Operand.tmp 123], argTypes := #[38, 38] }, type := 53, pos := "exact.go:1184", after := #[{ on := 1, ground := Ground.data }, { on := 3, ground := Ground.data }, { on := 3, ground := Ground.chain }], guard := none }, { dst := some 119, op := Op.move (Operand.tmp 124), type := 53, pos := "exact.go:1184", after := #[{ on := 4, ground := Ground.data }], guard := none }, { dst := some 125, op := Op.extract (Operand.tmp 119) 0, type := 38, pos := "exact.go:1184", after := #[{ on := 5, ground := Ground.data }], guard := none }, { dst := some 126, op := Op.extract (Operand.tmp 119) 1, type := 38, pos := "exact.go:1184", after := #[{ on := 5, ground := Ground.data }, { on := 11, ground := Ground.gcOnly Departure.lateStores }], guard := none }, { dst := some 127, op := Op.extract (Operand.tmp 119) 2, type := 4, pos := "exact.go:1184", after := #[{ on := 5, ground := Ground.data }, { on := 12, ground := Ground.gcOnly Departure.lateStores }], guard := none }, { dst := some 17, op := Op.alloc 38, type := 0, pos := "exact.go:1184", after := #[], guard := none }, { dst := some 18, op := Op.alloc 38, type := 0, pos := "exact.go:1184", after := #[], guard := none }, { dst := none, op := Op.store 38 (Operand.tmp 17) (Operand.tmp 125), type := 0, pos := "exact.go:1184", after := #[{ on := 9, ground := Ground.data }, { on := 6, ground := Ground.data }, { on := 4, ground := Ground.chain }, { on := 0, ground := Ground.phase }, { on := 1, ground := Ground.phase }, { on := 2, ground := Ground.phase }, { on := 3, ground := Ground.phase }, { on := 4, ground := Ground.phase }, { on := 5, ground := Ground.phase }, { on := 6, ground := Ground.phase }, { on := 7, ground := Ground.textOnly Departure.lateStores }, { on := 8, ground := Ground.textOnly Departure.lateStores }, { on := 9, ground := Ground.phase }, { on := 10, ground := Ground.phase }], guard := none }, { dst := none, op := Op.store 38 (Operand.tmp 18) (Operand.tmp 126), type := 0, pos := "exact.go:1184", after := #[{ on := 10, ground := Ground.data }, { on := 7, ground := Ground.data }, { on := 11, ground := Ground.chain }, { on := 0, ground := Ground.phase }, { on := 1, ground := Ground.phase }, { on := 2, ground := Ground.phase }, { on := 3, ground := Ground.phase }, { on := 4, ground := Ground.phase }, { on := 5, ground := Ground.phase }, { on := 6, ground := Ground.phase }, { on := 7, ground := Ground.phase }, { on := 8, ground := Ground.textOnly Departure.lateStores }, { on := 9, ground := Ground.phase }, { on := 10, ground := Ground.phase }, { on := 11, ground := Ground.phase }], guard := none }, { dst := some 19, op := Op.assign (Operand.tmp 127), type := 4, pos := "exact.go:1184", after := #[{ on := 8, ground := Ground.data }, { on := 12, ground := Ground.chain }, { on := 0, ground := Ground.phase }, { on := 1, ground := Ground.phase }, { on := 2, ground := Ground.phase }, { on := 3, ground := Ground.phase }, { on := 4, ground := Ground.phase }, { on := 5, ground := Ground.phase }, { on := 6, ground := Ground.phase }, { on := 7, ground := Ground.phase }, { on := 8, ground := Ground.phase }, { on := 9, ground := Ground.phase }, { on := 10, ground := Ground.phase }, { on := 11, ground := Ground.phase }, { on := 12, ground := Ground.phase }], guard := none }] Q (fun w' => w'.cell? ⟨gb392, 0, none⟩ = some (.slice A0_0 l0_0.length c0_0) ∧ w'.cell? ⟨gb393, 0, none⟩ = some (.slice A1_0 l1_0.length c1_0)) [] 3 #[true, true, true, true, true, true, true, true, true, true, true, false, false, false] (putAll { tmps := #[u0, u1, u2, u3, u4, u5, u6, u7, u8, u9, u10, u11, u12, u13, u14, u15, u16, u17, u18, u19, u20, u21, u22, u23, u24, u25, u26, u27, u28, u29, u30, u31, u32, u33, u34, u35, u36, u37, u38, u39, u40, u41, u42, u43, u44, u45, u46, u47, u48, u49, u50, u51, u52, u53, u54, u55, u56, u57, u58, u59, u60, u61, u62, u63, u64, u65, u66, u67, u68, u69, u70, u71, u72, u73, u74, u75, u76, u77, u78, u79, u80, u81, u82, u83, u84, u85, u86, u87, u88, u89, u90, u91, u92, u93, u94, u95, u96, u97, u98, u99, u100, u101, u102, u103, u104, u105, u106, u107, u108, u109, u110, u111, u112, u113, u114, u115, u116, u117, u118, u119, .agg #[.slice A0_0 l0_0.length c0_0], u121, .agg #[.slice A1_0 l1_0.length c1_0], u123, u124, u125, u126, u127, u128, u129, u130, u131, u132, u133, u134, u135, u136, u137, u138, u139, u140, u141, u142, u143, u144, u145, u146, u147, u148, u149, u150, u151, u152, u153, u154, u155], defers := [] } [(121, .agg #[s_.1]), (123, .agg #[s_.2.1]), (124, .tuple #[.agg #[s_.2.2.1], .agg #[s_.2.2.2.1], .bool t408]), (17, .pointer (some ⟨s_.2.2.2.2.1, 0, none⟩)), (18, .pointer (some ⟨s_.2.2.2.2.2, 0, none⟩)), (119, .tuple #[.agg #[s_.2.2.1], .agg #[s_.2.2.2.1], .bool t408]), (125, .agg #[s_.2.2.1]), (126, .agg #[s_.2.2.2.1]), (127, .bool t408)]) w') :
 wpAnyLast Try.prog .any #[{ dst := some 120, op := Op.load 31 (Operand.tmp 2), type := 31, pos := "exact.go:1184", after := #[], guard := none }, { dst := some 121, op := Op.call { callee := Callee.value (Operand.func 26), args := #[Operand.tmp 120], argTypes := #[31] }, type := 38, pos := "exact.go:1184", after := #[{ on := 0, ground := Ground.data }], guard := none }, { dst := some 122, op := Op.load 31 (Operand.tmp 3), type := 31, pos := "exact.go:1184", after := #[], guard := none }, { dst := some 123, op := Op.call { callee := Callee.value (Operand.func 26), args := #[Operand.tmp 122], argTypes := #[31] }, type := 38, pos := "exact.go:1184", after := #[{ on := 2, ground := Ground.data }, { on := 1, ground := Ground.chain }], guard := none }, { dst := some 124, op := Op.call { callee := Callee.value (Operand.func 23), args := #[Operand.tmp 121, Operand.tmp 123], argTypes := #[38, 38] }, type := 53, pos := "exact.go:1184", after := #[{ on := 1, ground := Ground.data }, { on := 3, ground := Ground.data }, { on := 3, ground := Ground.chain }], guard := none }, { dst := some 119, op := Op.move (Operand.tmp 124), type := 53, pos := "exact.go:1184", after := #[{ on := 4, ground := Ground.data }], guard := none }, { dst := some 125, op := Op.extract (Operand.tmp 119) 0, type := 38, pos := "exact.go:1184", after := #[{ on := 5, ground := Ground.data }], guard := none }, { dst := some 126, op := Op.extract (Operand.tmp 119) 1, type := 38, pos := "exact.go:1184", after := #[{ on := 5, ground := Ground.data }, { on := 11, ground := Ground.gcOnly Departure.lateStores }], guard := none }, { dst := some 127, op := Op.extract (Operand.tmp 119) 2, type := 4, pos := "exact.go:1184", after := #[{ on := 5, ground := Ground.data }, { on := 12, ground := Ground.gcOnly Departure.lateStores }], guard := none }, { dst := some 17, op := Op.alloc 38, type := 0, pos := "exact.go:1184", after := #[], guard := none }, { dst := some 18, op := Op.alloc 38, type := 0, pos := "exact.go:1184", after := #[], guard := none }, { dst := none, op := Op.store 38 (Operand.tmp 17) (Operand.tmp 125), type := 0, pos := "exact.go:1184", after := #[{ on := 9, ground := Ground.data }, { on := 6, ground := Ground.data }, { on := 4, ground := Ground.chain }, { on := 0, ground := Ground.phase }, { on := 1, ground := Ground.phase }, { on := 2, ground := Ground.phase }, { on := 3, ground := Ground.phase }, { on := 4, ground := Ground.phase }, { on := 5, ground := Ground.phase }, { on := 6, ground := Ground.phase }, { on := 7, ground := Ground.textOnly Departure.lateStores }, { on := 8, ground := Ground.textOnly Departure.lateStores }, { on := 9, ground := Ground.phase }, { on := 10, ground := Ground.phase }], guard := none }, { dst := none, op := Op.store 38 (Operand.tmp 18) (Operand.tmp 126), type := 0, pos := "exact.go:1184", after := #[{ on := 10, ground := Ground.data }, { on := 7, ground := Ground.data }, { on := 11, ground := Ground.chain }, { on := 0, ground := Ground.phase }, { on := 1, ground := Ground.phase }, { on := 2, ground := Ground.phase }, { on := 3, ground := Ground.phase }, { on := 4, ground := Ground.phase }, { on := 5, ground := Ground.phase }, { on := 6, ground := Ground.phase }, { on := 7, ground := Ground.phase }, { on := 8, ground := Ground.textOnly Departure.lateStores }, { on := 9, ground := Ground.phase }, { on := 10, ground := Ground.phase }, { on := 11, ground := Ground.phase }], guard := none }, { dst := some 19, op := Op.assign (Operand.tmp 127), type := 4, pos := "exact.go:1184", after := #[{ on := 8, ground := Ground.data }, { on := 12, ground := Ground.chain }, { on := 0, ground := Ground.phase }, { on := 1, ground := Ground.phase }, { on := 2, ground := Ground.phase }, { on := 3, ground := Ground.phase }, { on := 4, ground := Ground.phase }, { on := 5, ground := Ground.phase }, { on := 6, ground := Ground.phase }, { on := 7, ground := Ground.phase }, { on := 8, ground := Ground.phase }, { on := 9, ground := Ground.phase }, { on := 10, ground := Ground.phase }, { on := 11, ground := Ground.phase }, { on := 12, ground := Ground.phase }], guard := none }] Q (fun w' => w'.cell? ⟨gb392, 0, none⟩ = some (.slice A0_0 l0_0.length c0_0) ∧ w'.cell? ⟨gb393, 0, none⟩ = some (.slice A1_0 l1_0.length c1_0)) [] 12 #[true, false, true, false, false, false, false, false, false, false, false, false, false, false] { tmps := #[u0, u1, u2, u3, u4, u5, u6, u7, u8, u9, u10, u11, u12, u13, u14, u15, u16, u17, u18, u19, u20, u21, u22, u23, u24, u25, u26, u27, u28, u29, u30, u31, u32, u33, u34, u35, u36, u37, u38, u39, u40, u41, u42, u43, u44, u45, u46, u47, u48, u49, u50, u51, u52, u53, u54, u55, u56, u57, u58, u59, u60, u61, u62, u63, u64, u65, u66, u67, u68, u69, u70, u71, u72, u73, u74, u75, u76, u77, u78, u79, u80, u81, u82, u83, u84, u85, u86, u87, u88, u89, u90, u91, u92, u93, u94, u95, u96, u97, u98, u99, u100, u101, u102, u103, u104, u105, u106, u107, u108, u109, u110, u111, u112, u113, u114, u115, u116, u117, u118, u119, .agg #[.slice A0_0 l0_0.length c0_0], u121, .agg #[.slice A1_0 l1_0.length c1_0], u123, u124, u125, u126, u127, u128, u129, u130, u131, u132, u133, u134, u135, u136, u137, u138, u139, u140, u141, u142, u143, u144, u145, u146, u147, u148, u149, u150, u151, u152, u153, u154, u155], defers := [] } w := by
 have hu31 := Try.underlying31
 have hu38 := Try.underlying38
 have HB := Aside0.mk (Below.refl w.heap.size w)
 refine join_ (σ := Value × Value × Value × Value × Nat) 4 #[true, true, true, true, true, true, true, true, true, true, false, false, false, false] (fun s_ => [(121, .agg #[s_.1]), (123, .agg #[s_.2.1]), (124, .tuple #[.agg #[s_.2.2.1], .agg #[s_.2.2.2.1], .bool t408]), (17, .pointer (some ⟨s_.2.2.2.2, 0, none⟩)), (119, .tuple #[.agg #[s_.2.2.1], .agg #[s_.2.2.2.1], .bool t408]), (125, .agg #[s_.2.2.1]), (126, .agg #[s_.2.2.2.1]), (127, .bool t408)]) (fun s_ w' => (w'.cell? ⟨gb392, 0, none⟩ = some (.slice A0_0 l0_0.length c0_0) ∧ w'.cell? ⟨gb393, 0, none⟩ = some (.slice A1_0 l1_0.length c1_0)) ∧ Aside0 (Kd.R (Kd.int .i64) 3 w' w.heap.size (fun k_ => some k_ ≠ (s_.2.1 : Value).ownBlock ∧ some k_ ≠ (s_.2.2.1 : Value).ownBlock ∧ some k_ ≠ (s_.2.2.2.1 : Value).ownBlock) s_.1 t396) ∧ Aside0 (Kd.R (Kd.int .i64) 3 w' w.heap.size (fun k_ => some k_ ≠ (s_.1 : Value).ownBlock ∧ some k_ ≠ (s_.2.2.1 : Value).ownBlock ∧ some k_ ≠ (s_.2.2.2.1 : Value).ownBlock) s_.2.1 t399) ∧ Aside0 (Kd.R (Kd.int .i64) 3 w' w.heap.size (fun k_ => some k_ ≠ (s_.1 : Value).ownBlock ∧ some k_ ≠ (s_.2.1 : Value).ownBlock ∧ some k_ ≠ (s_.2.2.2.1 : Value).ownBlock) s_.2.2.1 t402) ∧ Aside0 (Kd.R (Kd.int .i64) 3 w' w.heap.size (fun k_ => some k_ ≠ (s_.1 : Value).ownBlock ∧ some k_ ≠ (s_.2.1 : Value).ownBlock ∧ some k_ ≠ (s_.2.2.1 : Value).ownBlock) s_.2.2.2.1 t405) ∧ Aside0 (w'.heap[gb392]? = some (.cells #[.slice A0_0 l0_0.length c0_0] 31 (0, 0))) ∧ Aside0 (w'.heap[gb393]? = some (.cells #[.slice A1_0 l1_0.length c1_0] 31 (0, 0))) ∧ Aside0 (w'.heap[s_.2.2.2.2]? = some (.cells #[.slice none 0 0] 38 (0, 0))) ∧ Aside0 (w.heap.size ≤ s_.2.2.2.2) ∧ Aside0 (w.heap.size ≤ s_.2.2.2.2) ∧ Aside0 (gb392 ≠ s_.2.2.2.2) ∧ Aside0 (s_.2.2.2.2 ≠ gb392) ∧ Aside0 (gb393 ≠ s_.2.2.2.2) ∧ Aside0 (s_.2.2.2.2 ≠ gb393) ∧ Aside0 (Below w.heap.size w w')) ?_ ?_
 rotate_left
 ·intro hJ1_3_4_9
  refine join_ (σ := Value × Value × Value × Value × Nat) 4 #[true, true, true, true, true, true, true, true, true, false, true, false, false, false] (fun s_ => [(121, .agg #[s_.1]), (123, .agg #[s_.2.1]), (124, .tuple #[.agg #[s_.2.2.1], .agg #[s_.2.2.2.1], .bool t408]), (18, .pointer (some ⟨s_.2.2.2.2, 0, none⟩)), (119, .tuple #[.agg #[s_.2.2.1], .agg #[s_.2.2.2.1], .bool t408]), (125, .agg #[s_.2.2.1]), (126, .agg #[s_.2.2.2.1]), (127, .bool t408)]) (fun s_ w' => (w'.cell? ⟨gb392, 0, none⟩ = some (.slice A0_0 l0_0.length c0_0) ∧ w'.cell? ⟨gb393, 0, none⟩ = some (.slice A1_0 l1_0.length c1_0)) ∧ Aside0 (Kd.R (Kd.int .i64) 3 w' w.heap.size (fun k_ => some k_ ≠ (s_.2.1 : Value).ownBlock ∧ some k_ ≠ (s_.2.2.1 : Value).ownBlock ∧ some k_ ≠ (s_.2.2.2.1 : Value).ownBlock) s_.1 t396) ∧ Aside0 (Kd.R (Kd.int .i64) 3 w' w.heap.size (fun k_ => some k_ ≠ (s_.1 : Value).ownBlock ∧ some k_ ≠ (s_.2.2.1 : Value).ownBlock ∧ some k_ ≠ (s_.2.2.2.1 : Value).ownBlock) s_.2.1 t399) ∧ Aside0 (Kd.R (Kd.int .i64) 3 w' w.heap.size (fun k_ => some k_ ≠ (s_.1 : Value).ownBlock ∧ some k_ ≠ (s_.2.1 : Value).ownBlock ∧ some k_ ≠ (s_.2.2.2.1 : Value).ownBlock) s_.2.2.1 t402) ∧ Aside0 (Kd.R (Kd.int .i64) 3 w' w.heap.size (fun k_ => some k_ ≠ (s_.1 : Value).ownBlock ∧ some k_ ≠ (s_.2.1 : Value).ownBlock ∧ some k_ ≠ (s_.2.2.1 : Value).ownBlock) s_.2.2.2.1 t405) ∧ Aside0 (w'.heap[gb392]? = some (.cells #[.slice A0_0 l0_0.length c0_0] 31 (0, 0))) ∧ Aside0 (w'.heap[gb393]? = some (.cells #[.slice A1_0 l1_0.length c1_0] 31 (0, 0))) ∧ Aside0 (w'.heap[s_.2.2.2.2]? = some (.cells #[.slice none 0 0] 38 (0, 0))) ∧ Aside0 (w.heap.size ≤ s_.2.2.2.2) ∧ Aside0 (w.heap.size ≤ s_.2.2.2.2) ∧ Aside0 (gb392 ≠ s_.2.2.2.2) ∧ Aside0 (s_.2.2.2.2 ≠ gb392) ∧ Aside0 (gb393 ≠ s_.2.2.2.2) ∧ Aside0 (s_.2.2.2.2 ≠ gb393) ∧ Aside0 (Below w.heap.size w w')) ?_ ?_
  rotate_left
  ·intro hJ1_3_4_10
   refine join_ (σ := Value × Value × Nat × Nat) 8 #[true, true, true, true, false, false, false, false, false, true, true, false, false, false] (fun s_ => [(121, .agg #[s_.1]), (123, .agg #[s_.2.1]), (17, .pointer (some ⟨s_.2.2.1, 0, none⟩)), (18, .pointer (some ⟨s_.2.2.2, 0, none⟩))]) (fun s_ w' => (w'.cell? ⟨gb392, 0, none⟩ = some (.slice A0_0 l0_0.length c0_0) ∧ w'.cell? ⟨gb393, 0, none⟩ = some (.slice A1_0 l1_0.length c1_0)) ∧ Aside0 (Kd.R (Kd.int .i64) 3 w' w.heap.size (fun k_ => some k_ ≠ (s_.2.1 : Value).ownBlock) s_.1 t396) ∧ Aside0 (Kd.R (Kd.int .i64) 3 w' w.heap.size (fun k_ => some k_ ≠ (s_.1 : Value).ownBlock) s_.2.1 t399) ∧ Aside0 (w'.heap[gb392]? = some (.cells #[.slice A0_0 l0_0.length c0_0] 31 (0, 0))) ∧ Aside0 (w'.heap[gb393]? = some (.cells #[.slice A1_0 l1_0.length c1_0] 31 (0, 0))) ∧ Aside0 (w'.heap[s_.2.2.1]? = some (.cells #[.slice none 0 0] 38 (0, 0))) ∧ Aside0 (w'.heap[s_.2.2.2]? = some (.cells #[.slice none 0 0] 38 (0, 0))) ∧ Aside0 (w.heap.size ≤ s_.2.2.1) ∧ Aside0 (w.heap.size ≤ s_.2.2.1) ∧ Aside0 (gb392 ≠ s_.2.2.1) ∧ Aside0 (s_.2.2.1 ≠ gb392) ∧ Aside0 (gb393 ≠ s_.2.2.1) ∧ Aside0 (s_.2.2.1 ≠ gb393) ∧ Aside0 (s_.2.2.2 ≠ s_.2.2.1) ∧ Aside0 (s_.2.2.1 ≠ s_.2.2.2) ∧ Aside0 (w.heap.size ≤ s_.2.2.2) ∧ Aside0 (w.heap.size ≤ s_.2.2.2) ∧ Aside0 (gb392 ≠ s_.2.2.2) ∧ Aside0 (s_.2.2.2 ≠ gb392) ∧ Aside0 (gb393 ≠ s_.2.2.2) ∧ Aside0 (s_.2.2.2 ≠ gb393) ∧ Aside0 (Below w.heap.size w w')) ?_ ?_
   rotate_left
   ·intro hJ1_3_9_10
    refine join_ (σ := Value × Value × Value × Value) 5 #[true, true, true, true, true, true, true, true, true, false, false, false, false, false] (fun s_ => [(121, .agg #[s_.1]), (123, .agg #[s_.2.1]), (124, .tuple #[.agg #[s_.2.2.1], .agg #[s_.2.2.2], .bool t408]), (119, .tuple #[.agg #[s_.2.2.1], .agg #[s_.2.2.2], .bool t408]), (125, .agg #[s_.2.2.1]), (126, .agg #[s_.2.2.2]), (127, .bool t408)]) (fun s_ w' => (w'.cell? ⟨gb392, 0, none⟩ = some (.slice A0_0 l0_0.length c0_0) ∧ w'.cell? ⟨gb393, 0, none⟩ = some (.slice A1_0 l1_0.length c1_0)) ∧ Aside0 (Kd.R (Kd.int .i64) 3 w' w.heap.size (fun k_ => some k_ ≠ (s_.2.1 : Value).ownBlock ∧ some k_ ≠ (s_.2.2.1 : Value).ownBlock ∧ some k_ ≠ (s_.2.2.2 : Value).ownBlock) s_.1 t396) ∧ Aside0 (Kd.R (Kd.int .i64) 3 w' w.heap.size (fun k_ => some k_ ≠ (s_.1 : Value).ownBlock ∧ some k_ ≠ (s_.2.2.1 : Value).ownBlock ∧ some k_ ≠ (s_.2.2.2 : Value).ownBlock) s_.2.1 t399) ∧ Aside0 (Kd.R (Kd.int .i64) 3 w' w.heap.size (fun k_ => some k_ ≠ (s_.1 : Value).ownBlock ∧ some k_ ≠ (s_.2.1 : Value).ownBlock ∧ some k_ ≠ (s_.2.2.2 : Value).ownBlock) s_.2.2.1 t402) ∧ Aside0 (Kd.R (Kd.int .i64) 3 w' w.heap.size (fun k_ => some k_ ≠ (s_.1 : Value).ownBlock ∧ some k_ ≠ (s_.2.1 : Value).ownBlock ∧ some k_ ≠ (s_.2.2.1 : Value).ownBlock) s_.2.2.2 t405) ∧ Aside0 (w'.heap[gb392]? = some (.cells #[.slice A0_0 l0_0.length c0_0] 31 (0, 0))) ∧ Aside0 (w'.heap[gb393]? = some (.cells #[.slice A1_0 l1_0.length c1_0] 31 (0, 0))) ∧ Aside0 (Below w.heap.size w w')) ?_ ?_
    rotate_left
    ·intro hJ1_3_4
     refine join_ (σ := Value × Value × Nat) 9 #[true, true, true, true, false, false, false, false, false, true, false, false, false, false] (fun s_ => [(121, .agg #[s_.1]), (123, .agg #[s_.2.1]), (17, .pointer (some ⟨s_.2.2, 0, none⟩))]) (fun s_ w' => (w'.cell? ⟨gb392, 0, none⟩ = some (.slice A0_0 l0_0.length c0_0) ∧ w'.cell? ⟨gb393, 0, none⟩ = some (.slice A1_0 l1_0.length c1_0)) ∧ Aside0 (Kd.R (Kd.int .i64) 3 w' w.heap.size (fun k_ => some k_ ≠ (s_.2.1 : Value).ownBlock) s_.1 t396) ∧ Aside0 (Kd.R (Kd.int .i64) 3 w' w.heap.size (fun k_ => some k_ ≠ (s_.1 : Value).ownBlock) s_.2.1 t399) ∧ Aside0 (w'.heap[gb392]? = some (.cells #[.slice A0_0 l0_0.length c0_0] 31 (0, 0))) ∧ Aside0 (w'.heap[gb393]? = some (.cells #[.slice A1_0 l1_0.length c1_0] 31 (0, 0))) ∧ Aside0 (w'.heap[s_.2.2]? = some (.cells #[.slice none 0 0] 38 (0, 0))) ∧ Aside0 (w.heap.size ≤ s_.2.2) ∧ Aside0 (w.heap.size ≤ s_.2.2) ∧ Aside0 (gb392 ≠ s_.2.2) ∧ Aside0 (s_.2.2 ≠ gb392) ∧ Aside0 (gb393 ≠ s_.2.2) ∧ Aside0 (s_.2.2 ≠ gb393) ∧ Aside0 (Below w.heap.size w w')) ?_ ?_
     rotate_left
     ·intro hJ1_3_9
      refine join_ (σ := Value × Value × Nat) 9 #[true, true, true, true, false, false, false, false, false, false, true, false, false, false] (fun s_ => [(121, .agg #[s_.1]), (123, .agg #[s_.2.1]), (18, .pointer (some ⟨s_.2.2, 0, none⟩))]) (fun s_ w' => (w'.cell? ⟨gb392, 0, none⟩ = some (.slice A0_0 l0_0.length c0_0) ∧ w'.cell? ⟨gb393, 0, none⟩ = some (.slice A1_0 l1_0.length c1_0)) ∧ Aside0 (Kd.R (Kd.int .i64) 3 w' w.heap.size (fun k_ => some k_ ≠ (s_.2.1 : Value).ownBlock) s_.1 t396) ∧ Aside0 (Kd.R (Kd.int .i64) 3 w' w.heap.size (fun k_ => some k_ ≠ (s_.1 : Value).ownBlock) s_.2.1 t399) ∧ Aside0 (w'.heap[gb392]? = some (.cells #[.slice A0_0 l0_0.length c0_0] 31 (0, 0))) ∧ Aside0 (w'.heap[gb393]? = some (.cells #[.slice A1_0 l1_0.length c1_0] 31 (0, 0))) ∧ Aside0 (w'.heap[s_.2.2]? = some (.cells #[.slice none 0 0] 38 (0, 0))) ∧ Aside0 (w.heap.size ≤ s_.2.2) ∧ Aside0 (w.heap.size ≤ s_.2.2) ∧ Aside0 (gb392 ≠ s_.2.2) ∧ Aside0 (s_.2.2 ≠ gb392) ∧ Aside0 (gb393 ≠ s_.2.2) ∧ Aside0 (s_.2.2 ≠ gb393) ∧ Aside0 (Below w.heap.size w w')) ?_ ?_
      rotate_left
      ·intro hJ1_3_10
       refine join_ (σ := Value × Nat × Nat) 9 #[true, true, true, false, false, false, false, false, false, true, true, false, false, false] (fun s_ => [(121, .agg #[s_.1]), (17, .pointer (some ⟨s_.2.1, 0, none⟩)), (18, .pointer (some ⟨s_.2.2, 0, none⟩))]) (fun s_ w' => (w'.cell? ⟨gb392, 0, none⟩ = some (.slice A0_0 l0_0.length c0_0) ∧ w'.cell? ⟨gb393, 0, none⟩ = some (.slice A1_0 l1_0.length c1_0)) ∧ Aside0 (Kd.R (Kd.int .i64) 3 w' w.heap.size (fun _ => True) s_.1 t396) ∧ Aside0 (w'.heap[gb392]? = some (.cells #[.slice A0_0 l0_0.length c0_0] 31 (0, 0))) ∧ Aside0 (w'.heap[gb393]? = some (.cells #[.slice A1_0 l1_0.length c1_0] 31 (0, 0))) ∧ Aside0 (w'.heap[s_.2.1]? = some (.cells #[.slice none 0 0] 38 (0, 0))) ∧ Aside0 (w'.heap[s_.2.2]? = some (.cells #[.slice none 0 0] 38 (0, 0))) ∧ Aside0 (w.heap.size ≤ s_.2.1) ∧ Aside0 (w.heap.size ≤ s_.2.1) ∧ Aside0 (gb392 ≠ s_.2.1) ∧ Aside0 (s_.2.1 ≠ gb392) ∧ Aside0 (gb393 ≠ s_.2.1) ∧ Aside0 (s_.2.1 ≠ gb393) ∧ Aside0 (s_.2.2 ≠ s_.2.1) ∧ Aside0 (s_.2.1 ≠ s_.2.2) ∧ Aside0 (w.heap.size ≤ s_.2.2) ∧ Aside0 (w.heap.size ≤ s_.2.2) ∧ Aside0 (gb392 ≠ s_.2.2) ∧ Aside0 (s_.2.2 ≠ gb392) ∧ Aside0 (gb393 ≠ s_.2.2) ∧ Aside0 (s_.2.2 ≠ gb393) ∧ Aside0 (Below w.heap.size w w')) ?_ ?_
       rotate_left
       ·intro hJ1_9_10
        refine join_ (σ := Value × Value) 10 #[true, true, true, true, false, false, false, false, false, false, false, false, false, false] (fun s_ => [(121, .agg #[s_.1]), (123, .agg #[s_.2])]) (fun s_ w' => (w'.cell? ⟨gb392, 0, none⟩ = some (.slice A0_0 l0_0.length c0_0) ∧ w'.cell? ⟨gb393, 0, none⟩ = some (.slice A1_0 l1_0.length c1_0)) ∧ Aside0 (Kd.R (Kd.int .i64) 3 w' w.heap.size (fun k_ => some k_ ≠ (s_.2 : Value).ownBlock) s_.1 t396) ∧ Aside0 (Kd.R (Kd.int .i64) 3 w' w.heap.size (fun k_ => some k_ ≠ (s_.1 : Value).ownBlock) s_.2 t399) ∧ Aside0 (w'.heap[gb392]? = some (.cells #[.slice A0_0 l0_0.length c0_0] 31 (0, 0))) ∧ Aside0 (w'.heap[gb393]? = some (.cells #[.slice A1_0 l1_0.length c1_0] 31 (0, 0))) ∧ Aside0 (Below w.heap.size w w')) ?_ ?_
        rotate_left
        ·intro hJ1_3
         refine join_ (σ := Value × Nat) 10 #[true, true, true, false, false, false, false, false, false, true, false, false, false, false] (fun s_ => [(121, .agg #[s_.1]), (17, .pointer (some ⟨s_.2, 0, none⟩))]) (fun s_ w' => (w'.cell? ⟨gb392, 0, none⟩ = some (.slice A0_0 l0_0.length c0_0) ∧ w'.cell? ⟨gb393, 0, none⟩ = some (.slice A1_0 l1_0.length c1_0)) ∧ Aside0 (Kd.R (Kd.int .i64) 3 w' w.heap.size (fun _ => True) s_.1 t396) ∧ Aside0 (w'.heap[gb392]? = some (.cells #[.slice A0_0 l0_0.length c0_0] 31 (0, 0))) ∧ Aside0 (w'.heap[gb393]? = some (.cells #[.slice A1_0 l1_0.length c1_0] 31 (0, 0))) ∧ Aside0 (w'.heap[s_.2]? = some (.cells #[.slice none 0 0] 38 (0, 0))) ∧ Aside0 (w.heap.size ≤ s_.2) ∧ Aside0 (w.heap.size ≤ s_.2) ∧ Aside0 (gb392 ≠ s_.2) ∧ Aside0 (s_.2 ≠ gb392) ∧ Aside0 (gb393 ≠ s_.2) ∧ Aside0 (s_.2 ≠ gb393) ∧ Aside0 (Below w.heap.size w w')) ?_ ?_
         rotate_left
         ·intro hJ1_9
          refine join_ (σ := Value × Nat) 10 #[true, true, true, false, false, false, false, false, false, false, true, false, false, false] (fun s_ => [(121, .agg #[s_.1]), (18, .pointer (some ⟨s_.2, 0, none⟩))]) (fun s_ w' => (w'.cell? ⟨gb392, 0, none⟩ = some (.slice A0_0 l0_0.length c0_0) ∧ w'.cell? ⟨gb393, 0, none⟩ = some (.slice A1_0 l1_0.length c1_0)) ∧ Aside0 (Kd.R (Kd.int .i64) 3 w' w.heap.size (fun _ => True) s_.1 t396) ∧ Aside0 (w'.heap[gb392]? = some (.cells #[.slice A0_0 l0_0.length c0_0] 31 (0, 0))) ∧ Aside0 (w'.heap[gb393]? = some (.cells #[.slice A1_0 l1_0.length c1_0] 31 (0, 0))) ∧ Aside0 (w'.heap[s_.2]? = some (.cells #[.slice none 0 0] 38 (0, 0))) ∧ Aside0 (w.heap.size ≤ s_.2) ∧ Aside0 (w.heap.size ≤ s_.2) ∧ Aside0 (gb392 ≠ s_.2) ∧ Aside0 (s_.2 ≠ gb392) ∧ Aside0 (gb393 ≠ s_.2) ∧ Aside0 (s_.2 ≠ gb393) ∧ Aside0 (Below w.heap.size w w')) ?_ ?_
          rotate_left
          ·intro hJ1_10
           refine join_ (σ := Nat × Nat) 10 #[true, false, true, false, false, false, false, false, false, true, true, false, false, false] (fun s_ => [(17, .pointer (some ⟨s_.1, 0, none⟩)), (18, .pointer (some ⟨s_.2, 0, none⟩))]) (fun s_ w' => (w'.cell? ⟨gb392, 0, none⟩ = some (.slice A0_0 l0_0.length c0_0) ∧ w'.cell? ⟨gb393, 0, none⟩ = some (.slice A1_0 l1_0.length c1_0)) ∧ Aside0 (w'.heap[gb392]? = some (.cells #[.slice A0_0 l0_0.length c0_0] 31 (0, 0))) ∧ Aside0 (w'.heap[gb393]? = some (.cells #[.slice A1_0 l1_0.length c1_0] 31 (0, 0))) ∧ Aside0 (w'.heap[s_.1]? = some (.cells #[.slice none 0 0] 38 (0, 0))) ∧ Aside0 (w'.heap[s_.2]? = some (.cells #[.slice none 0 0] 38 (0, 0))) ∧ Aside0 (w.heap.size ≤ s_.1) ∧ Aside0 (w.heap.size ≤ s_.1) ∧ Aside0 (gb392 ≠ s_.1) ∧ Aside0 (s_.1 ≠ gb392) ∧ Aside0 (gb393 ≠ s_.1) ∧ Aside0 (s_.1 ≠ gb393) ∧ Aside0 (s_.2 ≠ s_.1) ∧ Aside0 (s_.1 ≠ s_.2) ∧ Aside0 (w.heap.size ≤ s_.2) ∧ Aside0 (w.heap.size ≤ s_.2) ∧ Aside0 (gb392 ≠ s_.2) ∧ Aside0 (s_.2 ≠ gb392) ∧ Aside0 (gb393 ≠ s_.2) ∧ Aside0 (s_.2 ≠ gb393) ∧ Aside0 (Below w.heap.size w w')) ?_ ?_
           rotate_left
           ·intro hJ9_10
            refine join_ (σ := Value) 11 #[true, true, true, false, false, false, false, false, false, false, false, false, false, false] (fun s_ => [(121, .agg #[s_])]) (fun s_ w' => (w'.cell? ⟨gb392, 0, none⟩ = some (.slice A0_0 l0_0.length c0_0) ∧ w'.cell? ⟨gb393, 0, none⟩ = some (.slice A1_0 l1_0.length c1_0)) ∧ Aside0 (Kd.R (Kd.int .i64) 3 w' w.heap.size (fun _ => True) s_ t396) ∧ Aside0 (w'.heap[gb392]? = some (.cells #[.slice A0_0 l0_0.length c0_0] 31 (0, 0))) ∧ Aside0 (w'.heap[gb393]? = some (.cells #[.slice A1_0 l1_0.length c1_0] 31 (0, 0))) ∧ Aside0 (Below w.heap.size w w')) ?_ ?_
            rotate_left
            ·intro hJ1
             refine join_ (σ := Nat) 11 #[true, false, true, false, false, false, false, false, false, true, false, false, false, false] (fun s_ => [(17, .pointer (some ⟨s_, 0, none⟩))]) (fun s_ w' => (w'.cell? ⟨gb392, 0, none⟩ = some (.slice A0_0 l0_0.length c0_0) ∧ w'.cell? ⟨gb393, 0, none⟩ = some (.slice A1_0 l1_0.length c1_0)) ∧ Aside0 (w'.heap[gb392]? = some (.cells #[.slice A0_0 l0_0.length c0_0] 31 (0, 0))) ∧ Aside0 (w'.heap[gb393]? = some (.cells #[.slice A1_0 l1_0.length c1_0] 31 (0, 0))) ∧ Aside0 (w'.heap[s_]? = some (.cells #[.slice none 0 0] 38 (0, 0))) ∧ Aside0 (w.heap.size ≤ s_) ∧ Aside0 (w.heap.size ≤ s_) ∧ Aside0 (gb392 ≠ s_) ∧ Aside0 (s_ ≠ gb392) ∧ Aside0 (gb393 ≠ s_) ∧ Aside0 (s_ ≠ gb393) ∧ Aside0 (Below w.heap.size w w')) ?_ ?_
             rotate_left
             ·intro hJ9
              refine join_ (σ := Nat) 11 #[true, false, true, false, false, false, false, false, false, false, true, false, false, false] (fun s_ => [(18, .pointer (some ⟨s_, 0, none⟩))]) (fun s_ w' => (w'.cell? ⟨gb392, 0, none⟩ = some (.slice A0_0 l0_0.length c0_0) ∧ w'.cell? ⟨gb393, 0, none⟩ = some (.slice A1_0 l1_0.length c1_0)) ∧ Aside0 (w'.heap[gb392]? = some (.cells #[.slice A0_0 l0_0.length c0_0] 31 (0, 0))) ∧ Aside0 (w'.heap[gb393]? = some (.cells #[.slice A1_0 l1_0.length c1_0] 31 (0, 0))) ∧ Aside0 (w'.heap[s_]? = some (.cells #[.slice none 0 0] 38 (0, 0))) ∧ Aside0 (w.heap.size ≤ s_) ∧ Aside0 (w.heap.size ≤ s_) ∧ Aside0 (gb392 ≠ s_) ∧ Aside0 (s_ ≠ gb392) ∧ Aside0 (gb393 ≠ s_) ∧ Aside0 (s_ ≠ gb393) ∧ Aside0 (Below w.heap.size w w')) ?_ ?_
              rotate_left
              ·intro hJ10
               refine three_ (i := 1) (j := 9) (k := 10) (Ni := some 121) (Nj := some 17) (Nk := some 18) #[true, true, true, false, false, false, false, false, false, false, false, false, false, false] #[true, false, true, false, false, false, false, false, false, true, false, false, false, false] #[true, false, true, false, false, false, false, false, false, false, true, false, false, false] rfl rfl rfl rfl rfl rfl (three_of HT_.out (by kernel_rfl)) (by decide) (by decide) (by decide) (fun K hK => ?_) (fun K hK => ?_) (fun K hK => ?_)
               ·skip
                refine goes_ Try.func26 (by kernel_rfl) rfl #[.agg #[.slice A0_0 l0_0.length c0_0]] (by rfl) rfl rfl hkL ?_
                with_reducible refine (laws_toNat.calls k _ _ l0_0 t396 _ ?side1 ?side2 A19.out).mono ?_
                (case side1 => exact hkC ((Kd.C_below HR0_0.out HB.out)))
                (case side2 => exact HC0_0.out)
                rintro e w34 ⟨v397, rfl, ho0, hb⟩
                refine ⟨_, rfl, ?_⟩
                have n_ := hkA (Aside0.mk (Kd.R_lower ho0 (below_size (hkS HB)))) (hkA (hkBb BK392 hb) (hkA (hkBb BK393 hb) (hkU HB hb)))
                clear BK392 BK393 HB
                obtain ⟨HO398, BK392, BK393, HB⟩ := n_
                (try clear hb); (try clear ho0)
                refine hK.out _ _ ⟨(blk_cell BK392.out 0).trans rfl, (blk_cell BK393.out 0).trans rfl⟩ (fun hHeld => ?_)
                clear hK K
                refine hkNo (N := some 121) ?_
                exact hkNm (hJ1 (_) _ ⟨hHeld, ⟨hkR HO398⟩, ⟨hkB BK392⟩, ⟨hkB BK393⟩, ⟨hkS HB⟩⟩)
               ·skip
                refine hkBs (N := 17) (cs := #[.slice none 0 0]) (t := 38) ?_
                intro gb409 hg w34 hbox hb
                have n_ := hkA (hkBb BK392 hb) (hkA (hkBb BK393 hb) (hkA (hkU HB hb) (hkA (Aside0.mk (hbox)) (hkA (hkG hg (hkS HB)) (hkA (hkG hg (hkS HB)) (hkA (hkN hg BK392) (hkA (hkM hg BK392) (hkA (hkN hg BK393) (hkM hg BK393)))))))))
                clear BK392 BK393 HB
                obtain ⟨BK392, BK393, HB, BK409, GW409, GE409, NB392_409, NB409_392, NB393_409, NB409_393⟩ := n_
                clear hb hbox hg
                refine hK.out _ _ ⟨(blk_cell BK392.out 0).trans rfl, (blk_cell BK393.out 0).trans rfl⟩ (fun hHeld => ?_)
                clear hK K
                refine hkNo (N := some 17) ?_
                exact hkNm (hJ9 (gb409) _ ⟨hHeld, ⟨hkB BK392⟩, ⟨hkB BK393⟩, ⟨hkB BK409⟩, GW409, GE409, NB392_409, NB409_392, NB393_409, NB409_393, ⟨hkS HB⟩⟩)
               ·skip
                refine hkBs (N := 18) (cs := #[.slice none 0 0]) (t := 38) ?_
                intro gb410 hg w34 hbox hb
                have n_ := hkA (hkBb BK392 hb) (hkA (hkBb BK393 hb) (hkA (hkU HB hb) (hkA (Aside0.mk (hbox)) (hkA (hkG hg (hkS HB)) (hkA (hkG hg (hkS HB)) (hkA (hkN hg BK392) (hkA (hkM hg BK392) (hkA (hkN hg BK393) (hkM hg BK393)))))))))
                clear BK392 BK393 HB
                obtain ⟨BK392, BK393, HB, BK410, GW410, GE410, NB392_410, NB410_392, NB393_410, NB410_393⟩ := n_
                clear hb hbox hg
                refine hK.out _ _ ⟨(blk_cell BK392.out 0).trans rfl, (blk_cell BK393.out 0).trans rfl⟩ (fun hHeld => ?_)
                clear hK K
                refine hkNo (N := some 18) ?_
                exact hkNm (hJ10 (gb410) _ ⟨hHeld, ⟨hkB BK392⟩, ⟨hkB BK393⟩, ⟨hkB BK410⟩, GW410, GE410, NB392_410, NB410_392, NB393_410, NB410_393, ⟨hkS HB⟩⟩)
              ·skip
               clear BK392 BK393 HB
               rintro gb410 w35 h_
               try dsimp only at h_
               obtain ⟨hHeld, BK392, BK393, BK410, GW410, GE410, NB392_410, NB410_392, NB393_410, NB410_393, HB⟩ := h_
               refine hkNp ?_
               refine two_ (i := 1) (j := 9) (Ni := some 121) (Nj := some 17) #[true, true, true, false, false, false, false, false, false, false, true, false, false, false] #[true, false, true, false, false, false, false, false, false, true, true, false, false, false] rfl rfl rfl rfl (two_of HT_.out (by kernel_rfl)) (by decide) (by decide) (fun K hK => ?_) (fun K hK => ?_)
               ·skip
                refine goes_ Try.func26 (by kernel_rfl) rfl #[.agg #[.slice A0_0 l0_0.length c0_0]] (by rfl) rfl rfl hkL ?_
                with_reducible refine (laws_toNat.calls k _ _ l0_0 t396 _ ?side1 ?side2 A19.out).mono ?_
                (case side1 => exact hkC ((Kd.C_below HR0_0.out HB.out)))
                (case side2 => exact HC0_0.out)
                rintro e w36 ⟨v397, rfl, ho0, hb⟩
                refine ⟨_, rfl, ?_⟩
                have n_ := hkA (Aside0.mk (Kd.R_lower ho0 (below_size (hkS HB)))) (hkA (hkBb BK392 hb) (hkA (hkBb BK393 hb) (hkA (hkBb BK410 hb) (hkU HB hb))))
                clear BK392 BK393 BK410 HB
                obtain ⟨HO398, BK392, BK393, BK410, HB⟩ := n_
                (try clear hb); (try clear ho0)
                refine hK.out _ _ ⟨(blk_cell BK392.out 0).trans rfl, (blk_cell BK393.out 0).trans rfl⟩ (fun hHeld => ?_)
                clear hK K
                refine hkNo (N := some 121) ?_
                exact hkNm (hJ1_10 (_, gb410) _ ⟨hHeld, ⟨hkR HO398⟩, ⟨hkB BK392⟩, ⟨hkB BK393⟩, ⟨hkB BK410⟩, GW410, GE410, NB392_410, NB410_392, NB393_410, NB410_393, ⟨hkS HB⟩⟩)
               ·skip
                refine hkBs (N := 17) (cs := #[.slice none 0 0]) (t := 38) ?_
                intro gb409 hg w36 hbox hb
                have n_ := hkA (hkBb BK392 hb) (hkA (hkBb BK393 hb) (hkA (hkBb BK410 hb) (hkA (hkU HB hb) (hkA (Aside0.mk (hbox)) (hkA (hkG hg (hkS HB)) (hkA (hkG hg (hkS HB)) (hkA (hkN hg BK392) (hkA (hkM hg BK392) (hkA (hkN hg BK393) (hkA (hkM hg BK393) (hkA (hkN hg BK410) (hkM hg BK410))))))))))))
                clear BK392 BK393 BK410 HB
                obtain ⟨BK392, BK393, BK410, HB, BK409, GW409, GE409, NB392_409, NB409_392, NB393_409, NB409_393, NB410_409, NB409_410⟩ := n_
                clear hb hbox hg
                refine hK.out _ _ ⟨(blk_cell BK392.out 0).trans rfl, (blk_cell BK393.out 0).trans rfl⟩ (fun hHeld => ?_)
                clear hK K
                refine hkNo (N := some 17) ?_
                exact hkNm (hJ9_10 (gb409, gb410) _ ⟨hHeld, ⟨hkB BK392⟩, ⟨hkB BK393⟩, ⟨hkB BK409⟩, ⟨hkB BK410⟩, GW409, GE409, NB392_409, NB409_392, NB393_409, NB409_393, NB410_409, NB409_410, GW410, GE410, NB392_410, NB410_392, NB393_410, NB410_393, ⟨hkS HB⟩⟩)
             ·skip
              clear BK392 BK393 HB
              rintro gb409 w35 h_
              try dsimp only at h_
              obtain ⟨hHeld, BK392, BK393, BK409, GW409, GE409, NB392_409, NB409_392, NB393_409, NB409_393, HB⟩ := h_
              refine hkNp ?_
              refine two_ (i := 1) (j := 10) (Ni := some 121) (Nj := some 18) #[true, true, true, false, false, false, false, false, false, true, false, false, false, false] #[true, false, true, false, false, false, false, false, false, true, true, false, false, false] rfl rfl rfl rfl (two_of HT_.out (by kernel_rfl)) (by decide) (by decide) (fun K hK => ?_) (fun K hK => ?_)
              ·skip
               refine goes_ Try.func26 (by kernel_rfl) rfl #[.agg #[.slice A0_0 l0_0.length c0_0]] (by rfl) rfl rfl hkL ?_
               with_reducible refine (laws_toNat.calls k _ _ l0_0 t396 _ ?side1 ?side2 A19.out).mono ?_
               (case side1 => exact hkC ((Kd.C_below HR0_0.out HB.out)))
               (case side2 => exact HC0_0.out)
               rintro e w36 ⟨v397, rfl, ho0, hb⟩
               refine ⟨_, rfl, ?_⟩
               have n_ := hkA (Aside0.mk (Kd.R_lower ho0 (below_size (hkS HB)))) (hkA (hkBb BK392 hb) (hkA (hkBb BK393 hb) (hkA (hkBb BK409 hb) (hkU HB hb))))
               clear BK392 BK393 BK409 HB
               obtain ⟨HO398, BK392, BK393, BK409, HB⟩ := n_
               (try clear hb); (try clear ho0)
               refine hK.out _ _ ⟨(blk_cell BK392.out 0).trans rfl, (blk_cell BK393.out 0).trans rfl⟩ (fun hHeld => ?_)
               clear hK K
               refine hkNo (N := some 121) ?_
               exact hkNm (hJ1_9 (_, gb409) _ ⟨hHeld, ⟨hkR HO398⟩, ⟨hkB BK392⟩, ⟨hkB BK393⟩, ⟨hkB BK409⟩, GW409, GE409, NB392_409, NB409_392, NB393_409, NB409_393, ⟨hkS HB⟩⟩)
              ·skip
               refine hkBs (N := 18) (cs := #[.slice none 0 0]) (t := 38) ?_
               intro gb410 hg w36 hbox hb
               have n_ := hkA (hkBb BK392 hb) (hkA (hkBb BK393 hb) (hkA (hkBb BK409 hb) (hkA (hkU HB hb) (hkA (Aside0.mk (hbox)) (hkA (hkG hg (hkS HB)) (hkA (hkG hg (hkS HB)) (hkA (hkN hg BK392) (hkA (hkM hg BK392) (hkA (hkN hg BK393) (hkA (hkM hg BK393) (hkA (hkN hg BK409) (hkM hg BK409))))))))))))
               clear BK392 BK393 BK409 HB
               obtain ⟨BK392, BK393, BK409, HB, BK410, GW410, GE410, NB392_410, NB410_392, NB393_410, NB410_393, NB409_410, NB410_409⟩ := n_
               clear hb hbox hg
               refine hK.out _ _ ⟨(blk_cell BK392.out 0).trans rfl, (blk_cell BK393.out 0).trans rfl⟩ (fun hHeld => ?_)
               clear hK K
               refine hkNo (N := some 18) ?_
               exact hkNm (hJ9_10 (gb409, gb410) _ ⟨hHeld, ⟨hkB BK392⟩, ⟨hkB BK393⟩, ⟨hkB BK409⟩, ⟨hkB BK410⟩, GW409, GE409, NB392_409, NB409_392, NB393_409, NB409_393, NB410_409, NB409_410, GW410, GE410, NB392_410, NB410_392, NB393_410, NB410_393, ⟨hkS HB⟩⟩)
            ·skip
             clear BK392 BK393 HB
             rintro v397 w35 h_
             try dsimp only at h_
             obtain ⟨hHeld, HO398, BK392, BK393, HB⟩ := h_
             refine hkNp ?_
             refine three_ (i := 3) (j := 9) (k := 10) (Ni := some 123) (Nj := some 17) (Nk := some 18) #[true, true, true, true, false, false, false, false, false, false, false, false, false, false] #[true, true, true, false, false, false, false, false, false, true, false, false, false, false] #[true, true, true, false, false, false, false, false, false, false, true, false, false, false] rfl rfl rfl rfl rfl rfl (three_of HT_.out (by kernel_rfl)) (by decide) (by decide) (by decide) (fun K hK => ?_) (fun K hK => ?_) (fun K hK => ?_)
             ·skip
              refine goes_ Try.func26 (by kernel_rfl) rfl #[.agg #[.slice A1_0 l1_0.length c1_0]] (by rfl) rfl rfl hkL ?_
              with_reducible refine (laws_toNat.calls k _ _ l1_0 t399 _ ?side1 ?side2 A20.out).mono ?_
              (case side1 => exact hkC ((Kd.C_below HR1_0.out HB.out)))
              (case side2 => exact HC1_0.out)
              rintro e w36 ⟨v400, rfl, ho0, hb⟩
              refine ⟨_, rfl, ?_⟩
              have n_ := hkA (Aside0.mk (Kd.R_elder' (hkR HO398) (Kd.R_base ho0) hb)) (hkA (Aside0.mk (Kd.R_lower (Kd.R_new' ho0 (Kd.R_lt (hkR HO398))) (below_size (hkS HB)))) (hkA (hkBb BK392 hb) (hkA (hkBb BK393 hb) (hkU HB hb))))
              clear HO398 BK392 BK393 HB
              obtain ⟨HO398, HO401, BK392, BK393, HB⟩ := n_
              (try clear hb); (try clear ho0)
              refine hK.out _ _ ⟨(blk_cell BK392.out 0).trans rfl, (blk_cell BK393.out 0).trans rfl⟩ (fun hHeld => ?_)
              clear hK K
              refine hkNo (N := some 123) ?_
              exact hkNm (hJ1_3 (_, _) _ ⟨hHeld, ⟨by (with_reducible repeat (first | apply Kd.R_alloc | apply Kd.R_drewN | apply Kd.R_drew)); exact Kd.R_mono HO398.out (fun _ hk => hk.2)⟩, ⟨by (with_reducible repeat (first | apply Kd.R_alloc | apply Kd.R_drewN | apply Kd.R_drew)); exact Kd.R_mono HO401.out (fun _ hk => hk.2)⟩, ⟨hkB BK392⟩, ⟨hkB BK393⟩, ⟨hkS HB⟩⟩)
             ·skip
              refine hkBs (N := 17) (cs := #[.slice none 0 0]) (t := 38) ?_
              intro gb409 hg w36 hbox hb
              have n_ := hkA (hkRb HO398 hb) (hkA (hkBb BK392 hb) (hkA (hkBb BK393 hb) (hkA (hkU HB hb) (hkA (Aside0.mk (hbox)) (hkA (hkG hg (hkS HB)) (hkA (hkG hg (hkS HB)) (hkA (hkN hg BK392) (hkA (hkM hg BK392) (hkA (hkN hg BK393) (hkM hg BK393))))))))))
              clear HO398 BK392 BK393 HB
              obtain ⟨HO398, BK392, BK393, HB, BK409, GW409, GE409, NB392_409, NB409_392, NB393_409, NB409_393⟩ := n_
              clear hb hbox hg
              refine hK.out _ _ ⟨(blk_cell BK392.out 0).trans rfl, (blk_cell BK393.out 0).trans rfl⟩ (fun hHeld => ?_)
              clear hK K
              refine hkNo (N := some 17) ?_
              exact hkNm (hJ1_9 (_, gb409) _ ⟨hHeld, ⟨hkR HO398⟩, ⟨hkB BK392⟩, ⟨hkB BK393⟩, ⟨hkB BK409⟩, GW409, GE409, NB392_409, NB409_392, NB393_409, NB409_393, ⟨hkS HB⟩⟩)
             ·skip
              refine hkBs (N := 18) (cs := #[.slice none 0 0]) (t := 38) ?_
              intro gb410 hg w36 hbox hb
              have n_ := hkA (hkRb HO398 hb) (hkA (hkBb BK392 hb) (hkA (hkBb BK393 hb) (hkA (hkU HB hb) (hkA (Aside0.mk (hbox)) (hkA (hkG hg (hkS HB)) (hkA (hkG hg (hkS HB)) (hkA (hkN hg BK392) (hkA (hkM hg BK392) (hkA (hkN hg BK393) (hkM hg BK393))))))))))
              clear HO398 BK392 BK393 HB
              obtain ⟨HO398, BK392, BK393, HB, BK410, GW410, GE410, NB392_410, NB410_392, NB393_410, NB410_393⟩ := n_
              clear hb hbox hg
              refine hK.out _ _ ⟨(blk_cell BK392.out 0).trans rfl, (blk_cell BK393.out 0).trans rfl⟩ (fun hHeld => ?_)
              clear hK K
              refine hkNo (N := some 18) ?_
              exact hkNm (hJ1_10 (_, gb410) _ ⟨hHeld, ⟨hkR HO398⟩, ⟨hkB BK392⟩, ⟨hkB BK393⟩, ⟨hkB BK410⟩, GW410, GE410, NB392_410, NB410_392, NB393_410, NB410_393, ⟨hkS HB⟩⟩)
           ·skip
            clear BK392 BK393 HB
            rintro ⟨gb409, gb410⟩ w36 h_
            try dsimp only at h_
            obtain ⟨hHeld, BK392, BK393, BK409, BK410, GW409, GE409, NB392_409, NB409_392, NB393_409, NB409_393, NB410_409, NB409_410, GW410, GE410, NB392_410, NB410_392, NB393_410, NB410_393, HB⟩ := h_
            refine hkNp ?_
            refine one_ (i := 1) (N := some 121) #[true, true, true, false, false, false, false, false, false, true, true, false, false, false] rfl rfl (one_of HT_.out (by kernel_rfl)) (by decide) (fun K hK => ?_)
            refine goes_ Try.func26 (by kernel_rfl) rfl #[.agg #[.slice A0_0 l0_0.length c0_0]] (by rfl) rfl rfl hkL ?_
            with_reducible refine (laws_toNat.calls k _ _ l0_0 t396 _ ?side1 ?side2 A19.out).mono ?_
            (case side1 => exact hkC ((Kd.C_below HR0_0.out HB.out)))
            (case side2 => exact HC0_0.out)
            rintro e w37 ⟨v397, rfl, ho0, hb⟩
            refine ⟨_, rfl, ?_⟩
            have n_ := hkA (Aside0.mk (Kd.R_lower ho0 (below_size (hkS HB)))) (hkA (hkBb BK392 hb) (hkA (hkBb BK393 hb) (hkA (hkBb BK409 hb) (hkA (hkBb BK410 hb) (hkU HB hb)))))
            clear BK392 BK393 BK409 BK410 HB
            obtain ⟨HO398, BK392, BK393, BK409, BK410, HB⟩ := n_
            (try clear hb); (try clear ho0)
            refine hK.out _ _ ⟨(blk_cell BK392.out 0).trans rfl, (blk_cell BK393.out 0).trans rfl⟩ (fun hHeld => ?_)
            clear hK K
            refine hkNo (N := some 121) ?_
            exact hkNm (hJ1_9_10 (_, gb409, gb410) _ ⟨hHeld, ⟨hkR HO398⟩, ⟨hkB BK392⟩, ⟨hkB BK393⟩, ⟨hkB BK409⟩, ⟨hkB BK410⟩, GW409, GE409, NB392_409, NB409_392, NB393_409, NB409_393, NB410_409, NB409_410, GW410, GE410, NB392_410, NB410_392, NB393_410, NB410_393, ⟨hkS HB⟩⟩)
          ·skip
           clear BK392 BK393 HB
           rintro ⟨v397, gb410⟩ w36 h_
           try dsimp only at h_
           obtain ⟨hHeld, HO398, BK392, BK393, BK410, GW410, GE410, NB392_410, NB410_392, NB393_410, NB410_393, HB⟩ := h_
           refine hkNp ?_
           refine two_ (i := 3) (j := 9) (Ni := some 123) (Nj := some 17) #[true, true, true, true, false, false, false, false, false, false, true, false, false, false] #[true, true, true, false, false, false, false, false, false, true, true, false, false, false] rfl rfl rfl rfl (two_of HT_.out (by kernel_rfl)) (by decide) (by decide) (fun K hK => ?_) (fun K hK => ?_)
           ·skip
            refine goes_ Try.func26 (by kernel_rfl) rfl #[.agg #[.slice A1_0 l1_0.length c1_0]] (by rfl) rfl rfl hkL ?_
            with_reducible refine (laws_toNat.calls k _ _ l1_0 t399 _ ?side1 ?side2 A20.out).mono ?_
            (case side1 => exact hkC ((Kd.C_below HR1_0.out HB.out)))
            (case side2 => exact HC1_0.out)
            rintro e w37 ⟨v400, rfl, ho0, hb⟩
            refine ⟨_, rfl, ?_⟩
            have n_ := hkA (Aside0.mk (Kd.R_elder' (hkR HO398) (Kd.R_base ho0) hb)) (hkA (Aside0.mk (Kd.R_lower (Kd.R_new' ho0 (Kd.R_lt (hkR HO398))) (below_size (hkS HB)))) (hkA (hkBb BK392 hb) (hkA (hkBb BK393 hb) (hkA (hkBb BK410 hb) (hkU HB hb)))))
            clear HO398 BK392 BK393 BK410 HB
            obtain ⟨HO398, HO401, BK392, BK393, BK410, HB⟩ := n_
            (try clear hb); (try clear ho0)
            refine hK.out _ _ ⟨(blk_cell BK392.out 0).trans rfl, (blk_cell BK393.out 0).trans rfl⟩ (fun hHeld => ?_)
            clear hK K
            refine hkNo (N := some 123) ?_
            exact hkNm (hJ1_3_10 (_, _, gb410) _ ⟨hHeld, ⟨by (with_reducible repeat (first | apply Kd.R_alloc | apply Kd.R_drewN | apply Kd.R_drew)); exact Kd.R_mono HO398.out (fun _ hk => hk.2)⟩, ⟨by (with_reducible repeat (first | apply Kd.R_alloc | apply Kd.R_drewN | apply Kd.R_drew)); exact Kd.R_mono HO401.out (fun _ hk => hk.2)⟩, ⟨hkB BK392⟩, ⟨hkB BK393⟩, ⟨hkB BK410⟩, GW410, GE410, NB392_410, NB410_392, NB393_410, NB410_393, ⟨hkS HB⟩⟩)
           ·skip
            refine hkBs (N := 17) (cs := #[.slice none 0 0]) (t := 38) ?_
            intro gb409 hg w37 hbox hb
            have n_ := hkA (hkRb HO398 hb) (hkA (hkBb BK392 hb) (hkA (hkBb BK393 hb) (hkA (hkBb BK410 hb) (hkA (hkU HB hb) (hkA (Aside0.mk (hbox)) (hkA (hkG hg (hkS HB)) (hkA (hkG hg (hkS HB)) (hkA (hkN hg BK392) (hkA (hkM hg BK392) (hkA (hkN hg BK393) (hkA (hkM hg BK393) (hkA (hkN hg BK410) (hkM hg BK410)))))))))))))
            clear HO398 BK392 BK393 BK410 HB
            obtain ⟨HO398, BK392, BK393, BK410, HB, BK409, GW409, GE409, NB392_409, NB409_392, NB393_409, NB409_393, NB410_409, NB409_410⟩ := n_
            clear hb hbox hg
            refine hK.out _ _ ⟨(blk_cell BK392.out 0).trans rfl, (blk_cell BK393.out 0).trans rfl⟩ (fun hHeld => ?_)
            clear hK K
            refine hkNo (N := some 17) ?_
            exact hkNm (hJ1_9_10 (_, gb409, gb410) _ ⟨hHeld, ⟨hkR HO398⟩, ⟨hkB BK392⟩, ⟨hkB BK393⟩, ⟨hkB BK409⟩, ⟨hkB BK410⟩, GW409, GE409, NB392_409, NB409_392, NB393_409, NB409_393, NB410_409, NB409_410, GW410, GE410, NB392_410, NB410_392, NB393_410, NB410_393, ⟨hkS HB⟩⟩)
         ·skip
          clear BK392 BK393 HB
          rintro ⟨v397, gb409⟩ w36 h_
          try dsimp only at h_
          obtain ⟨hHeld, HO398, BK392, BK393, BK409, GW409, GE409, NB392_409, NB409_392, NB393_409, NB409_393, HB⟩ := h_
          refine hkNp ?_
          refine two_ (i := 3) (j := 10) (Ni := some 123) (Nj := some 18) #[true, true, true, true, false, false, false, false, false, true, false, false, false, false] #[true, true, true, false, false, false, false, false, false, true, true, false, false, false] rfl rfl rfl rfl (two_of HT_.out (by kernel_rfl)) (by decide) (by decide) (fun K hK => ?_) (fun K hK => ?_)
          ·skip
           refine goes_ Try.func26 (by kernel_rfl) rfl #[.agg #[.slice A1_0 l1_0.length c1_0]] (by rfl) rfl rfl hkL ?_
           with_reducible refine (laws_toNat.calls k _ _ l1_0 t399 _ ?side1 ?side2 A20.out).mono ?_
           (case side1 => exact hkC ((Kd.C_below HR1_0.out HB.out)))
           (case side2 => exact HC1_0.out)
           rintro e w37 ⟨v400, rfl, ho0, hb⟩
           refine ⟨_, rfl, ?_⟩
           have n_ := hkA (Aside0.mk (Kd.R_elder' (hkR HO398) (Kd.R_base ho0) hb)) (hkA (Aside0.mk (Kd.R_lower (Kd.R_new' ho0 (Kd.R_lt (hkR HO398))) (below_size (hkS HB)))) (hkA (hkBb BK392 hb) (hkA (hkBb BK393 hb) (hkA (hkBb BK409 hb) (hkU HB hb)))))
           clear HO398 BK392 BK393 BK409 HB
           obtain ⟨HO398, HO401, BK392, BK393, BK409, HB⟩ := n_
           (try clear hb); (try clear ho0)
           refine hK.out _ _ ⟨(blk_cell BK392.out 0).trans rfl, (blk_cell BK393.out 0).trans rfl⟩ (fun hHeld => ?_)
           clear hK K
           refine hkNo (N := some 123) ?_
           exact hkNm (hJ1_3_9 (_, _, gb409) _ ⟨hHeld, ⟨by (with_reducible repeat (first | apply Kd.R_alloc | apply Kd.R_drewN | apply Kd.R_drew)); exact Kd.R_mono HO398.out (fun _ hk => hk.2)⟩, ⟨by (with_reducible repeat (first | apply Kd.R_alloc | apply Kd.R_drewN | apply Kd.R_drew)); exact Kd.R_mono HO401.out (fun _ hk => hk.2)⟩, ⟨hkB BK392⟩, ⟨hkB BK393⟩, ⟨hkB BK409⟩, GW409, GE409, NB392_409, NB409_392, NB393_409, NB409_393, ⟨hkS HB⟩⟩)
          ·skip
           refine hkBs (N := 18) (cs := #[.slice none 0 0]) (t := 38) ?_
           intro gb410 hg w37 hbox hb
           have n_ := hkA (hkRb HO398 hb) (hkA (hkBb BK392 hb) (hkA (hkBb BK393 hb) (hkA (hkBb BK409 hb) (hkA (hkU HB hb) (hkA (Aside0.mk (hbox)) (hkA (hkG hg (hkS HB)) (hkA (hkG hg (hkS HB)) (hkA (hkN hg BK392) (hkA (hkM hg BK392) (hkA (hkN hg BK393) (hkA (hkM hg BK393) (hkA (hkN hg BK409) (hkM hg BK409)))))))))))))
           clear HO398 BK392 BK393 BK409 HB
           obtain ⟨HO398, BK392, BK393, BK409, HB, BK410, GW410, GE410, NB392_410, NB410_392, NB393_410, NB410_393, NB409_410, NB410_409⟩ := n_
           clear hb hbox hg
           refine hK.out _ _ ⟨(blk_cell BK392.out 0).trans rfl, (blk_cell BK393.out 0).trans rfl⟩ (fun hHeld => ?_)
           clear hK K
           refine hkNo (N := some 18) ?_
           exact hkNm (hJ1_9_10 (_, gb409, gb410) _ ⟨hHeld, ⟨hkR HO398⟩, ⟨hkB BK392⟩, ⟨hkB BK393⟩, ⟨hkB BK409⟩, ⟨hkB BK410⟩, GW409, GE409, NB392_409, NB409_392, NB393_409, NB409_393, NB410_409, NB409_410, GW410, GE410, NB392_410, NB410_392, NB393_410, NB410_393, ⟨hkS HB⟩⟩)
        ·skip
         clear BK392 BK393 HB
         rintro ⟨v397, v400⟩ w36 h_
         try dsimp only at h_
         obtain ⟨hHeld, HO398, HO401, BK392, BK393, HB⟩ := h_
         obtain ⟨Ao37, co37, eo37⟩ := Kd.R_slice HO398.out
         (first | subst eo37 | (injection eo37 with f1_ f2_ f3_; have f4_ := f1_.symm; have f5_ := f3_.symm; clear f1_ f2_ f3_; subst f4_; subst f5_))
         obtain ⟨Ao38, co38, eo38⟩ := Kd.R_slice HO401.out
         (first | subst eo38 | (injection eo38 with f1_ f2_ f3_; have f4_ := f1_.symm; have f5_ := f3_.symm; clear f1_ f2_ f3_; subst f4_; subst f5_))
         refine hkNp ?_
         refine three_ (i := 4) (j := 9) (k := 10) (Ni := some 124) (Nj := some 17) (Nk := some 18) #[true, true, true, true, true, false, false, false, false, false, false, false, false, false] #[true, true, true, true, false, false, false, false, false, true, false, false, false, false] #[true, true, true, true, false, false, false, false, false, false, true, false, false, false] rfl rfl rfl rfl rfl rfl (three_of HT_.out (by kernel_rfl)) (by decide) (by decide) (by decide) (fun K hK => ?_) (fun K hK => ?_) (fun K hK => ?_)
         ·skip
          refine goes_ Try.func23 (by kernel_rfl) rfl #[.agg #[.slice Ao37 t396.length co37], .agg #[.slice Ao38 t399.length co38]] (by rfl) rfl rfl hkL ?_
          with_reducible refine (impl_NatDiv.calls k _ _ t396 _ _ t399 t402 t405 t408 _ ?side1 ?side2 ?side3 ?side4 A21.out).mono ?_
          (case side1 => exact hkC ((Kd.R_reads' HO398.out).2.2))
          (case side2 => exact (Kd.R_reads' HO398.out).2.1)
          (case side3 => exact hkC ((Kd.R_reads' HO401.out).2.2))
          (case side4 => exact (Kd.R_reads' HO401.out).2.1)
          rintro e w39 ⟨v403, v406, rfl, ho0, ho1, hb⟩
          refine ⟨_, rfl, ?_⟩
          have n_ := hkA (Aside0.mk (Kd.R_mono (Kd.R_told (Kd.R_told (Kd.R_old (hkR HO398) hb) (Kd.R_base ho0)) (Kd.R_base ho1)) (fun _ h_ => h_.1))) (hkA (Aside0.mk (Kd.R_mono (Kd.R_told (Kd.R_told (Kd.R_old (hkR HO401) hb) (Kd.R_base ho0)) (Kd.R_base ho1)) (fun _ h_ => h_.1))) (hkA (Aside0.mk (Kd.R_lower (Kd.R_new' (Kd.R_new' ho0 (Kd.R_lt (hkR HO398))) (Kd.R_lt (hkR HO401))) (below_size (hkS HB)))) (hkA (Aside0.mk (Kd.R_lower (Kd.R_new' (Kd.R_new' ho1 (Kd.R_lt (hkR HO398))) (Kd.R_lt (hkR HO401))) (below_size (hkS HB)))) (hkA (hkBb BK392 hb) (hkA (hkBb BK393 hb) (hkU HB hb))))))
          clear HO398 HO401 BK392 BK393 HB
          obtain ⟨HO398, HO401, HO404, HO407, BK392, BK393, HB⟩ := n_
          (try clear hb); (try clear ho0); (try clear ho1)
          refine hK.out _ _ ⟨(blk_cell BK392.out 0).trans rfl, (blk_cell BK393.out 0).trans rfl⟩ (fun hHeld => ?_)
          clear hK K
          refine hkNo (N := some 124) ?_
          refine hkPt (i := 5) (N := some 119) HT_ ?_ (hQ := fun c a w => hQ c a _ _ w)
          refine hkPt (i := 6) (N := some 125) HT_ ?_ (hQ := fun c a w => hQ c a _ _ w)
          refine hkPt (i := 7) (N := some 126) HT_ ?_ (hQ := fun c a w => hQ c a _ _ w)
          refine hkPt (i := 8) (N := some 127) HT_ ?_ (hQ := fun c a w => hQ c a _ _ w)
          exact hkNm (hJ1_3_4 (.slice Ao37 t396.length co37, .slice Ao38 t399.length co38, _, _) _ ⟨hHeld, ⟨by (with_reducible repeat (first | apply Kd.R_alloc | apply Kd.R_drewN | apply Kd.R_drew)); exact Kd.R_mono HO398.out (fun _ hk => ⟨hk.1.1, ⟨hk.1.2, hk.2⟩⟩)⟩, ⟨by (with_reducible repeat (first | apply Kd.R_alloc | apply Kd.R_drewN | apply Kd.R_drew)); exact Kd.R_mono HO401.out (fun _ hk => ⟨hk.1.1, ⟨hk.1.2, hk.2⟩⟩)⟩, ⟨by (with_reducible repeat (first | apply Kd.R_alloc | apply Kd.R_drewN | apply Kd.R_drew)); exact Kd.R_mono HO404.out (fun _ hk => ⟨hk.1.2, ⟨hk.2, hk.1.1⟩⟩)⟩, ⟨by (with_reducible repeat (first | apply Kd.R_alloc | apply Kd.R_drewN | apply Kd.R_drew)); exact Kd.R_mono HO407.out (fun _ hk => ⟨hk.1.2, ⟨hk.2, hk.1.1⟩⟩)⟩, ⟨hkB BK392⟩, ⟨hkB BK393⟩, ⟨hkS HB⟩⟩)
         ·skip
          refine hkBs (N := 17) (cs := #[.slice none 0 0]) (t := 38) ?_
          intro gb409 hg w37 hbox hb
          have n_ := hkA (hkRb HO398 hb) (hkA (hkRb HO401 hb) (hkA (hkBb BK392 hb) (hkA (hkBb BK393 hb) (hkA (hkU HB hb) (hkA (Aside0.mk (hbox)) (hkA (hkG hg (hkS HB)) (hkA (hkG hg (hkS HB)) (hkA (hkN hg BK392) (hkA (hkM hg BK392) (hkA (hkN hg BK393) (hkM hg BK393)))))))))))
          clear HO398 HO401 BK392 BK393 HB
          obtain ⟨HO398, HO401, BK392, BK393, HB, BK409, GW409, GE409, NB392_409, NB409_392, NB393_409, NB409_393⟩ := n_
          clear hb hbox hg
          refine hK.out _ _ ⟨(blk_cell BK392.out 0).trans rfl, (blk_cell BK393.out 0).trans rfl⟩ (fun hHeld => ?_)
          clear hK K
          refine hkNo (N := some 17) ?_
          exact hkNm (hJ1_3_9 (_, _, gb409) _ ⟨hHeld, ⟨hkR HO398⟩, ⟨hkR HO401⟩, ⟨hkB BK392⟩, ⟨hkB BK393⟩, ⟨hkB BK409⟩, GW409, GE409, NB392_409, NB409_392, NB393_409, NB409_393, ⟨hkS HB⟩⟩)
         ·skip
          refine hkBs (N := 18) (cs := #[.slice none 0 0]) (t := 38) ?_
          intro gb410 hg w37 hbox hb
          have n_ := hkA (hkRb HO398 hb) (hkA (hkRb HO401 hb) (hkA (hkBb BK392 hb) (hkA (hkBb BK393 hb) (hkA (hkU HB hb) (hkA (Aside0.mk (hbox)) (hkA (hkG hg (hkS HB)) (hkA (hkG hg (hkS HB)) (hkA (hkN hg BK392) (hkA (hkM hg BK392) (hkA (hkN hg BK393) (hkM hg BK393)))))))))))
          clear HO398 HO401 BK392 BK393 HB
          obtain ⟨HO398, HO401, BK392, BK393, HB, BK410, GW410, GE410, NB392_410, NB410_392, NB393_410, NB410_393⟩ := n_
          clear hb hbox hg
          refine hK.out _ _ ⟨(blk_cell BK392.out 0).trans rfl, (blk_cell BK393.out 0).trans rfl⟩ (fun hHeld => ?_)
          clear hK K
          refine hkNo (N := some 18) ?_
          exact hkNm (hJ1_3_10 (_, _, gb410) _ ⟨hHeld, ⟨hkR HO398⟩, ⟨hkR HO401⟩, ⟨hkB BK392⟩, ⟨hkB BK393⟩, ⟨hkB BK410⟩, GW410, GE410, NB392_410, NB410_392, NB393_410, NB410_393, ⟨hkS HB⟩⟩)
       ·skip
        clear BK392 BK393 HB
        rintro ⟨v397, gb409, gb410⟩ w37 h_
        try dsimp only at h_
        obtain ⟨hHeld, HO398, BK392, BK393, BK409, BK410, GW409, GE409, NB392_409, NB409_392, NB393_409, NB409_393, NB410_409, NB409_410, GW410, GE410, NB392_410, NB410_392, NB393_410, NB410_393, HB⟩ := h_
        refine hkNp ?_
        refine one_ (i := 3) (N := some 123) #[true, true, true, true, false, false, false, false, false, true, true, false, false, false] rfl rfl (one_of HT_.out (by kernel_rfl)) (by decide) (fun K hK => ?_)
        refine goes_ Try.func26 (by kernel_rfl) rfl #[.agg #[.slice A1_0 l1_0.length c1_0]] (by rfl) rfl rfl hkL ?_
        with_reducible refine (laws_toNat.calls k _ _ l1_0 t399 _ ?side1 ?side2 A20.out).mono ?_
        (case side1 => exact hkC ((Kd.C_below HR1_0.out HB.out)))
        (case side2 => exact HC1_0.out)
        rintro e w38 ⟨v400, rfl, ho0, hb⟩
        refine ⟨_, rfl, ?_⟩
        have n_ := hkA (Aside0.mk (Kd.R_elder' (hkR HO398) (Kd.R_base ho0) hb)) (hkA (Aside0.mk (Kd.R_lower (Kd.R_new' ho0 (Kd.R_lt (hkR HO398))) (below_size (hkS HB)))) (hkA (hkBb BK392 hb) (hkA (hkBb BK393 hb) (hkA (hkBb BK409 hb) (hkA (hkBb BK410 hb) (hkU HB hb))))))
        clear HO398 BK392 BK393 BK409 BK410 HB
        obtain ⟨HO398, HO401, BK392, BK393, BK409, BK410, HB⟩ := n_
        (try clear hb); (try clear ho0)
        refine hK.out _ _ ⟨(blk_cell BK392.out 0).trans rfl, (blk_cell BK393.out 0).trans rfl⟩ (fun hHeld => ?_)
        clear hK K
        refine hkNo (N := some 123) ?_
        exact hkNm (hJ1_3_9_10 (_, _, gb409, gb410) _ ⟨hHeld, ⟨by (with_reducible repeat (first | apply Kd.R_alloc | apply Kd.R_drewN | apply Kd.R_drew)); exact Kd.R_mono HO398.out (fun _ hk => hk.2)⟩, ⟨by (with_reducible repeat (first | apply Kd.R_alloc | apply Kd.R_drewN | apply Kd.R_drew)); exact Kd.R_mono HO401.out (fun _ hk => hk.2)⟩, ⟨hkB BK392⟩, ⟨hkB BK393⟩, ⟨hkB BK409⟩, ⟨hkB BK410⟩, GW409, GE409, NB392_409, NB409_392, NB393_409, NB409_393, NB410_409, NB409_410, GW410, GE410, NB392_410, NB410_392, NB393_410, NB410_393, ⟨hkS HB⟩⟩)
      ·skip
       clear BK392 BK393 HB
       rintro ⟨v397, v400, gb410⟩ w37 h_
       try dsimp only at h_
       obtain ⟨hHeld, HO398, HO401, BK392, BK393, BK410, GW410, GE410, NB392_410, NB410_392, NB393_410, NB410_393, HB⟩ := h_
       obtain ⟨Ao38, co38, eo38⟩ := Kd.R_slice HO398.out
       (first | subst eo38 | (injection eo38 with f1_ f2_ f3_; have f4_ := f1_.symm; have f5_ := f3_.symm; clear f1_ f2_ f3_; subst f4_; subst f5_))
       obtain ⟨Ao39, co39, eo39⟩ := Kd.R_slice HO401.out
       (first | subst eo39 | (injection eo39 with f1_ f2_ f3_; have f4_ := f1_.symm; have f5_ := f3_.symm; clear f1_ f2_ f3_; subst f4_; subst f5_))
       refine hkNp ?_
       refine two_ (i := 4) (j := 9) (Ni := some 124) (Nj := some 17) #[true, true, true, true, true, false, false, false, false, false, true, false, false, false] #[true, true, true, true, false, false, false, false, false, true, true, false, false, false] rfl rfl rfl rfl (two_of HT_.out (by kernel_rfl)) (by decide) (by decide) (fun K hK => ?_) (fun K hK => ?_)
       ·skip
        refine goes_ Try.func23 (by kernel_rfl) rfl #[.agg #[.slice Ao38 t396.length co38], .agg #[.slice Ao39 t399.length co39]] (by rfl) rfl rfl hkL ?_
        with_reducible refine (impl_NatDiv.calls k _ _ t396 _ _ t399 t402 t405 t408 _ ?side1 ?side2 ?side3 ?side4 A21.out).mono ?_
        (case side1 => exact hkC ((Kd.R_reads' HO398.out).2.2))
        (case side2 => exact (Kd.R_reads' HO398.out).2.1)
        (case side3 => exact hkC ((Kd.R_reads' HO401.out).2.2))
        (case side4 => exact (Kd.R_reads' HO401.out).2.1)
        rintro e w40 ⟨v403, v406, rfl, ho0, ho1, hb⟩
        refine ⟨_, rfl, ?_⟩
        have n_ := hkA (Aside0.mk (Kd.R_mono (Kd.R_told (Kd.R_told (Kd.R_old (hkR HO398) hb) (Kd.R_base ho0)) (Kd.R_base ho1)) (fun _ h_ => h_.1))) (hkA (Aside0.mk (Kd.R_mono (Kd.R_told (Kd.R_told (Kd.R_old (hkR HO401) hb) (Kd.R_base ho0)) (Kd.R_base ho1)) (fun _ h_ => h_.1))) (hkA (Aside0.mk (Kd.R_lower (Kd.R_new' (Kd.R_new' ho0 (Kd.R_lt (hkR HO398))) (Kd.R_lt (hkR HO401))) (below_size (hkS HB)))) (hkA (Aside0.mk (Kd.R_lower (Kd.R_new' (Kd.R_new' ho1 (Kd.R_lt (hkR HO398))) (Kd.R_lt (hkR HO401))) (below_size (hkS HB)))) (hkA (hkBb BK392 hb) (hkA (hkBb BK393 hb) (hkA (hkBb BK410 hb) (hkU HB hb)))))))
        clear HO398 HO401 BK392 BK393 BK410 HB
        obtain ⟨HO398, HO401, HO404, HO407, BK392, BK393, BK410, HB⟩ := n_
        (try clear hb); (try clear ho0); (try clear ho1)
        refine hK.out _ _ ⟨(blk_cell BK392.out 0).trans rfl, (blk_cell BK393.out 0).trans rfl⟩ (fun hHeld => ?_)
        clear hK K
        refine hkNo (N := some 124) ?_
        refine hkPt (i := 5) (N := some 119) HT_ ?_ (hQ := fun c a w => hQ c a _ _ w)
        refine hkPt (i := 6) (N := some 125) HT_ ?_ (hQ := fun c a w => hQ c a _ _ w)
        refine hkPt (i := 7) (N := some 126) HT_ ?_ (hQ := fun c a w => hQ c a _ _ w)
        refine hkPt (i := 8) (N := some 127) HT_ ?_ (hQ := fun c a w => hQ c a _ _ w)
        exact hkNm (hJ1_3_4_10 (.slice Ao38 t396.length co38, .slice Ao39 t399.length co39, _, _, gb410) _ ⟨hHeld, ⟨by (with_reducible repeat (first | apply Kd.R_alloc | apply Kd.R_drewN | apply Kd.R_drew)); exact Kd.R_mono HO398.out (fun _ hk => ⟨hk.1.1, ⟨hk.1.2, hk.2⟩⟩)⟩, ⟨by (with_reducible repeat (first | apply Kd.R_alloc | apply Kd.R_drewN | apply Kd.R_drew)); exact Kd.R_mono HO401.out (fun _ hk => ⟨hk.1.1, ⟨hk.1.2, hk.2⟩⟩)⟩, ⟨by (with_reducible repeat (first | apply Kd.R_alloc | apply Kd.R_drewN | apply Kd.R_drew)); exact Kd.R_mono HO404.out (fun _ hk => ⟨hk.1.2, ⟨hk.2, hk.1.1⟩⟩)⟩, ⟨by (with_reducible repeat (first | apply Kd.R_alloc | apply Kd.R_drewN | apply Kd.R_drew)); exact Kd.R_mono HO407.out (fun _ hk => ⟨hk.1.2, ⟨hk.2, hk.1.1⟩⟩)⟩, ⟨hkB BK392⟩, ⟨hkB BK393⟩, ⟨hkB BK410⟩, GW410, GE410, NB392_410, NB410_392, NB393_410, NB410_393, ⟨hkS HB⟩⟩)
       ·skip
        refine hkBs (N := 17) (cs := #[.slice none 0 0]) (t := 38) ?_
        intro gb409 hg w38 hbox hb
        have n_ := hkA (hkRb HO398 hb) (hkA (hkRb HO401 hb) (hkA (hkBb BK392 hb) (hkA (hkBb BK393 hb) (hkA (hkBb BK410 hb) (hkA (hkU HB hb) (hkA (Aside0.mk (hbox)) (hkA (hkG hg (hkS HB)) (hkA (hkG hg (hkS HB)) (hkA (hkN hg BK392) (hkA (hkM hg BK392) (hkA (hkN hg BK393) (hkA (hkM hg BK393) (hkA (hkN hg BK410) (hkM hg BK410))))))))))))))
        clear HO398 HO401 BK392 BK393 BK410 HB
        obtain ⟨HO398, HO401, BK392, BK393, BK410, HB, BK409, GW409, GE409, NB392_409, NB409_392, NB393_409, NB409_393, NB410_409, NB409_410⟩ := n_
        clear hb hbox hg
        refine hK.out _ _ ⟨(blk_cell BK392.out 0).trans rfl, (blk_cell BK393.out 0).trans rfl⟩ (fun hHeld => ?_)
        clear hK K
        refine hkNo (N := some 17) ?_
        exact hkNm (hJ1_3_9_10 (_, _, gb409, gb410) _ ⟨hHeld, ⟨hkR HO398⟩, ⟨hkR HO401⟩, ⟨hkB BK392⟩, ⟨hkB BK393⟩, ⟨hkB BK409⟩, ⟨hkB BK410⟩, GW409, GE409, NB392_409, NB409_392, NB393_409, NB409_393, NB410_409, NB409_410, GW410, GE410, NB392_410, NB410_392, NB393_410, NB410_393, ⟨hkS HB⟩⟩)
     ·skip
      clear BK392 BK393 HB
      rintro ⟨v397, v400, gb409⟩ w37 h_
      try dsimp only at h_
      obtain ⟨hHeld, HO398, HO401, BK392, BK393, BK409, GW409, GE409, NB392_409, NB409_392, NB393_409, NB409_393, HB⟩ := h_
      obtain ⟨Ao38, co38, eo38⟩ := Kd.R_slice HO398.out
      (first | subst eo38 | (injection eo38 with f1_ f2_ f3_; have f4_ := f1_.symm; have f5_ := f3_.symm; clear f1_ f2_ f3_; subst f4_; subst f5_))
      obtain ⟨Ao39, co39, eo39⟩ := Kd.R_slice HO401.out
      (first | subst eo39 | (injection eo39 with f1_ f2_ f3_; have f4_ := f1_.symm; have f5_ := f3_.symm; clear f1_ f2_ f3_; subst f4_; subst f5_))
      refine hkNp ?_
      refine two_ (i := 4) (j := 10) (Ni := some 124) (Nj := some 18) #[true, true, true, true, true, false, false, false, false, true, false, false, false, false] #[true, true, true, true, false, false, false, false, false, true, true, false, false, false] rfl rfl rfl rfl (two_of HT_.out (by kernel_rfl)) (by decide) (by decide) (fun K hK => ?_) (fun K hK => ?_)
      ·skip
       refine goes_ Try.func23 (by kernel_rfl) rfl #[.agg #[.slice Ao38 t396.length co38], .agg #[.slice Ao39 t399.length co39]] (by rfl) rfl rfl hkL ?_
       with_reducible refine (impl_NatDiv.calls k _ _ t396 _ _ t399 t402 t405 t408 _ ?side1 ?side2 ?side3 ?side4 A21.out).mono ?_
       (case side1 => exact hkC ((Kd.R_reads' HO398.out).2.2))
       (case side2 => exact (Kd.R_reads' HO398.out).2.1)
       (case side3 => exact hkC ((Kd.R_reads' HO401.out).2.2))
       (case side4 => exact (Kd.R_reads' HO401.out).2.1)
       rintro e w40 ⟨v403, v406, rfl, ho0, ho1, hb⟩
       refine ⟨_, rfl, ?_⟩
       have n_ := hkA (Aside0.mk (Kd.R_mono (Kd.R_told (Kd.R_told (Kd.R_old (hkR HO398) hb) (Kd.R_base ho0)) (Kd.R_base ho1)) (fun _ h_ => h_.1))) (hkA (Aside0.mk (Kd.R_mono (Kd.R_told (Kd.R_told (Kd.R_old (hkR HO401) hb) (Kd.R_base ho0)) (Kd.R_base ho1)) (fun _ h_ => h_.1))) (hkA (Aside0.mk (Kd.R_lower (Kd.R_new' (Kd.R_new' ho0 (Kd.R_lt (hkR HO398))) (Kd.R_lt (hkR HO401))) (below_size (hkS HB)))) (hkA (Aside0.mk (Kd.R_lower (Kd.R_new' (Kd.R_new' ho1 (Kd.R_lt (hkR HO398))) (Kd.R_lt (hkR HO401))) (below_size (hkS HB)))) (hkA (hkBb BK392 hb) (hkA (hkBb BK393 hb) (hkA (hkBb BK409 hb) (hkU HB hb)))))))
       clear HO398 HO401 BK392 BK393 BK409 HB
       obtain ⟨HO398, HO401, HO404, HO407, BK392, BK393, BK409, HB⟩ := n_
       (try clear hb); (try clear ho0); (try clear ho1)
       refine hK.out _ _ ⟨(blk_cell BK392.out 0).trans rfl, (blk_cell BK393.out 0).trans rfl⟩ (fun hHeld => ?_)
       clear hK K
       refine hkNo (N := some 124) ?_
       refine hkPt (i := 5) (N := some 119) HT_ ?_ (hQ := fun c a w => hQ c a _ _ w)
       refine hkPt (i := 6) (N := some 125) HT_ ?_ (hQ := fun c a w => hQ c a _ _ w)
       refine hkPt (i := 7) (N := some 126) HT_ ?_ (hQ := fun c a w => hQ c a _ _ w)
       refine hkPt (i := 8) (N := some 127) HT_ ?_ (hQ := fun c a w => hQ c a _ _ w)
       exact hkNm (hJ1_3_4_9 (.slice Ao38 t396.length co38, .slice Ao39 t399.length co39, _, _, gb409) _ ⟨hHeld, ⟨by (with_reducible repeat (first | apply Kd.R_alloc | apply Kd.R_drewN | apply Kd.R_drew)); exact Kd.R_mono HO398.out (fun _ hk => ⟨hk.1.1, ⟨hk.1.2, hk.2⟩⟩)⟩, ⟨by (with_reducible repeat (first | apply Kd.R_alloc | apply Kd.R_drewN | apply Kd.R_drew)); exact Kd.R_mono HO401.out (fun _ hk => ⟨hk.1.1, ⟨hk.1.2, hk.2⟩⟩)⟩, ⟨by (with_reducible repeat (first | apply Kd.R_alloc | apply Kd.R_drewN | apply Kd.R_drew)); exact Kd.R_mono HO404.out (fun _ hk => ⟨hk.1.2, ⟨hk.2, hk.1.1⟩⟩)⟩, ⟨by (with_reducible repeat (first | apply Kd.R_alloc | apply Kd.R_drewN | apply Kd.R_drew)); exact Kd.R_mono HO407.out (fun _ hk => ⟨hk.1.2, ⟨hk.2, hk.1.1⟩⟩)⟩, ⟨hkB BK392⟩, ⟨hkB BK393⟩, ⟨hkB BK409⟩, GW409, GE409, NB392_409, NB409_392, NB393_409, NB409_393, ⟨hkS HB⟩⟩)
      ·skip
       refine hkBs (N := 18) (cs := #[.slice none 0 0]) (t := 38) ?_
       intro gb410 hg w38 hbox hb
       have n_ := hkA (hkRb HO398 hb) (hkA (hkRb HO401 hb) (hkA (hkBb BK392 hb) (hkA (hkBb BK393 hb) (hkA (hkBb BK409 hb) (hkA (hkU HB hb) (hkA (Aside0.mk (hbox)) (hkA (hkG hg (hkS HB)) (hkA (hkG hg (hkS HB)) (hkA (hkN hg BK392) (hkA (hkM hg BK392) (hkA (hkN hg BK393) (hkA (hkM hg BK393) (hkA (hkN hg BK409) (hkM hg BK409))))))))))))))
       clear HO398 HO401 BK392 BK393 BK409 HB
       obtain ⟨HO398, HO401, BK392, BK393, BK409, HB, BK410, GW410, GE410, NB392_410, NB410_392, NB393_410, NB410_393, NB409_410, NB410_409⟩ := n_
       clear hb hbox hg
       refine hK.out _ _ ⟨(blk_cell BK392.out 0).trans rfl, (blk_cell BK393.out 0).trans rfl⟩ (fun hHeld => ?_)
       clear hK K
       refine hkNo (N := some 18) ?_
       exact hkNm (hJ1_3_9_10 (_, _, gb409, gb410) _ ⟨hHeld, ⟨hkR HO398⟩, ⟨hkR HO401⟩, ⟨hkB BK392⟩, ⟨hkB BK393⟩, ⟨hkB BK409⟩, ⟨hkB BK410⟩, GW409, GE409, NB392_409, NB409_392, NB393_409, NB409_393, NB410_409, NB409_410, GW410, GE410, NB392_410, NB410_392, NB393_410, NB410_393, ⟨hkS HB⟩⟩)
    ·skip
     clear BK392 BK393 HB
     rintro ⟨v397, v400, v403, v406⟩ w39 h_
     try dsimp only at h_
     obtain ⟨hHeld, HO398, HO401, HO404, HO407, BK392, BK393, HB⟩ := h_
     refine hkNp ?_
     refine two_ (i := 9) (j := 10) (Ni := some 17) (Nj := some 18) #[true, true, true, true, true, true, true, true, true, true, false, false, false, false] #[true, true, true, true, true, true, true, true, true, false, true, false, false, false] rfl rfl rfl rfl (two_of HT_.out (by kernel_rfl)) (by decide) (by decide) (fun K hK => ?_) (fun K hK => ?_)
     ·skip
      refine hkBs (N := 17) (cs := #[.slice none 0 0]) (t := 38) ?_
      intro gb409 hg w40 hbox hb
      have n_ := hkA (hkRb HO398 hb) (hkA (hkRb HO401 hb) (hkA (hkRb HO404 hb) (hkA (hkRb HO407 hb) (hkA (hkBb BK392 hb) (hkA (hkBb BK393 hb) (hkA (hkU HB hb) (hkA (Aside0.mk (hbox)) (hkA (hkG hg (hkS HB)) (hkA (hkG hg (hkS HB)) (hkA (hkN hg BK392) (hkA (hkM hg BK392) (hkA (hkN hg BK393) (hkM hg BK393)))))))))))))
      clear HO398 HO401 HO404 HO407 BK392 BK393 HB
      obtain ⟨HO398, HO401, HO404, HO407, BK392, BK393, HB, BK409, GW409, GE409, NB392_409, NB409_392, NB393_409, NB409_393⟩ := n_
      clear hb hbox hg
      refine hK.out _ _ ⟨(blk_cell BK392.out 0).trans rfl, (blk_cell BK393.out 0).trans rfl⟩ (fun hHeld => ?_)
      clear hK K
      refine hkNo (N := some 17) ?_
      exact hkNm (hJ1_3_4_9 (_, _, _, _, gb409) _ ⟨hHeld, ⟨hkR HO398⟩, ⟨hkR HO401⟩, ⟨hkR HO404⟩, ⟨hkR HO407⟩, ⟨hkB BK392⟩, ⟨hkB BK393⟩, ⟨hkB BK409⟩, GW409, GE409, NB392_409, NB409_392, NB393_409, NB409_393, ⟨hkS HB⟩⟩)
     ·skip
      refine hkBs (N := 18) (cs := #[.slice none 0 0]) (t := 38) ?_
      intro gb410 hg w40 hbox hb
      have n_ := hkA (hkRb HO398 hb) (hkA (hkRb HO401 hb) (hkA (hkRb HO404 hb) (hkA (hkRb HO407 hb) (hkA (hkBb BK392 hb) (hkA (hkBb BK393 hb) (hkA (hkU HB hb) (hkA (Aside0.mk (hbox)) (hkA (hkG hg (hkS HB)) (hkA (hkG hg (hkS HB)) (hkA (hkN hg BK392) (hkA (hkM hg BK392) (hkA (hkN hg BK393) (hkM hg BK393)))))))))))))
      clear HO398 HO401 HO404 HO407 BK392 BK393 HB
      obtain ⟨HO398, HO401, HO404, HO407, BK392, BK393, HB, BK410, GW410, GE410, NB392_410, NB410_392, NB393_410, NB410_393⟩ := n_
      clear hb hbox hg
      refine hK.out _ _ ⟨(blk_cell BK392.out 0).trans rfl, (blk_cell BK393.out 0).trans rfl⟩ (fun hHeld => ?_)
      clear hK K
      refine hkNo (N := some 18) ?_
      exact hkNm (hJ1_3_4_10 (_, _, _, _, gb410) _ ⟨hHeld, ⟨hkR HO398⟩, ⟨hkR HO401⟩, ⟨hkR HO404⟩, ⟨hkR HO407⟩, ⟨hkB BK392⟩, ⟨hkB BK393⟩, ⟨hkB BK410⟩, GW410, GE410, NB392_410, NB410_392, NB393_410, NB410_393, ⟨hkS HB⟩⟩)
   ·skip
    clear BK392 BK393 HB
    rintro ⟨v397, v400, gb409, gb410⟩ w38 h_
    try dsimp only at h_
    obtain ⟨hHeld, HO398, HO401, BK392, BK393, BK409, BK410, GW409, GE409, NB392_409, NB409_392, NB393_409, NB409_393, NB410_409, NB409_410, GW410, GE410, NB392_410, NB410_392, NB393_410, NB410_393, HB⟩ := h_
    obtain ⟨Ao39, co39, eo39⟩ := Kd.R_slice HO398.out
    (first | subst eo39 | (injection eo39 with f1_ f2_ f3_; have f4_ := f1_.symm; have f5_ := f3_.symm; clear f1_ f2_ f3_; subst f4_; subst f5_))
    obtain ⟨Ao40, co40, eo40⟩ := Kd.R_slice HO401.out
    (first | subst eo40 | (injection eo40 with f1_ f2_ f3_; have f4_ := f1_.symm; have f5_ := f3_.symm; clear f1_ f2_ f3_; subst f4_; subst f5_))
    refine hkNp ?_
    refine one_ (i := 4) (N := some 124) #[true, true, true, true, true, false, false, false, false, true, true, false, false, false] rfl rfl (one_of HT_.out (by kernel_rfl)) (by decide) (fun K hK => ?_)
    refine goes_ Try.func23 (by kernel_rfl) rfl #[.agg #[.slice Ao39 t396.length co39], .agg #[.slice Ao40 t399.length co40]] (by rfl) rfl rfl hkL ?_
    with_reducible refine (impl_NatDiv.calls k _ _ t396 _ _ t399 t402 t405 t408 _ ?side1 ?side2 ?side3 ?side4 A21.out).mono ?_
    (case side1 => exact hkC ((Kd.R_reads' HO398.out).2.2))
    (case side2 => exact (Kd.R_reads' HO398.out).2.1)
    (case side3 => exact hkC ((Kd.R_reads' HO401.out).2.2))
    (case side4 => exact (Kd.R_reads' HO401.out).2.1)
    rintro e w41 ⟨v403, v406, rfl, ho0, ho1, hb⟩
    refine ⟨_, rfl, ?_⟩
    have n_ := hkA (Aside0.mk (Kd.R_mono (Kd.R_told (Kd.R_told (Kd.R_old (hkR HO398) hb) (Kd.R_base ho0)) (Kd.R_base ho1)) (fun _ h_ => h_.1))) (hkA (Aside0.mk (Kd.R_mono (Kd.R_told (Kd.R_told (Kd.R_old (hkR HO401) hb) (Kd.R_base ho0)) (Kd.R_base ho1)) (fun _ h_ => h_.1))) (hkA (Aside0.mk (Kd.R_lower (Kd.R_new' (Kd.R_new' ho0 (Kd.R_lt (hkR HO398))) (Kd.R_lt (hkR HO401))) (below_size (hkS HB)))) (hkA (Aside0.mk (Kd.R_lower (Kd.R_new' (Kd.R_new' ho1 (Kd.R_lt (hkR HO398))) (Kd.R_lt (hkR HO401))) (below_size (hkS HB)))) (hkA (hkBb BK392 hb) (hkA (hkBb BK393 hb) (hkA (hkBb BK409 hb) (hkA (hkBb BK410 hb) (hkU HB hb))))))))
    clear HO398 HO401 BK392 BK393 BK409 BK410 HB
    obtain ⟨HO398, HO401, HO404, HO407, BK392, BK393, BK409, BK410, HB⟩ := n_
    (try clear hb); (try clear ho0); (try clear ho1)
    refine hK.out _ _ ⟨(blk_cell BK392.out 0).trans rfl, (blk_cell BK393.out 0).trans rfl⟩ (fun hHeld => ?_)
    clear hK K
    refine hkNo (N := some 124) ?_
    refine hkPt (i := 5) (N := some 119) HT_ ?_ (hQ := fun c a w => hQ c a _ _ w)
    refine hkPt (i := 6) (N := some 125) HT_ ?_ (hQ := fun c a w => hQ c a _ _ w)
    refine hkPt (i := 7) (N := some 126) HT_ ?_ (hQ := fun c a w => hQ c a _ _ w)
    refine hkPt (i := 8) (N := some 127) HT_ ?_ (hQ := fun c a w => hQ c a _ _ w)
    exact hkNm (hJ1_3_4_9_10 (.slice Ao39 t396.length co39, .slice Ao40 t399.length co40, _, _, gb409, gb410) _ ⟨hHeld, ⟨by (with_reducible repeat (first | apply Kd.R_alloc | apply Kd.R_drewN | apply Kd.R_drew)); exact Kd.R_mono HO398.out (fun _ hk => ⟨hk.1.1, ⟨hk.1.2, hk.2⟩⟩)⟩, ⟨by (with_reducible repeat (first | apply Kd.R_alloc | apply Kd.R_drewN | apply Kd.R_drew)); exact Kd.R_mono HO401.out (fun _ hk => ⟨hk.1.1, ⟨hk.1.2, hk.2⟩⟩)⟩, ⟨by (with_reducible repeat (first | apply Kd.R_alloc | apply Kd.R_drewN | apply Kd.R_drew)); exact Kd.R_mono HO404.out (fun _ hk => ⟨hk.1.2, ⟨hk.2, hk.1.1⟩⟩)⟩, ⟨by (with_reducible repeat (first | apply Kd.R_alloc | apply Kd.R_drewN | apply Kd.R_drew)); exact Kd.R_mono HO407.out (fun _ hk => ⟨hk.1.2, ⟨hk.2, hk.1.1⟩⟩)⟩, ⟨hkB BK392⟩, ⟨hkB BK393⟩, ⟨hkB BK409⟩, ⟨hkB BK410⟩, GW409, GE409, NB392_409, NB409_392, NB393_409, NB409_393, NB410_409, NB409_410, GW410, GE410, NB392_410, NB410_392, NB393_410, NB410_393, ⟨hkS HB⟩⟩)
  ·skip
   clear BK392 BK393 HB
   rintro ⟨v397, v400, v403, v406, gb410⟩ w40 h_
   try dsimp only at h_
   obtain ⟨hHeld, HO398, HO401, HO404, HO407, BK392, BK393, BK410, GW410, GE410, NB392_410, NB410_392, NB393_410, NB410_393, HB⟩ := h_
   refine hkNp ?_
   refine one_ (i := 9) (N := some 17) #[true, true, true, true, true, true, true, true, true, true, true, false, false, false] rfl rfl (one_of HT_.out (by kernel_rfl)) (by decide) (fun K hK => ?_)
   refine hkBs (N := 17) (cs := #[.slice none 0 0]) (t := 38) ?_
   intro gb409 hg w41 hbox hb
   have n_ := hkA (hkRb HO398 hb) (hkA (hkRb HO401 hb) (hkA (hkRb HO404 hb) (hkA (hkRb HO407 hb) (hkA (hkBb BK392 hb) (hkA (hkBb BK393 hb) (hkA (hkBb BK410 hb) (hkA (hkU HB hb) (hkA (Aside0.mk (hbox)) (hkA (hkG hg (hkS HB)) (hkA (hkG hg (hkS HB)) (hkA (hkN hg BK392) (hkA (hkM hg BK392) (hkA (hkN hg BK393) (hkA (hkM hg BK393) (hkA (hkN hg BK410) (hkM hg BK410))))))))))))))))
   clear HO398 HO401 HO404 HO407 BK392 BK393 BK410 HB
   obtain ⟨HO398, HO401, HO404, HO407, BK392, BK393, BK410, HB, BK409, GW409, GE409, NB392_409, NB409_392, NB393_409, NB409_393, NB410_409, NB409_410⟩ := n_
   clear hb hbox hg
   refine hK.out _ _ ⟨(blk_cell BK392.out 0).trans rfl, (blk_cell BK393.out 0).trans rfl⟩ (fun hHeld => ?_)
   clear hK K
   refine hkNo (N := some 17) ?_
   exact hkNm (hJ1_3_4_9_10 (_, _, _, _, gb409, gb410) _ ⟨hHeld, ⟨hkR HO398⟩, ⟨hkR HO401⟩, ⟨hkR HO404⟩, ⟨hkR HO407⟩, ⟨hkB BK392⟩, ⟨hkB BK393⟩, ⟨hkB BK409⟩, ⟨hkB BK410⟩, GW409, GE409, NB392_409, NB409_392, NB393_409, NB409_393, NB410_409, NB409_410, GW410, GE410, NB392_410, NB410_392, NB393_410, NB410_393, ⟨hkS HB⟩⟩)
 ·skip
  clear BK392 BK393 HB
  rintro ⟨v397, v400, v403, v406, gb409⟩ w40 h_
  try dsimp only at h_
  obtain ⟨hHeld, HO398, HO401, HO404, HO407, BK392, BK393, BK409, GW409, GE409, NB392_409, NB409_392, NB393_409, NB409_393, HB⟩ := h_
  refine hkNp ?_
  refine one_ (i := 10) (N := some 18) #[true, true, true, true, true, true, true, true, true, true, true, false, false, false] rfl rfl (one_of HT_.out (by kernel_rfl)) (by decide) (fun K hK => ?_)
  refine hkBs (N := 18) (cs := #[.slice none 0 0]) (t := 38) ?_
  intro gb410 hg w41 hbox hb
  have n_ := hkA (hkRb HO398 hb) (hkA (hkRb HO401 hb) (hkA (hkRb HO404 hb) (hkA (hkRb HO407 hb) (hkA (hkBb BK392 hb) (hkA (hkBb BK393 hb) (hkA (hkBb BK409 hb) (hkA (hkU HB hb) (hkA (Aside0.mk (hbox)) (hkA (hkG hg (hkS HB)) (hkA (hkG hg (hkS HB)) (hkA (hkN hg BK392) (hkA (hkM hg BK392) (hkA (hkN hg BK393) (hkA (hkM hg BK393) (hkA (hkN hg BK409) (hkM hg BK409))))))))))))))))
  clear HO398 HO401 HO404 HO407 BK392 BK393 BK409 HB
  obtain ⟨HO398, HO401, HO404, HO407, BK392, BK393, BK409, HB, BK410, GW410, GE410, NB392_410, NB410_392, NB393_410, NB410_393, NB409_410, NB410_409⟩ := n_
  clear hb hbox hg
  refine hK.out _ _ ⟨(blk_cell BK392.out 0).trans rfl, (blk_cell BK393.out 0).trans rfl⟩ (fun hHeld => ?_)
  clear hK K
  refine hkNo (N := some 18) ?_
  exact hkNm (hJ1_3_4_9_10 (_, _, _, _, gb409, gb410) _ ⟨hHeld, ⟨hkR HO398⟩, ⟨hkR HO401⟩, ⟨hkR HO404⟩, ⟨hkR HO407⟩, ⟨hkB BK392⟩, ⟨hkB BK393⟩, ⟨hkB BK409⟩, ⟨hkB BK410⟩, GW409, GE409, NB392_409, NB409_392, NB393_409, NB409_393, NB410_409, NB409_410, GW410, GE410, NB392_410, NB410_392, NB393_410, NB410_393, ⟨hkS HB⟩⟩)

end Go.Proofs.Ytgjpahofopoflaa.PFnExactNatDiv
