/- Part 3 of the proof of GraphOrderSaid. What is proved: what a call of each function leaves. Conditions: those that each theorem names. -/
import Derived.Test.YtfcnkaignjdpgaaGreatA1
import Derived.Test.YtfcnkaignjdpgaaGreatA2
import Derived.Deep.Draws
import Derived.RangeFuncRecord
set_option linter.unusedVariables false
set_option linter.unusedSimpArgs false
set_option linter.unusedSectionVars false
namespace Go.Eng
open Go Go.Proofs
set_option maxRecDepth 100000
set_option maxHeartbeats 4000000
/-- windrose/graph.gone$1 -/
def V100 (row : Option Addr) (to : Int) (cap0 : Addr) (w : World) (R : Value → World → Prop) : Prop :=
 ∀ w1 : World, w1 = w.drew →
 (∃ p : Addr, row = some p ∧
 (∃ (x1a : Option Addr) (x1n x1c : Nat), w1.cell? p = some (.slice x1a x1n x1c) ∧
 (∃ (x2 : Int), w1.cell? cap0 = some (.int .u64 x2) ∧
 (Cl Tryz.prog 101 #[.slice x1a x1n x1c, .agg #[.int .u64 x2, .int .i64 0], .func (.func 102) #[] #[]] w1 fun v w2 => ∃ (x3 : Int) (x4 : Bool), v = .tuple #[.int .i64 x3, .bool x4] ∧
 (cond (!x4) (∀ w3 : World, w3 = w2.drew →
 (∃ p2 : Addr, row = some p2 ∧
 (∃ (x5a : Option Addr) (x5n x5c : Nat), w3.cell? p2 = some (.slice x5a x5n x5c) ∧
 (∃ (x6 : Int), w3.cell? cap0 = some (.int .u64 x6) ∧
 (∀ (b : Nat) (w4 : World), b = w3.heap.size → w4 = w3.alloc (.cells #[.int .u64 x6, .int .i64 to] 71) → (w4.cell? p2 = some (.slice x5a x5n x5c) ∧
 (Cl Tryz.prog 103 #[.slice x5a x5n x5c, .int .i64 x3, .slice (some (Addr.mk b 0 none)) 1 1] w4 fun v2 w5 => ∃ (x7a : Option Addr) (x7n x7c : Nat), v2 = .slice x7a x7n x7c ∧
 (∃ p3 : Addr, row = some p3 ∧ ((w5.cell? p3).isSome = true ∧ w5.frozen? p3 = false ∧
 (∀ w6 : World, w6 = w5.setCell p3 (.slice x7a x7n x7c) → (R (.tuple #[]) w6))))))))))) (R (.tuple #[]) w2))))))
theorem c100 (row : Option Addr) (to : Int) (cap0 : Addr) {w : World} {R : Value → World → Prop} (hV : V100 row to cap0 w R) : Cl Tryz.prog 100 #[.pointer row, .int .i64 to, .pointer (some cap0)] w R :=
 fn_sound hmTryz (TT := []) (f := 100) Tryz.func100 (ent_of Tryz.func100 (by kernel_rfl) rfl) (Eq.mpr (by kernel_rfl) hV)
/-- slices.BinarySearchFunc[[]windrose/api.Step,windrose/api.Step,windrose/api.Step] -/
def V101 (x1a : Option Addr) (x1n x1c : Nat) (target target2 : Int) (cmpf : FuncId) (cmpc : List Value) (w : World) (R : Value → World → Prop) : Prop :=
 ∀ (b : Nat) (w1 : World), b = w.heap.size → w1 = w.alloc (.cells #[.int .u64 target, .int .i64 target2] 71) →
 (∃ (Jv : Int → Int → World → Prop) (mu : Int → Int → World → Nat), Jv 0 (x1n : Int) w1 ∧ ∀ (jk_ : Nat → Value) (w2 : World), ∀ (i j : Int), Jv i j w2 →
 (cond (decide (i < j)) (∀ w3 : World, w3 = w2.drew →
 (∃ p : Addr, x1a = some p ∧ 0 ≤ (IntKind.i64.wrap (bshr .u64 (IntKind.u64.wrap (IntKind.i64.wrap (i + j))) 1)) ∧ (IntKind.i64.wrap (bshr .u64 (IntKind.u64.wrap (IntKind.i64.wrap (i + j))) 1)) < (x1n : Int) ∧
 (∃ (x2 x3 : Int), w3.cell? (p.add (((IntKind.i64.wrap (bshr .u64 (IntKind.u64.wrap (IntKind.i64.wrap (i + j))) 1))).toNat * 2)) = some (.int .u64 x2) ∧ w3.cell? ((p.add (((IntKind.i64.wrap (bshr .u64 (IntKind.u64.wrap (IntKind.i64.wrap (i + j))) 1))).toNat * 2)).add 1) = some (.int .i64 x3) ∧
 (∃ (x4 x5 : Int), w3.cell? (Addr.mk b 0 none) = some (.int .u64 x4) ∧ w3.cell? ((Addr.mk b 0 none).add 1) = some (.int .i64 x5) ∧
 (Cl Tryz.prog cmpf (([.agg #[.int .u64 x2, .int .i64 x3], .agg #[.int .u64 x4, .int .i64 x5]] : List Value) ++ cmpc).toArray w3 fun v w4 => ∃ (x6 : Int), v = .int .i64 x6 ∧
 (cond (decide (x6 < 0)) (Jv (IntKind.i64.wrap ((IntKind.i64.wrap (bshr .u64 (IntKind.u64.wrap (IntKind.i64.wrap (i + j))) 1)) + 1)) j w4 ∧ mu (IntKind.i64.wrap ((IntKind.i64.wrap (bshr .u64 (IntKind.u64.wrap (IntKind.i64.wrap (i + j))) 1)) + 1)) j w4 < mu i j w2) (Jv i (IntKind.i64.wrap (bshr .u64 (IntKind.u64.wrap (IntKind.i64.wrap (i + j))) 1)) w4 ∧ mu i (IntKind.i64.wrap (bshr .u64 (IntKind.u64.wrap (IntKind.i64.wrap (i + j))) 1)) w4 < mu i j w2))))))) (∀ w5 : World, w5 = w2.drew →
 (cond (decide (i < (x1n : Int))) (∃ p2 : Addr, x1a = some p2 ∧ 0 ≤ i ∧ i < (x1n : Int) ∧
 (∃ (x7 x8 : Int), w5.cell? (p2.add ((i).toNat * 2)) = some (.int .u64 x7) ∧ w5.cell? ((p2.add ((i).toNat * 2)).add 1) = some (.int .i64 x8) ∧
 (∃ (x9 x10 : Int), w5.cell? (Addr.mk b 0 none) = some (.int .u64 x9) ∧ w5.cell? ((Addr.mk b 0 none).add 1) = some (.int .i64 x10) ∧
 (Cl Tryz.prog cmpf (([.agg #[.int .u64 x7, .int .i64 x8], .agg #[.int .u64 x9, .int .i64 x10]] : List Value) ++ cmpc).toArray w5 fun v2 w6 => ∃ (x11 : Int), v2 = .int .i64 x11 ∧ (R (.tuple #[.int .i64 i, .bool (x11 == 0)]) w6))))) (R (.tuple #[.int .i64 i, .bool false]) w5)))))
theorem c101 (x1a : Option Addr) (x1n x1c : Nat) (target target2 : Int) (cmpf : FuncId) (cmpc : List Value) {w : World} {R : Value → World → Prop} (hV : V101 x1a x1n x1c target target2 cmpf cmpc w R) : Cl Tryz.prog 101 #[.slice x1a x1n x1c, .agg #[.int .u64 target, .int .i64 target2], .func (.func cmpf) #[] cmpc.toArray] w R :=
 fn_sound hmTryz (TT := []) (f := 101) Tryz.func101 (ent_of Tryz.func101 (by kernel_rfl) rfl) (Eq.mpr (by kernel_rfl) hV)
/-- windrose/graph.compare -/
def V102 (a a2 : Int) (b b2 : Int) (w : World) (R : Value → World → Prop) : Prop :=
 ∀ (b3 : Nat) (w1 : World), b3 = w.heap.size → w1 = w.alloc (.cells #[.int .u64 a, .int .i64 a2] 71) →
 (∀ (b4 : Nat) (w2 : World), b4 = w1.heap.size → w2 = w1.alloc (.cells #[.int .u64 b, .int .i64 b2] 71) →
 (∃ (x1 : Int), w2.cell? (Addr.mk b3 0 none) = some (.int .u64 x1) ∧
 (∃ (x2 : Int), w2.cell? (Addr.mk b4 0 none) = some (.int .u64 x2) ∧
 (Cl Tryz.prog 93 #[.int .u64 x1, .int .u64 x2] w2 fun v w3 => ∃ (x3 : Int), v = .int .i64 x3 ∧ (R (.int .i64 x3) w3)))))
theorem c102 (a a2 : Int) (b b2 : Int) {w : World} {R : Value → World → Prop} (hV : V102 a a2 b b2 w R) : Cl Tryz.prog 102 #[.agg #[.int .u64 a, .int .i64 a2], .agg #[.int .u64 b, .int .i64 b2]] w R :=
 fn_sound hmTryz (TT := []) (f := 102) Tryz.func102 (ent_of Tryz.func102 (by kernel_rfl) rfl) (Eq.mpr (by kernel_rfl) hV)
/-- slices.Insert[[]windrose/api.Step,windrose/api.Step] -/
def V103 (sa : Option Addr) (sn sc : Nat) (i : Int) (va : Option Addr) (vn vc : Nat) (w : World) (R : Value → World → Prop) : Prop :=
 0 ≤ i ∧ i ≤ (sn : Int) ∧
 (cond ((vn : Int) == 0) (R (.slice sa sn sc) w)
 (cond (i == (sn : Int)) (∃ (x1a : Option Addr) (x1n x1c : Nat) (w1 : World), Sem.run Tryz.prog (Builtin.append_ #[54, 54] 54 #[.slice sa sn sc, .slice va vn vc]) w = .ok (.slice x1a x1n x1c) w1 ∧ (R (.slice x1a x1n x1c) w1)) (∃ n : Int, Sem.run Tryz.prog (Builtin.cap_ #[54] 3 #[.slice sa sn sc]) w = .ok (.int .i64 n) w ∧
 (cond (decide (n < (IntKind.i64.wrap ((sn : Int) + (vn : Int))))) (0 ≤ i ∧ i ≤ (sc : Int) ∧
 (∃ (x2a : Option Addr) (x2n x2c : Nat) (w2 : World), Sem.run Tryz.prog (Builtin.append_ #[54, 3] 54 #[.slice sa ((i).toNat) (((sc : Int)).toNat), .int .i64 (IntKind.i64.wrap ((IntKind.i64.wrap ((sn : Int) + (vn : Int))) - i))]) w = .ok (.slice x2a x2n x2c) w2 ∧ (0 ≤ i ∧ i ≤ (x2n : Int) ∧
 (∃ (n2 : Int) (w3 : World), Sem.run Tryz.prog (Builtin.copy_ #[54, 54] 3 #[.slice (offA x2a (((x2c : Int)).toNat) ((i).toNat) 2) (((x2n : Int)).toNat - (i).toNat) (((x2c : Int)).toNat - (i).toNat), .slice va vn vc]) w2 = .ok (.int .i64 n2) w3 ∧
 (∀ w4 : World, w4 = w3.drew → (0 ≤ (IntKind.i64.wrap (i + (vn : Int))) ∧ (IntKind.i64.wrap (i + (vn : Int))) ≤ (x2n : Int) ∧ (0 ≤ i ∧ i ≤ (sn : Int) ∧
 (∃ (n3 : Int) (w5 : World), Sem.run Tryz.prog (Builtin.copy_ #[54, 54] 3 #[.slice (offA x2a (((x2c : Int)).toNat) ((IntKind.i64.wrap (i + (vn : Int))).toNat) 2) (((x2n : Int)).toNat - (IntKind.i64.wrap (i + (vn : Int))).toNat) (((x2c : Int)).toNat - (IntKind.i64.wrap (i + (vn : Int))).toNat), .slice (offA sa (((sc : Int)).toNat) ((i).toNat) 2) (((sn : Int)).toNat - (i).toNat) (((sc : Int)).toNat - (i).toNat)]) w4 = .ok (.int .i64 n3) w5 ∧ (R (.slice x2a x2n x2c) w5))))))))) (0 ≤ (IntKind.i64.wrap ((sn : Int) + (vn : Int))) ∧ (IntKind.i64.wrap ((sn : Int) + (vn : Int))) ≤ (sc : Int) ∧ (0 ≤ (IntKind.i64.wrap (i + (vn : Int))) ∧ (IntKind.i64.wrap (i + (vn : Int))) ≤ ((IntKind.i64.wrap ((sn : Int) + (vn : Int))).toNat : Int) ∧
 (Cl Tryz.prog 136 #[.slice va vn vc, .slice (offA sa (((((sc : Int)).toNat : Int)).toNat) ((IntKind.i64.wrap (i + (vn : Int))).toNat) 2) ((((IntKind.i64.wrap ((sn : Int) + (vn : Int))).toNat : Int)).toNat - (IntKind.i64.wrap (i + (vn : Int))).toNat) (((((sc : Int)).toNat : Int)).toNat - (IntKind.i64.wrap (i + (vn : Int))).toNat)] w fun v2 w6 => ∃ (x3 : Bool), v2 = .bool x3 ∧
 (cond (!x3) (∀ w7 : World, w7 = w6.drew → (0 ≤ (IntKind.i64.wrap (i + (vn : Int))) ∧ (IntKind.i64.wrap (i + (vn : Int))) ≤ ((IntKind.i64.wrap ((sn : Int) + (vn : Int))).toNat : Int) ∧ (0 ≤ i ∧ i ≤ ((IntKind.i64.wrap ((sn : Int) + (vn : Int))).toNat : Int) ∧
 (∃ (n4 : Int) (w8 : World), Sem.run Tryz.prog (Builtin.copy_ #[54, 54] 3 #[.slice (offA sa (((((sc : Int)).toNat : Int)).toNat) ((IntKind.i64.wrap (i + (vn : Int))).toNat) 2) ((((IntKind.i64.wrap ((sn : Int) + (vn : Int))).toNat : Int)).toNat - (IntKind.i64.wrap (i + (vn : Int))).toNat) (((((sc : Int)).toNat : Int)).toNat - (IntKind.i64.wrap (i + (vn : Int))).toNat), .slice (offA sa (((((sc : Int)).toNat : Int)).toNat) ((i).toNat) 2) ((((IntKind.i64.wrap ((sn : Int) + (vn : Int))).toNat : Int)).toNat - (i).toNat) (((((sc : Int)).toNat : Int)).toNat - (i).toNat)]) w7 = .ok (.int .i64 n4) w8 ∧ (0 ≤ i ∧ i ≤ ((IntKind.i64.wrap ((sn : Int) + (vn : Int))).toNat : Int) ∧
 (∃ (n5 : Int) (w9 : World), Sem.run Tryz.prog (Builtin.copy_ #[54, 54] 3 #[.slice (offA sa (((((sc : Int)).toNat : Int)).toNat) ((i).toNat) 2) ((((IntKind.i64.wrap ((sn : Int) + (vn : Int))).toNat : Int)).toNat - (i).toNat) (((((sc : Int)).toNat : Int)).toNat - (i).toNat), .slice va vn vc]) w8 = .ok (.int .i64 n5) w9 ∧ (R (.slice sa ((IntKind.i64.wrap ((sn : Int) + (vn : Int))).toNat) (((sc : Int)).toNat)) w9))))))) (0 ≤ (sn : Int) ∧ (sn : Int) ≤ ((IntKind.i64.wrap ((sn : Int) + (vn : Int))).toNat : Int) ∧
 (∃ (n6 : Int) (w10 : World), Sem.run Tryz.prog (Builtin.copy_ #[54, 54] 3 #[.slice (offA sa (((((sc : Int)).toNat : Int)).toNat) (((sn : Int)).toNat) 2) ((((IntKind.i64.wrap ((sn : Int) + (vn : Int))).toNat : Int)).toNat - ((sn : Int)).toNat) (((((sc : Int)).toNat : Int)).toNat - ((sn : Int)).toNat), .slice va vn vc]) w6 = .ok (.int .i64 n6) w10 ∧ (0 ≤ i ∧ i ≤ ((IntKind.i64.wrap ((sn : Int) + (vn : Int))).toNat : Int) ∧
 (Cl Tryz.prog 137 #[.slice (offA sa (((((sc : Int)).toNat : Int)).toNat) ((i).toNat) 2) ((((IntKind.i64.wrap ((sn : Int) + (vn : Int))).toNat : Int)).toNat - (i).toNat) (((((sc : Int)).toNat : Int)).toNat - (i).toNat), .int .i64 (vn : Int)] w10 fun v3 w11 => v3 = undef ∧ (R (.slice sa ((IntKind.i64.wrap ((sn : Int) + (vn : Int))).toNat) (((sc : Int)).toNat)) w11)))))))))))))
theorem c103 (sa : Option Addr) (sn sc : Nat) (i : Int) (va : Option Addr) (vn vc : Nat) {w : World} {R : Value → World → Prop} (hV : V103 sa sn sc i va vn vc w R) : Cl Tryz.prog 103 #[.slice sa sn sc, .int .i64 i, .slice va vn vc] w R :=
 fn_sound hmTryz (TT := []) (f := 103) Tryz.func103 (ent_of Tryz.func103 (by kernel_rfl) rfl) (Eq.mpr (by kernel_rfl) hV)
/-- slices.BinarySearch[[]windrose/api.Id,windrose/api.Id] -/
def V104 (x1a : Option Addr) (x1n x1c : Nat) (target : Int) (w : World) (R : Value → World → Prop) : Prop :=
 ∃ (Jm : Int → Int → World → Prop), (∃ (Jv : Int → Int → World → Prop) (mu : Int → Int → World → Nat), Jv 0 (x1n : Int) w ∧ ∀ (jk_2 : Nat → Value) (w1 : World), ∀ (i2 j2 : Int), Jv i2 j2 w1 →
 (cond (decide (i2 < j2)) (∃ p : Addr, x1a = some p ∧ 0 ≤ (IntKind.i64.wrap (bshr .u64 (IntKind.u64.wrap (IntKind.i64.wrap (i2 + j2))) 1)) ∧ (IntKind.i64.wrap (bshr .u64 (IntKind.u64.wrap (IntKind.i64.wrap (i2 + j2))) 1)) < (x1n : Int) ∧
 (∃ (x2 : Int), w1.cell? (p.add (((IntKind.i64.wrap (bshr .u64 (IntKind.u64.wrap (IntKind.i64.wrap (i2 + j2))) 1))).toNat * 1)) = some (.int .u64 x2) ∧
 (Cl Tryz.prog 138 #[.int .u64 x2, .int .u64 target] w1 fun v w2 => ∃ (x3 : Bool), v = .bool x3 ∧
 (cond x3 (Jv (IntKind.i64.wrap ((IntKind.i64.wrap (bshr .u64 (IntKind.u64.wrap (IntKind.i64.wrap (i2 + j2))) 1)) + 1)) j2 w2 ∧ mu (IntKind.i64.wrap ((IntKind.i64.wrap (bshr .u64 (IntKind.u64.wrap (IntKind.i64.wrap (i2 + j2))) 1)) + 1)) j2 w2 < mu i2 j2 w1) (Jv i2 (IntKind.i64.wrap (bshr .u64 (IntKind.u64.wrap (IntKind.i64.wrap (i2 + j2))) 1)) w2 ∧ mu i2 (IntKind.i64.wrap (bshr .u64 (IntKind.u64.wrap (IntKind.i64.wrap (i2 + j2))) 1)) w2 < mu i2 j2 w1))))) (Jm i2 j2 w1))) ∧ ∀ (jk_ : Nat → Value) (w3 : World), ∀ (i j : Int), Jm i j w3 →
 (cond (decide (i < (x1n : Int))) (∃ p2 : Addr, x1a = some p2 ∧ 0 ≤ i ∧ i < (x1n : Int) ∧
 (∃ (x4 : Int), w3.cell? (p2.add ((i).toNat * 1)) = some (.int .u64 x4) ∧
 (cond (x4 == target) (R (.tuple #[.int .i64 i, .bool true]) w3) (∃ p3 : Addr, x1a = some p3 ∧ 0 ≤ i ∧ i < (x1n : Int) ∧
 (∃ (x5 : Int), w3.cell? (p3.add ((i).toNat * 1)) = some (.int .u64 x5) ∧
 (Cl Tryz.prog 139 #[.int .u64 x5] w3 fun v2 w4 => ∃ (x6 : Bool), v2 = .bool x6 ∧
 (cond x6
 (Cl Tryz.prog 139 #[.int .u64 target] w4 fun v3 w5 => ∃ (x7 : Bool), v3 = .bool x7 ∧ (R (.tuple #[.int .i64 i, .bool x7]) w5)) (R (.tuple #[.int .i64 i, .bool false]) w4)))))))) (R (.tuple #[.int .i64 i, .bool false]) w3))
theorem c104 (x1a : Option Addr) (x1n x1c : Nat) (target : Int) {w : World} {R : Value → World → Prop} (hV : V104 x1a x1n x1c target w R) : Cl Tryz.prog 104 #[.slice x1a x1n x1c, .int .u64 target] w R :=
 fn_sound hmTryz (TT := []) (f := 104) Tryz.func104 (ent_of Tryz.func104 (by kernel_rfl) rfl) (Eq.mpr (by kernel_rfl) hV)
/-- slices.Delete[[]windrose/api.Id,windrose/api.Id] -/
def V105 (sa : Option Addr) (sn sc : Nat) (i j : Int) (w : World) (R : Value → World → Prop) : Prop :=
 0 ≤ (sn : Int) ∧ (sn : Int) ≤ (sc : Int) ∧ (0 ≤ j ∧ j ≤ (sn : Int) ∧ (0 ≤ i ∧ i ≤ j ∧
 (cond (i == j) (R (.slice sa sn sc) w) (∀ w1 : World, w1 = w.drew → (0 ≤ i ∧ i ≤ (sc : Int) ∧ (0 ≤ j ∧ j ≤ (sn : Int) ∧
 (∃ (x1a : Option Addr) (x1n x1c : Nat) (w2 : World), Sem.run Tryz.prog (Builtin.append_ #[33, 33] 33 #[.slice sa ((i).toNat) (((sc : Int)).toNat), .slice (offA sa (((sc : Int)).toNat) ((j).toNat) 1) (((sn : Int)).toNat - (j).toNat) (((sc : Int)).toNat - (j).toNat)]) w1 = .ok (.slice x1a x1n x1c) w2 ∧ (0 ≤ (sn : Int) ∧ (sn : Int) ≤ (x1c : Int) ∧ (0 ≤ (x1n : Int) ∧ (x1n : Int) ≤ (sn : Int) ∧
 (∃ (w3 : World), Sem.run Tryz.prog (Builtin.clear_ #[33] 0 #[.slice (offA x1a (((x1c : Int)).toNat) (((x1n : Int)).toNat) 1) (((sn : Int)).toNat - ((x1n : Int)).toNat) (((x1c : Int)).toNat - ((x1n : Int)).toNat)]) w2 = .ok (.tuple #[]) w3 ∧ (R (.slice x1a x1n x1c) w3)))))))))))
theorem c105 (sa : Option Addr) (sn sc : Nat) (i j : Int) {w : World} {R : Value → World → Prop} (hV : V105 sa sn sc i j w R) : Cl Tryz.prog 105 #[.slice sa sn sc, .int .i64 i, .int .i64 j] w R :=
 fn_sound hmTryz (TT := []) (f := 105) Tryz.func105 (ent_of Tryz.func105 (by kernel_rfl) rfl) (Eq.mpr (by kernel_rfl) hV)
/-- windrose/lookup.place -/
def V107 (la : Option Addr) (ln lc : Nat) (ta : Option Addr) (tn tc : Nat) (w : World) (R : Value → World → Prop) : Prop :=
 ∀ (b : Nat) (w1 : World), b = w.heap.size → w1 = w.alloc (.cells #[.slice la ln lc] 25) →
 (∀ (b2 : Nat) (w2 : World), b2 = w1.heap.size → w2 = w1.alloc (.cells #[.slice ta tn tc] 33) →
 (∀ (b3 : Nat) (w3 : World), b3 = w2.heap.size → w3 = w2.alloc (.cells #[.int .i64 0] 3) → ((w3.cell? (Addr.mk b3 0 none)).isSome = true ∧ w3.frozen? (Addr.mk b3 0 none) = false ∧
 (∀ w4 : World, w4 = w3.setCell (Addr.mk b3 0 none) (.int .i64 (-1)) →
 (∃ (x1a : Option Addr) (x1n x1c : Nat), w4.cell? (Addr.mk b 0 none) = some (.slice x1a x1n x1c) ∧
 (∃ (x2a : Option Addr) (x2n x2c : Nat), w4.cell? (Addr.mk b2 0 none) = some (.slice x2a x2n x2c) ∧
 (Cl Tryz.prog 143 #[.agg #[.slice x1a x1n x1c], .slice x2a x2n x2c] w4 fun v w5 => ∃ (x3f : FuncId) (x3c : List Value), v = .func (.func x3f) #[] x3c.toArray ∧
 (∃ (xs : List (List Value)) (Kp : World → World → Prop) (I : List (List Value) → World → Prop) (Ix : Option Nat → List (List Value) → World → Prop), (Enters Tryz.prog x3f ∧ Seqs Tryz.prog x3f x3c xs Kp w5 ∧
 (∀ vs ∈ xs, hasT Tryz.prog [3, 94] vs) ∧ KeepOk w5 Kp ∧ OwnFrom w5.heap.size I ∧
 (∀ e, OwnFrom w5.heap.size (Ix e)) ∧ I [] w5) ∧
 (∀ (pre : List (List Value)) (w6 : World), ∀ (e e2 : Int) (e3a : Option Addr) (e3n e3c : Nat) (e4 : Int), [.int .i64 e, .agg #[.int .i64 e2, .slice e3a e3n e3c, .int .i64 e4]] ∈ xs → I pre w6 →
 (∀ (b4 : Nat) (w7 : World), b4 = w6.heap.size → w7 = w6.alloc (.cells #[.int .i64 0, .slice none 0 0, .int .i64 0] 94) → ((w7.cell? (Addr.mk b4 0 none)).isSome = true ∧ w7.frozen? (Addr.mk b4 0 none) = false ∧ ((w7.cell? ((Addr.mk b4 0 none).add 1)).isSome = true ∧ w7.frozen? ((Addr.mk b4 0 none).add 1) = false ∧ ((w7.cell? ((Addr.mk b4 0 none).add 2)).isSome = true ∧ w7.frozen? ((Addr.mk b4 0 none).add 2) = false ∧
 (∀ w8 : World, w8 = ((w7.setCell (Addr.mk b4 0 none) (.int .i64 e2)).setCell ((Addr.mk b4 0 none).add 1) (.slice e3a e3n e3c)).setCell ((Addr.mk b4 0 none).add 2) (.int .i64 e4) → (KeepsFrom w5.heap.size w6 w8 ∧ Kp w6 w8 ∧ I pre w8 ∧ ∀ (pre2 : List (List Value)) (w9 : World), NC w5.heap.size w8 w9 → pre2.length < xs.length → I pre2 w9 →
 (∃ (x4 : Int), w9.cell? (Addr.mk b4 0 none) = some (.int .i64 x4) ∧
 (cond (x4 == 0) (KeepsFrom w5.heap.size w9 w9 ∧ Ix (some 0) (pre2 ++ [[.int .i64 e, .agg #[.int .i64 e2, .slice e3a e3n e3c, .int .i64 e4]]]) w9) (∃ (x5 : Int), w9.cell? (Addr.mk b4 0 none) = some (.int .i64 x5) ∧
 (cond (x5 == 1) (∃ (x6a : Option Addr) (x6n x6c : Nat), w9.cell? ((Addr.mk b4 0 none).add 1) = some (.slice x6a x6n x6c) ∧
 (∃ (x7a : Option Addr) (x7n x7c : Nat), w9.cell? (Addr.mk b2 0 none) = some (.slice x7a x7n x7c) ∧
 (Cl Tryz.prog 22 #[.slice x6a x6n x6c, .slice x7a x7n x7c] w9 fun v2 w10 => ∃ (x8 : Bool), v2 = .bool x8 ∧
 (cond x8 ((w10.cell? (Addr.mk b3 0 none)).isSome = true ∧ w10.frozen? (Addr.mk b3 0 none) = false ∧
 (∀ w11 : World, w11 = w10.setCell (Addr.mk b3 0 none) (.int .i64 e) → (KeepsFrom w5.heap.size w9 w11 ∧ Ix (some 0) (pre2 ++ [[.int .i64 e, .agg #[.int .i64 e2, .slice e3a e3n e3c, .int .i64 e4]]]) w11))) (KeepsFrom w5.heap.size w9 w10 ∧ Kp w9 w10 ∧ I (pre2 ++ [[.int .i64 e, .agg #[.int .i64 e2, .slice e3a e3n e3c, .int .i64 e4]]]) w10))))) (KeepsFrom w5.heap.size w9 w9 ∧ Kp w9 w9 ∧ I (pre2 ++ [[.int .i64 e, .agg #[.int .i64 e2, .slice e3a e3n e3c, .int .i64 e4]]]) w9)))))))))))) ∧
 (∀ (d : Nat) (w12 : World), w5.heap.size ≤ d → I xs w12 → w12.heap[d]? = some (.deferred (some [])) →
 (∃ (x9 : Int), w12.cell? (Addr.mk b3 0 none) = some (.int .i64 x9) ∧ (w12.heap[d]? = some (.deferred (some [])) ∧ ∀ w13 : World, w13 = w12.putObj d (.deferred none) → (R (.int .i64 x9) w13)))) ∧
 (∀ (d : Nat) (pre : List (List Value)) (w12 : World), w5.heap.size ≤ d → pre <+: xs → Ix none pre w12 → w12.heap[d]? = some (.deferred (some [])) → (w12.heap[d]? = some (.deferred (some [])) ∧ ∀ w14 : World, w14 = w12.putObj d (.deferred none) → (R (.int .i64 0) w14))) ∧ ((∀ (d : Nat) (pre : List (List Value)) (w12 : World), w5.heap.size ≤ d → pre <+: xs → Ix (some 0) pre w12 → w12.heap[d]? = some (.deferred (some [])) →
 (∃ (x10 : Int), w12.cell? (Addr.mk b3 0 none) = some (.int .i64 x10) ∧ (w12.heap[d]? = some (.deferred (some [])) ∧ ∀ w15 : World, w15 = w12.putObj d (.deferred none) → (R (.int .i64 x10) w15)))))))))))))
theorem c107 (la : Option Addr) (ln lc : Nat) (ta : Option Addr) (tn tc : Nat) {w : World} {R : Value → World → Prop} (hV : V107 la ln lc ta tn tc w R) : Cl Tryz.prog 107 #[.agg #[.slice la ln lc], .slice ta tn tc] w R :=
 fn_sound hmTryz (TT := [(11, 3), (12, 94)]) (f := 107) Tryz.func107 (ent_of Tryz.func107 (by kernel_rfl) rfl) (Eq.mpr (by kernel_rfl) hV)
/-- slices.Clone[[]windrose/api.Entry,windrose/api.Entry] -/
def V108 (sa : Option Addr) (sn sc : Nat) (w : World) (R : Value → World → Prop) : Prop :=
 ∃ eq : Bool, binRun Tryz.prog .eql 23 (.tmp 3) (.const (.slice none 0 0)) (.slice sa sn sc) (.slice none 0 0) (.bool eq) w ∧
 (cond eq (R (.slice none 0 0) w) (∀ (b : Nat) (w1 : World), b = w.heap.size → w1 = w.alloc (.cells #[] 94) →
 (∃ (x1a : Option Addr) (x1n x1c : Nat) (w2 : World), Sem.run Tryz.prog (Builtin.append_ #[23, 23] 23 #[.slice (some (Addr.mk b 0 none)) 0 0, .slice sa sn sc]) w1 = .ok (.slice x1a x1n x1c) w2 ∧ (R (.slice x1a x1n x1c) w2))))
theorem c108 (sa : Option Addr) (sn sc : Nat) {w : World} {R : Value → World → Prop} (hV : V108 sa sn sc w R) : Cl Tryz.prog 108 #[.slice sa sn sc] w R :=
 fn_sound hmTryz (TT := []) (f := 108) Tryz.func108 (ent_of Tryz.func108 (by kernel_rfl) rfl) (Eq.mpr (by kernel_rfl) hV)
/-- windrose/graph.cloned[windrose/api.Node] -/
def V109 (la : Option Addr) (ln lc : Nat) (w : World) (R : Value → World → Prop) : Prop :=
 ∃ (x1a : Option Addr) (x1n x1c : Nat) (w1 : World), Sem.run Tryz.prog (Instr.makeSlice 22 (.int .i64 (ln : Int)) (.int .i64 (ln : Int))) w = .ok (.slice x1a x1n x1c) w1 ∧
 (∃ (n : Int) (w2 : World), Sem.run Tryz.prog (Builtin.copy_ #[22, 22] 3 #[.slice x1a x1n x1c, .slice la ln lc]) w1 = .ok (.int .i64 n) w2 ∧ (R (.slice x1a x1n x1c) w2))
theorem c109 (la : Option Addr) (ln lc : Nat) {w : World} {R : Value → World → Prop} (hV : V109 la ln lc w R) : Cl Tryz.prog 109 #[.slice la ln lc] w R :=
 fn_sound hmTryz (TT := []) (f := 109) Tryz.func109 (ent_of Tryz.func109 (by kernel_rfl) rfl) (Eq.mpr (by kernel_rfl) hV)
/-- windrose/graph.cloned[windrose/api.Entry] -/
def V110 (la : Option Addr) (ln lc : Nat) (w : World) (R : Value → World → Prop) : Prop :=
 ∃ (x1a : Option Addr) (x1n x1c : Nat) (w1 : World), Sem.run Tryz.prog (Instr.makeSlice 23 (.int .i64 (ln : Int)) (.int .i64 (ln : Int))) w = .ok (.slice x1a x1n x1c) w1 ∧
 (∃ (n : Int) (w2 : World), Sem.run Tryz.prog (Builtin.copy_ #[23, 23] 3 #[.slice x1a x1n x1c, .slice la ln lc]) w1 = .ok (.int .i64 n) w2 ∧ (R (.slice x1a x1n x1c) w2))
theorem c110 (la : Option Addr) (ln lc : Nat) {w : World} {R : Value → World → Prop} (hV : V110 la ln lc w R) : Cl Tryz.prog 110 #[.slice la ln lc] w R :=
 fn_sound hmTryz (TT := []) (f := 110) Tryz.func110 (ent_of Tryz.func110 (by kernel_rfl) rfl) (Eq.mpr (by kernel_rfl) hV)
/-- windrose/graph.cloned[windrose/api.Step] -/
def V111 (la : Option Addr) (ln lc : Nat) (w : World) (R : Value → World → Prop) : Prop :=
 ∃ (x1a : Option Addr) (x1n x1c : Nat) (w1 : World), Sem.run Tryz.prog (Instr.makeSlice 54 (.int .i64 (ln : Int)) (.int .i64 (ln : Int))) w = .ok (.slice x1a x1n x1c) w1 ∧
 (∃ (n : Int) (w2 : World), Sem.run Tryz.prog (Builtin.copy_ #[54, 54] 3 #[.slice x1a x1n x1c, .slice la ln lc]) w1 = .ok (.int .i64 n) w2 ∧ (R (.slice x1a x1n x1c) w2))
theorem c111 (la : Option Addr) (ln lc : Nat) {w : World} {R : Value → World → Prop} (hV : V111 la ln lc w R) : Cl Tryz.prog 111 #[.slice la ln lc] w R :=
 fn_sound hmTryz (TT := []) (f := 111) Tryz.func111 (ent_of Tryz.func111 (by kernel_rfl) rfl) (Eq.mpr (by kernel_rfl) hV)
end Go.Eng
namespace Go.Eng
open Go Go.Proofs
set_option maxRecDepth 100000
set_option maxHeartbeats 4000000
/-- slices.IndexFunc[[]windrose/api.Step,windrose/api.Step] -/
def V112 (sa : Option Addr) (sn sc : Nat) (ff : FuncId) (fc : List Value) (w : World) (R : Value → World → Prop) : Prop :=
 ∃ (Jv : Int → Int → World → Prop) (mu : Int → Int → World → Nat), Jv 0 0 w ∧ ∀ (jk_ : Nat → Value) (w1 : World), ∀ (s4 s8 : Int), Jv s4 s8 w1 →
 (cond (decide (s8 < (sn : Int))) (∃ p : Addr, sa = some p ∧ 0 ≤ s8 ∧ s8 < (sn : Int) ∧
 (∃ (x1 x2 : Int), w1.cell? (p.add ((s8).toNat * 2)) = some (.int .u64 x1) ∧ w1.cell? ((p.add ((s8).toNat * 2)).add 1) = some (.int .i64 x2) ∧
 (Cl Tryz.prog ff (([.agg #[.int .u64 x1, .int .i64 x2]] : List Value) ++ fc).toArray w1 fun v w2 => ∃ (x3 : Bool), v = .bool x3 ∧
 (cond x3 (R (.int .i64 s8) w2) (Jv s4 (IntKind.i64.wrap (s8 + 1)) w2 ∧ mu s4 (IntKind.i64.wrap (s8 + 1)) w2 < mu s4 s8 w1))))) (R (.int .i64 (-1)) w1))
theorem c112 (sa : Option Addr) (sn sc : Nat) (ff : FuncId) (fc : List Value) {w : World} {R : Value → World → Prop} (hV : V112 sa sn sc ff fc w R) : Cl Tryz.prog 112 #[.slice sa sn sc, .func (.func ff) #[] fc.toArray] w R :=
 fn_sound hmTryz (TT := []) (f := 112) Tryz.func112 (ent_of Tryz.func112 (by kernel_rfl) rfl) (Eq.mpr (by kernel_rfl) hV)
/-- windrose/ident.Kind -/
def V114 (id : Int) (w : World) (R : Value → World → Prop) : Prop :=
 ∀ (b : Nat) (w1 : World), b = w.heap.size → w1 = w.alloc (.cells #[.int .u64 id] 32) →
 (∃ (x1 : Int), w1.cell? (Addr.mk b 0 none) = some (.int .u64 x1) ∧
 (Cl Tryz.prog 144 #[.int .u64 x1] w1 fun v w2 => ∃ (x2 x3 : Int), v = .tuple #[.int .i64 x2, .int .i64 x3] ∧
 (∀ (b2 : Nat) (w3 : World), b2 = w2.heap.size → w3 = w2.alloc (.cells #[.int .i64 0] 3) →
 (∀ (b3 : Nat) (w4 : World), b3 = w3.heap.size → w4 = w3.alloc (.cells #[.int .i64 0] 3) → ((w4.cell? (Addr.mk b2 0 none)).isSome = true ∧ w4.frozen? (Addr.mk b2 0 none) = false ∧
 (∀ w5 : World, w5 = w4.setCell (Addr.mk b2 0 none) (.int .i64 x2) → ((w5.cell? (Addr.mk b3 0 none)).isSome = true ∧ w5.frozen? (Addr.mk b3 0 none) = false ∧
 (∀ w6 : World, w6 = w5.setCell (Addr.mk b3 0 none) (.int .i64 x3) →
 (∀ (b4 : Nat) (w7 : World), b4 = w6.heap.size → w7 = w6.alloc (.cells #[.nilFunc, .nilFunc, .nilFunc, .nilFunc, .nilFunc] 179) → ((w7.cell? (Addr.mk b4 0 none)).isSome = true ∧ w7.frozen? (Addr.mk b4 0 none) = false ∧ ((w7.cell? ((Addr.mk b4 0 none).add 1)).isSome = true ∧ w7.frozen? ((Addr.mk b4 0 none).add 1) = false ∧ ((w7.cell? ((Addr.mk b4 0 none).add 2)).isSome = true ∧ w7.frozen? ((Addr.mk b4 0 none).add 2) = false ∧ ((w7.cell? ((Addr.mk b4 0 none).add 3)).isSome = true ∧ w7.frozen? ((Addr.mk b4 0 none).add 3) = false ∧ ((w7.cell? ((Addr.mk b4 0 none).add 4)).isSome = true ∧ w7.frozen? ((Addr.mk b4 0 none).add 4) = false ∧
 (∀ w8 : World, w8 = ((((w7.setCell (Addr.mk b4 0 none) .nilFunc).setCell ((Addr.mk b4 0 none).add 1) (.func (.func 145) #[] #[.pointer (some (Addr.mk b 0 none)), .pointer (some (Addr.mk b2 0 none)), .pointer (some (Addr.mk b3 0 none))])).setCell ((Addr.mk b4 0 none).add 2) (.func (.func 146) #[] #[.pointer (some (Addr.mk b 0 none)), .pointer (some (Addr.mk b3 0 none))])).setCell ((Addr.mk b4 0 none).add 3) (.func (.func 147) #[] #[.pointer (some (Addr.mk b 0 none)), .pointer (some (Addr.mk b2 0 none)), .pointer (some (Addr.mk b3 0 none))])).setCell ((Addr.mk b4 0 none).add 4) (.func (.func 148) #[] #[.pointer (some (Addr.mk b 0 none)), .pointer (some (Addr.mk b2 0 none)), .pointer (some (Addr.mk b3 0 none))]) →
 (∃ (Jv : Int → Int → World → Prop) (mu : Int → Int → World → Nat), Jv 0 1 w8 ∧ ∀ (jk_ : Nat → Value) (w9 : World), ∀ (s2 kind : Int), Jv s2 kind w9 →
 (cond (decide (kind ≤ 4)) (0 ≤ kind ∧ kind < ((5 : Nat) : Int) ∧
 (∃ (x4f : FuncId) (x4c : List Value), w9.cell? ((Addr.mk b4 0 none).add ((kind).toNat * 1)) = some (.func (.func x4f) #[] x4c.toArray) ∧
 (Cl Tryz.prog x4f (([] : List Value) ++ x4c).toArray w9 fun v2 w10 => ∃ (x5 : Bool), v2 = .bool x5 ∧
 (cond x5 (R (.int .i64 kind) w10) (Jv s2 (IntKind.i64.wrap (kind + 1)) w10 ∧ mu s2 (IntKind.i64.wrap (kind + 1)) w10 < mu s2 kind w9))))) (R (.int .i64 0) w9))))))))))))))))))
theorem c114 (id : Int) {w : World} {R : Value → World → Prop} (hV : V114 id w R) : Cl Tryz.prog 114 #[.int .u64 id] w R :=
 fn_sound hmTryz (TT := []) (f := 114) Tryz.func114 (ent_of Tryz.func114 (by kernel_rfl) rfl) (Eq.mpr (by kernel_rfl) hV)
/-- windrose/lookup.states -/
def V115 (la : Option Addr) (ln lc : Nat) (w : World) (R : Value → World → Prop) : Prop :=
 ∀ (b : Nat) (w1 : World), b = w.heap.size → w1 = w.alloc (.cells #[.slice la ln lc] 25) →
 (∀ (b2 : Nat) (w2 : World), b2 = w1.heap.size → w2 = w1.alloc (.cells #[.int .i64 0, .int .i64 0, .int .i64 0] 152) →
 (∀ (b3 : Nat) (w3 : World), b3 = w2.heap.size → w3 = w2.alloc (.cells #[.int .i64 0, .int .i64 0, .int .i64 0] 152) →
 (∃ (x1a : Option Addr) (x1n x1c : Nat), w3.cell? (Addr.mk b 0 none) = some (.slice x1a x1n x1c) ∧
 (∃ (Jv : Bool → Int → World → Prop) (mu : Bool → Int → World → Nat), Jv false 0 w3 ∧ ∀ (jk_ : Nat → Value) (w4 : World), ∀ (s3 : Bool) (s10 : Int), Jv s3 s10 w4 →
 (cond (decide (s10 < (x1n : Int))) (∃ (x2a : Option Addr) (x2n x2c : Nat), w4.cell? (Addr.mk b 0 none) = some (.slice x2a x2n x2c) ∧
 (∃ p : Addr, x2a = some p ∧ 0 ≤ s10 ∧ s10 < (x2n : Int) ∧
 (∃ (x3 : Int), w4.cell? (p.add ((s10).toNat * 3)) = some (.int .i64 x3) ∧
 (cond (decide (x3 < 0)) (∃ (x4 x5 x6 : Int), w4.cell? (Addr.mk b3 0 none) = some (.int .i64 x4) ∧ w4.cell? ((Addr.mk b3 0 none).add 1) = some (.int .i64 x5) ∧ w4.cell? ((Addr.mk b3 0 none).add 2) = some (.int .i64 x6) ∧ ((w4.cell? (Addr.mk b2 0 none)).isSome = true ∧ w4.frozen? (Addr.mk b2 0 none) = false ∧ ((w4.cell? ((Addr.mk b2 0 none).add 1)).isSome = true ∧ w4.frozen? ((Addr.mk b2 0 none).add 1) = false ∧ ((w4.cell? ((Addr.mk b2 0 none).add 2)).isSome = true ∧ w4.frozen? ((Addr.mk b2 0 none).add 2) = false ∧
 (∀ w5 : World, w5 = ((w4.setCell (Addr.mk b2 0 none) (.int .i64 x4)).setCell ((Addr.mk b2 0 none).add 1) (.int .i64 x5)).setCell ((Addr.mk b2 0 none).add 2) (.int .i64 x6) →
 (∃ (r r2 r3 : Int), w5.cell? (Addr.mk b2 0 none) = some (.int .i64 r) ∧ w5.cell? ((Addr.mk b2 0 none).add 1) = some (.int .i64 r2) ∧ w5.cell? ((Addr.mk b2 0 none).add 2) = some (.int .i64 r3) ∧ (R (.tuple #[.agg #[.int .i64 r, .int .i64 r2, .int .i64 r3], .bool false]) w5)))))))
 (cond (decide (2 < x3)) (∃ (x7 x8 x9 : Int), w4.cell? (Addr.mk b3 0 none) = some (.int .i64 x7) ∧ w4.cell? ((Addr.mk b3 0 none).add 1) = some (.int .i64 x8) ∧ w4.cell? ((Addr.mk b3 0 none).add 2) = some (.int .i64 x9) ∧ ((w4.cell? (Addr.mk b2 0 none)).isSome = true ∧ w4.frozen? (Addr.mk b2 0 none) = false ∧ ((w4.cell? ((Addr.mk b2 0 none).add 1)).isSome = true ∧ w4.frozen? ((Addr.mk b2 0 none).add 1) = false ∧ ((w4.cell? ((Addr.mk b2 0 none).add 2)).isSome = true ∧ w4.frozen? ((Addr.mk b2 0 none).add 2) = false ∧
 (∀ w6 : World, w6 = ((w4.setCell (Addr.mk b2 0 none) (.int .i64 x7)).setCell ((Addr.mk b2 0 none).add 1) (.int .i64 x8)).setCell ((Addr.mk b2 0 none).add 2) (.int .i64 x9) →
 (∃ (r4 r5 r6 : Int), w6.cell? (Addr.mk b2 0 none) = some (.int .i64 r4) ∧ w6.cell? ((Addr.mk b2 0 none).add 1) = some (.int .i64 r5) ∧ w6.cell? ((Addr.mk b2 0 none).add 2) = some (.int .i64 r6) ∧ (R (.tuple #[.agg #[.int .i64 r4, .int .i64 r5, .int .i64 r6], .bool false]) w6))))))) (0 ≤ x3 ∧ x3 < ((3 : Nat) : Int) ∧
 (∃ (x10 : Int), w4.cell? ((Addr.mk b3 0 none).add ((x3).toNat * 1)) = some (.int .i64 x10) ∧ (0 ≤ x3 ∧ x3 < ((3 : Nat) : Int) ∧ ((w4.cell? ((Addr.mk b3 0 none).add ((x3).toNat * 1))).isSome = true ∧ w4.frozen? ((Addr.mk b3 0 none).add ((x3).toNat * 1)) = false ∧
 (∀ w7 : World, w7 = w4.setCell ((Addr.mk b3 0 none).add ((x3).toNat * 1)) (.int .i64 (IntKind.i64.wrap (x10 + 1))) → (Jv s3 (IntKind.i64.wrap (s10 + 1)) w7 ∧ mu s3 (IntKind.i64.wrap (s10 + 1)) w7 < mu s3 s10 w4))))))))))) (∃ (x11 x12 x13 : Int), w4.cell? (Addr.mk b3 0 none) = some (.int .i64 x11) ∧ w4.cell? ((Addr.mk b3 0 none).add 1) = some (.int .i64 x12) ∧ w4.cell? ((Addr.mk b3 0 none).add 2) = some (.int .i64 x13) ∧ ((w4.cell? (Addr.mk b2 0 none)).isSome = true ∧ w4.frozen? (Addr.mk b2 0 none) = false ∧ ((w4.cell? ((Addr.mk b2 0 none).add 1)).isSome = true ∧ w4.frozen? ((Addr.mk b2 0 none).add 1) = false ∧ ((w4.cell? ((Addr.mk b2 0 none).add 2)).isSome = true ∧ w4.frozen? ((Addr.mk b2 0 none).add 2) = false ∧
 (∀ w8 : World, w8 = ((w4.setCell (Addr.mk b2 0 none) (.int .i64 x11)).setCell ((Addr.mk b2 0 none).add 1) (.int .i64 x12)).setCell ((Addr.mk b2 0 none).add 2) (.int .i64 x13) →
 (∃ (r7 r8 r9 : Int), w8.cell? (Addr.mk b2 0 none) = some (.int .i64 r7) ∧ w8.cell? ((Addr.mk b2 0 none).add 1) = some (.int .i64 r8) ∧ w8.cell? ((Addr.mk b2 0 none).add 2) = some (.int .i64 r9) ∧ (R (.tuple #[.agg #[.int .i64 r7, .int .i64 r8, .int .i64 r9], .bool true]) w8))))))))))))
theorem c115 (la : Option Addr) (ln lc : Nat) {w : World} {R : Value → World → Prop} (hV : V115 la ln lc w R) : Cl Tryz.prog 115 #[.agg #[.slice la ln lc]] w R :=
 fn_sound hmTryz (TT := []) (f := 115) Tryz.func115 (ent_of Tryz.func115 (by kernel_rfl) rfl) (Eq.mpr (by kernel_rfl) hV)
/-- slices.Contains[[]windrose/api.Step,windrose/api.Step] -/
def V116 (sa : Option Addr) (sn sc : Nat) (v v2 : Int) (w : World) (R : Value → World → Prop) : Prop :=
 ∀ (b : Nat) (w1 : World), b = w.heap.size → w1 = w.alloc (.cells #[.int .u64 v, .int .i64 v2] 71) →
 (∃ (x1 x2 : Int), w1.cell? (Addr.mk b 0 none) = some (.int .u64 x1) ∧ w1.cell? ((Addr.mk b 0 none).add 1) = some (.int .i64 x2) ∧
 (Cl Tryz.prog 149 #[.slice sa sn sc, .agg #[.int .u64 x1, .int .i64 x2]] w1 fun v3 w2 => ∃ (x3 : Int), v3 = .int .i64 x3 ∧ (R (.bool (decide (0 ≤ x3))) w2)))
theorem c116 (sa : Option Addr) (sn sc : Nat) (v v2 : Int) {w : World} {R : Value → World → Prop} (hV : V116 sa sn sc v v2 w R) : Cl Tryz.prog 116 #[.slice sa sn sc, .agg #[.int .u64 v, .int .i64 v2]] w R :=
 fn_sound hmTryz (TT := []) (f := 116) Tryz.func116 (ent_of Tryz.func116 (by kernel_rfl) rfl) (Eq.mpr (by kernel_rfl) hV)
/-- windrose/types.some$1 -/
def V117 (l : Nat) (cap0 : Addr) (cap1 : Addr) (w : World) (R : Value → World → Prop) : Prop :=
 ∃ (x1a : Option Addr) (x1n x1c : Nat), w.cell? cap0 = some (.slice x1a x1n x1c) ∧
 (Cl Tryz.prog 39 #[.slice x1a x1n x1c] w fun v w1 => ∃ (x2 : Int), v = .int .i64 x2 ∧
 (cond (x2 != 0) (R (.tuple #[]) w1) (∃ (x3a : Option Addr) (x3n x3c : Nat), w1.cell? cap0 = some (.slice x3a x3n x3c) ∧
 (∃ (Jv : Int → World → Prop) (mu : Int → World → Nat), Jv 0 w1 ∧ ∀ (jk_ : Nat → Value) (w2 : World), ∀ (s11 : Int), Jv s11 w2 →
 (cond (decide (s11 < (x3n : Int))) (∃ p : Addr, x3a = some p ∧ 0 ≤ s11 ∧ s11 < (x3n : Int) ∧
 (∃ (x4 : Int), w2.cell? (p.add ((s11).toNat * 1)) = some (.int .u64 x4) ∧
 (∃ (x5f : FuncId) (x5c : List Value), w2.cell? cap1 = some (.func (.func x5f) #[] x5c.toArray) ∧
 (Cl Tryz.prog x5f (([.int .u64 x4] : List Value) ++ x5c).toArray w2 fun v2 w3 => ∃ (x6 : Bool), v2 = .bool x6 ∧
 (cond x6 (Yl Tryz.prog l [.int .u64 x4] w3 fun y w4 => cond (!y) (R (.tuple #[]) w4) (Jv (IntKind.i64.wrap (s11 + 1)) w4 ∧ mu (IntKind.i64.wrap (s11 + 1)) w4 < mu s11 w2)) (Jv (IntKind.i64.wrap (s11 + 1)) w3 ∧ mu (IntKind.i64.wrap (s11 + 1)) w3 < mu s11 w2)))))) (R (.tuple #[]) w2))))))
theorem c117 (l : Nat) (cap0 : Addr) (cap1 : Addr) {w : World} {R : Value → World → Prop} (hV : V117 l cap0 cap1 w R) : Cl Tryz.prog 117 #[.func (.yield l) #[] #[], .pointer (some cap0), .pointer (some cap1)] w R :=
 fn_sound hmTryz (TT := []) (f := 117) Tryz.func117 (ent_of Tryz.func117 (by kernel_rfl) rfl) (Eq.mpr (by kernel_rfl) hV)
/-- windrose/graph.used$1 -/
def V118 (l : Nat) (cap0 : Addr) (w : World) (R : Value → World → Prop) : Prop :=
 ∃ (x1a : Option Addr) (x1n x1c : Nat), w.cell? cap0 = some (.slice x1a x1n x1c) ∧
 (∃ (Jv : Int → World → Prop) (mu : Int → World → Nat), Jv 0 w ∧ ∀ (jk_ : Nat → Value) (w1 : World), ∀ (s8 : Int), Jv s8 w1 →
 (cond (decide (s8 < (x1n : Int))) (∃ (x2a : Option Addr) (x2n x2c : Nat), w1.cell? cap0 = some (.slice x2a x2n x2c) ∧
 (∃ p : Addr, x2a = some p ∧ 0 ≤ s8 ∧ s8 < (x2n : Int) ∧
 (∃ (x3 : Bool) (x4a : Option Addr) (x4n x4c : Nat) (x5a : Option Addr) (x5n x5c : Nat) (x6a : Option Addr) (x6n x6c : Nat), w1.cell? (p.add ((s8).toNat * 4)) = some (.bool x3) ∧ w1.cell? ((p.add ((s8).toNat * 4)).add 1) = some (.slice x4a x4n x4c) ∧ w1.cell? ((p.add ((s8).toNat * 4)).add 2) = some (.slice x5a x5n x5c) ∧ w1.cell? ((p.add ((s8).toNat * 4)).add 3) = some (.slice x6a x6n x6c) ∧
 (∀ (b : Nat) (w2 : World), b = w1.heap.size → w2 = w1.alloc (.cells #[.bool false, .slice none 0 0, .slice none 0 0, .slice none 0 0] 56) → ((w2.cell? (Addr.mk b 0 none)).isSome = true ∧ w2.frozen? (Addr.mk b 0 none) = false ∧ ((w2.cell? ((Addr.mk b 0 none).add 1)).isSome = true ∧ w2.frozen? ((Addr.mk b 0 none).add 1) = false ∧ ((w2.cell? ((Addr.mk b 0 none).add 2)).isSome = true ∧ w2.frozen? ((Addr.mk b 0 none).add 2) = false ∧ ((w2.cell? ((Addr.mk b 0 none).add 3)).isSome = true ∧ w2.frozen? ((Addr.mk b 0 none).add 3) = false ∧
 (∀ w3 : World, w3 = (((w2.setCell (Addr.mk b 0 none) (.bool x3)).setCell ((Addr.mk b 0 none).add 1) (.slice x4a x4n x4c)).setCell ((Addr.mk b 0 none).add 2) (.slice x5a x5n x5c)).setCell ((Addr.mk b 0 none).add 3) (.slice x6a x6n x6c) →
 (∃ (x7 : Bool), w3.cell? (Addr.mk b 0 none) = some (.bool x7) ∧
 (cond x7 (∃ (x8 : Bool) (x9a : Option Addr) (x9n x9c : Nat) (x10a : Option Addr) (x10n x10c : Nat) (x11a : Option Addr) (x11n x11c : Nat), w3.cell? (Addr.mk b 0 none) = some (.bool x8) ∧ w3.cell? ((Addr.mk b 0 none).add 1) = some (.slice x9a x9n x9c) ∧ w3.cell? ((Addr.mk b 0 none).add 2) = some (.slice x10a x10n x10c) ∧ w3.cell? ((Addr.mk b 0 none).add 3) = some (.slice x11a x11n x11c) ∧ (Yl Tryz.prog l [.int .i64 (IntKind.i64.wrap (s8 + 1)), .agg #[.bool x8, .slice x9a x9n x9c, .slice x10a x10n x10c, .slice x11a x11n x11c]] w3 fun y w4 => cond (!y) (R (.tuple #[]) w4) (Jv (IntKind.i64.wrap (s8 + 1)) w4 ∧ mu (IntKind.i64.wrap (s8 + 1)) w4 < mu s8 w1))) (Jv (IntKind.i64.wrap (s8 + 1)) w3 ∧ mu (IntKind.i64.wrap (s8 + 1)) w3 < mu s8 w1)))))))))))) (R (.tuple #[]) w1)))
theorem c118 (l : Nat) (cap0 : Addr) {w : World} {R : Value → World → Prop} (hV : V118 l cap0 w R) : Cl Tryz.prog 118 #[.func (.yield l) #[] #[], .pointer (some cap0)] w R :=
 fn_sound hmTryz (TT := []) (f := 118) Tryz.func118 (ent_of Tryz.func118 (by kernel_rfl) rfl) (Eq.mpr (by kernel_rfl) hV)
/-- windrose/lookup.used -/
def V119 (la : Option Addr) (ln lc : Nat) (w : World) (R : Value → World → Prop) : Prop :=
 ∀ (b : Nat) (w1 : World), b = w.heap.size → w1 = w.alloc (.cells #[.slice la ln lc] 25) →
 (∃ (x1a : Option Addr) (x1n x1c : Nat), w1.cell? (Addr.mk b 0 none) = some (.slice x1a x1n x1c) ∧
 (Cl Tryz.prog 150 #[.slice x1a x1n x1c, .func (.func 151) #[] #[]] w1 fun v w2 => ∃ (x2a : Option Addr) (x2n x2c : Nat), v = .slice x2a x2n x2c ∧
 (Cl Tryz.prog 152 #[.slice x2a x2n x2c, .func (.func 153) #[] #[]] w2 fun v2 w3 => ∃ (x3a : Option Addr) (x3n x3c : Nat), v2 = .slice x3a x3n x3c ∧
 (∃ (Jv : Int → World → Prop) (mu : Int → World → Nat), Jv 0 w3 ∧ ∀ (jk_ : Nat → Value) (w4 : World), ∀ (s12 : Int), Jv s12 w4 →
 (cond (decide (s12 < (x3n : Int))) (∃ p : Addr, x3a = some p ∧ 0 ≤ s12 ∧ s12 < (x3n : Int) ∧
 (∃ (x4a : Option Addr) (x4n x4c : Nat), w4.cell? ((p.add ((s12).toNat * 3)).add 1) = some (.slice x4a x4n x4c) ∧
 (Cl Tryz.prog 10 #[.slice x4a x4n x4c] w4 fun v3 w5 => ∃ (x5a : Option Addr) (x5n x5c : Nat), v3 = .slice x5a x5n x5c ∧
 (∃ p2 : Addr, x3a = some p2 ∧ 0 ≤ s12 ∧ s12 < (x3n : Int) ∧ ((w5.cell? ((p2.add ((s12).toNat * 3)).add 1)).isSome = true ∧ w5.frozen? ((p2.add ((s12).toNat * 3)).add 1) = false ∧
 (∀ w6 : World, w6 = w5.setCell ((p2.add ((s12).toNat * 3)).add 1) (.slice x5a x5n x5c) → (Jv (IntKind.i64.wrap (s12 + 1)) w6 ∧ mu (IntKind.i64.wrap (s12 + 1)) w6 < mu s12 w4))))))) (R (.slice x3a x3n x3c) w4))))))
theorem c119 (la : Option Addr) (ln lc : Nat) {w : World} {R : Value → World → Prop} (hV : V119 la ln lc w R) : Cl Tryz.prog 119 #[.agg #[.slice la ln lc]] w R :=
 fn_sound hmTryz (TT := []) (f := 119) Tryz.func119 (ent_of Tryz.func119 (by kernel_rfl) rfl) (Eq.mpr (by kernel_rfl) hV)
/-- windrose/lookup.laid -/
def V120 (la : Option Addr) (ln lc : Nat) (many : Int) (w : World) (R : Value → World → Prop) : Prop :=
 ∀ (b : Nat) (w1 : World), b = w.heap.size → w1 = w.alloc (.cells #[.slice none 0 0] 25) →
 (∃ (x1a : Option Addr) (x1n x1c : Nat) (w2 : World), Sem.run Tryz.prog (Instr.makeSlice 23 (.int .i64 many) (.int .i64 many)) w1 = .ok (.slice x1a x1n x1c) w2 ∧
 (∀ (b2 : Nat) (w3 : World), b2 = w2.heap.size → w3 = w2.alloc (.cells #[.slice none 0 0] 25) → ((w3.cell? (Addr.mk b2 0 none)).isSome = true ∧ w3.frozen? (Addr.mk b2 0 none) = false ∧
 (∀ w4 : World, w4 = w3.setCell (Addr.mk b2 0 none) (.slice x1a x1n x1c) →
 (∃ (Jv : Int → World → Prop) (mu : Int → World → Nat), Jv 0 w4 ∧ ∀ (jk_ : Nat → Value) (w5 : World), ∀ (s15 : Int), Jv s15 w5 →
 (cond (decide (s15 < (ln : Int))) (∃ p : Addr, la = some p ∧ 0 ≤ s15 ∧ s15 < (ln : Int) ∧
 (∃ (x2 : Int) (x3a : Option Addr) (x3n x3c : Nat) (x4 : Int), w5.cell? (p.add ((s15).toNat * 3)) = some (.int .i64 x2) ∧ w5.cell? ((p.add ((s15).toNat * 3)).add 1) = some (.slice x3a x3n x3c) ∧ w5.cell? ((p.add ((s15).toNat * 3)).add 2) = some (.int .i64 x4) ∧
 (∀ (b3 : Nat) (w6 : World), b3 = w5.heap.size → w6 = w5.alloc (.cells #[.int .i64 0, .slice none 0 0, .int .i64 0] 94) → ((w6.cell? (Addr.mk b3 0 none)).isSome = true ∧ w6.frozen? (Addr.mk b3 0 none) = false ∧ ((w6.cell? ((Addr.mk b3 0 none).add 1)).isSome = true ∧ w6.frozen? ((Addr.mk b3 0 none).add 1) = false ∧ ((w6.cell? ((Addr.mk b3 0 none).add 2)).isSome = true ∧ w6.frozen? ((Addr.mk b3 0 none).add 2) = false ∧
 (∀ w7 : World, w7 = ((w6.setCell (Addr.mk b3 0 none) (.int .i64 x2)).setCell ((Addr.mk b3 0 none).add 1) (.slice x3a x3n x3c)).setCell ((Addr.mk b3 0 none).add 2) (.int .i64 x4) →
 (∃ (x5 : Int) (x6a : Option Addr) (x6n x6c : Nat) (x7 : Int), w7.cell? (Addr.mk b3 0 none) = some (.int .i64 x5) ∧ w7.cell? ((Addr.mk b3 0 none).add 1) = some (.slice x6a x6n x6c) ∧ w7.cell? ((Addr.mk b3 0 none).add 2) = some (.int .i64 x7) ∧
 (Cl Tryz.prog 154 #[.agg #[.int .i64 x5, .slice x6a x6n x6c, .int .i64 x7], .pointer (some (Addr.mk b2 0 none))] w7 fun v w8 => v = undef ∧ (Jv (IntKind.i64.wrap (s15 + 1)) w8 ∧ mu (IntKind.i64.wrap (s15 + 1)) w8 < mu s15 w5)))))))))) (∃ (x8a : Option Addr) (x8n x8c : Nat), w5.cell? (Addr.mk b2 0 none) = some (.slice x8a x8n x8c) ∧ ((w5.cell? (Addr.mk b 0 none)).isSome = true ∧ w5.frozen? (Addr.mk b 0 none) = false ∧
 (∀ w9 : World, w9 = w5.setCell (Addr.mk b 0 none) (.slice x8a x8n x8c) →
 (∃ (ra : Option Addr) (rn rc : Nat), w9.cell? (Addr.mk b 0 none) = some (.slice ra rn rc) ∧ (R (.agg #[.slice ra rn rc]) w9)))))))))))
theorem c120 (la : Option Addr) (ln lc : Nat) (many : Int) {w : World} {R : Value → World → Prop} (hV : V120 la ln lc many w R) : Cl Tryz.prog 120 #[.slice la ln lc, .int .i64 many] w R :=
 fn_sound hmTryz (TT := []) (f := 120) Tryz.func120 (ent_of Tryz.func120 (by kernel_rfl) rfl) (Eq.mpr (by kernel_rfl) hV)
/-- cmp.isNaN[windrose/api.Id] -/
def V131 (x1 : Int) (w : World) (R : Value → World → Prop) : Prop :=
 R (.bool (x1 != x1)) w
theorem c131 (x1 : Int) {w : World} {R : Value → World → Prop} (hV : V131 x1 w R) : Cl Tryz.prog 131 #[.int .u64 x1] w R :=
 fn_sound hmTryz (TT := []) (f := 131) Tryz.func131 (ent_of Tryz.func131 (by kernel_rfl) rfl) (Eq.mpr (by kernel_rfl) hV)
/-- cmp.Less[windrose/api.Id] -/
def V138 (x1 y : Int) (w : World) (R : Value → World → Prop) : Prop :=
 Cl Tryz.prog 131 #[.int .u64 x1] w fun v w1 => ∃ (x2 : Bool), v = .bool x2 ∧
 (cond x2
 (Cl Tryz.prog 131 #[.int .u64 y] w1 fun v2 w2 => ∃ (x3 : Bool), v2 = .bool x3 ∧
 (cond (!x3) (R (.bool true) w2) (R (.bool (decide (x1 < y))) w2))) (R (.bool (decide (x1 < y))) w1))
theorem c138 (x1 y : Int) {w : World} {R : Value → World → Prop} (hV : V138 x1 y w R) : Cl Tryz.prog 138 #[.int .u64 x1, .int .u64 y] w R :=
 fn_sound hmTryz (TT := []) (f := 138) Tryz.func138 (ent_of Tryz.func138 (by kernel_rfl) rfl) (Eq.mpr (by kernel_rfl) hV)
/-- slices.isNaN[windrose/api.Id] -/
def V139 (x1 : Int) (w : World) (R : Value → World → Prop) : Prop :=
 R (.bool (x1 != x1)) w
theorem c139 (x1 : Int) {w : World} {R : Value → World → Prop} (hV : V139 x1 w R) : Cl Tryz.prog 139 #[.int .u64 x1] w R :=
 fn_sound hmTryz (TT := []) (f := 139) Tryz.func139 (ent_of Tryz.func139 (by kernel_rfl) rfl) (Eq.mpr (by kernel_rfl) hV)
/-- windrose/lookup.turns -/
def V143 (la : Option Addr) (ln lc : Nat) (ta : Option Addr) (tn tc : Nat) (w : World) (R : Value → World → Prop) : Prop :=
 ∀ (b : Nat) (w1 : World), b = w.heap.size → w1 = w.alloc (.cells #[.slice la ln lc] 25) →
 (∀ (b2 : Nat) (w2 : World), b2 = w1.heap.size → w2 = w1.alloc (.cells #[.slice ta tn tc] 33) → (R (.func (.func 162) #[] #[.pointer (some (Addr.mk b2 0 none)), .pointer (some (Addr.mk b 0 none))]) w2))
theorem c143 (la : Option Addr) (ln lc : Nat) (ta : Option Addr) (tn tc : Nat) {w : World} {R : Value → World → Prop} (hV : V143 la ln lc ta tn tc w R) : Cl Tryz.prog 143 #[.agg #[.slice la ln lc], .slice ta tn tc] w R :=
 fn_sound hmTryz (TT := []) (f := 143) Tryz.func143 (ent_of Tryz.func143 (by kernel_rfl) rfl) (Eq.mpr (by kernel_rfl) hV)
/-- windrose/ident.halves -/
def V144 (id : Int) (w : World) (R : Value → World → Prop) : Prop :=
 R (.tuple #[.int .i64 (IntKind.i64.wrap (band .u64 (bshr .u64 id 32) 1073741823)), .int .i64 (IntKind.i64.wrap (band .u64 id 1073741823))]) w
theorem c144 (id : Int) {w : World} {R : Value → World → Prop} (hV : V144 id w R) : Cl Tryz.prog 144 #[.int .u64 id] w R :=
 fn_sound hmTryz (TT := []) (f := 144) Tryz.func144 (ent_of Tryz.func144 (by kernel_rfl) rfl) (Eq.mpr (by kernel_rfl) hV)
/-- windrose/ident.Kind$1 -/
def V145 (cap0 : Addr) (cap1 : Addr) (cap2 : Addr) (w : World) (R : Value → World → Prop) : Prop :=
 ∀ w1 : World, w1 = w.drew →
 (∃ (x1 : Int), w1.cell? cap0 = some (.int .u64 x1) ∧
 (∃ (x2 : Int), w1.cell? cap1 = some (.int .i64 x2) ∧
 (∃ (x3 : Int), w1.cell? cap2 = some (.int .i64 x3) ∧
 (Cl Tryz.prog 96 #[.int .u64 0, .int .i64 x2, .int .i64 x3] w1 fun v w2 => ∃ (x4 : Int), v = .int .u64 x4 ∧ (w2.cell? cap0 = some (.int .u64 x1) ∧
 (cond (x1 == x4) (∃ (x5 : Int), w2.cell? cap2 = some (.int .i64 x5) ∧
 (∀ (b : Nat) (w3 : World), b = w2.heap.size → w3 = w2.alloc (.cells #[.int .i64 x5] 3) →
 (Cl Tryz.prog 95 #[.int .i64 1, .int .i64 1048578, .slice (some (Addr.mk b 0 none)) 1 1] w3 fun v2 w4 => ∃ (x6 : Bool), v2 = .bool x6 ∧
 (cond x6 (∃ (x7 : Int), w4.cell? cap1 = some (.int .i64 x7) ∧
 (∀ (b2 : Nat) (w5 : World), b2 = w4.heap.size → w5 = w4.alloc (.cells #[.int .i64 x7] 3) →
 (Cl Tryz.prog 95 #[.int .i64 0, .int .i64 7, .slice (some (Addr.mk b2 0 none)) 1 1] w5 fun v3 w6 => ∃ (x8 : Bool), v3 = .bool x8 ∧ (R (.bool x8) w6)))) (R (.bool false) w4))))) (R (.bool false) w2)))))))
theorem c145 (cap0 : Addr) (cap1 : Addr) (cap2 : Addr) {w : World} {R : Value → World → Prop} (hV : V145 cap0 cap1 cap2 w R) : Cl Tryz.prog 145 #[.pointer (some cap0), .pointer (some cap1), .pointer (some cap2)] w R :=
 fn_sound hmTryz (TT := []) (f := 145) Tryz.func145 (ent_of Tryz.func145 (by kernel_rfl) rfl) (Eq.mpr (by kernel_rfl) hV)
/-- windrose/ident.Kind$2 -/
def V146 (cap0 : Addr) (cap1 : Addr) (w : World) (R : Value → World → Prop) : Prop :=
 ∀ w1 : World, w1 = w.drew →
 (∃ (x1 : Int), w1.cell? cap0 = some (.int .u64 x1) ∧
 (∃ (x2 : Int), w1.cell? cap1 = some (.int .i64 x2) ∧
 (Cl Tryz.prog 96 #[.int .u64 4611686018427387904, .int .i64 0, .int .i64 x2] w1 fun v w2 => ∃ (x3 : Int), v = .int .u64 x3 ∧ (w2.cell? cap0 = some (.int .u64 x1) ∧
 (cond (x1 == x3) (∃ (x4 : Int), w2.cell? cap1 = some (.int .i64 x4) ∧
 (∀ (b : Nat) (w3 : World), b = w2.heap.size → w3 = w2.alloc (.cells #[.int .i64 x4] 3) →
 (Cl Tryz.prog 95 #[.int .i64 1, .int .i64 24, .slice (some (Addr.mk b 0 none)) 1 1] w3 fun v2 w4 => ∃ (x5 : Bool), v2 = .bool x5 ∧ (R (.bool x5) w4)))) (R (.bool false) w2))))))
theorem c146 (cap0 : Addr) (cap1 : Addr) {w : World} {R : Value → World → Prop} (hV : V146 cap0 cap1 w R) : Cl Tryz.prog 146 #[.pointer (some cap0), .pointer (some cap1)] w R :=
 fn_sound hmTryz (TT := []) (f := 146) Tryz.func146 (ent_of Tryz.func146 (by kernel_rfl) rfl) (Eq.mpr (by kernel_rfl) hV)
/-- windrose/ident.Kind$3 -/
def V147 (cap0 : Addr) (cap1 : Addr) (cap2 : Addr) (w : World) (R : Value → World → Prop) : Prop :=
 ∀ w1 : World, w1 = w.drew →
 (∃ (x1 : Int), w1.cell? cap0 = some (.int .u64 x1) ∧
 (∃ (x2 : Int), w1.cell? cap1 = some (.int .i64 x2) ∧
 (∃ (x3 : Int), w1.cell? cap2 = some (.int .i64 x3) ∧
 (Cl Tryz.prog 96 #[.int .u64 9223372036854775808, .int .i64 x2, .int .i64 x3] w1 fun v w2 => ∃ (x4 : Int), v = .int .u64 x4 ∧ (w2.cell? cap0 = some (.int .u64 x1) ∧
 (cond (x1 == x4) (∃ (x5 : Int), w2.cell? cap1 = some (.int .i64 x5) ∧
 (∃ (x6 : Int), w2.cell? cap2 = some (.int .i64 x6) ∧
 (∀ (b : Nat) (w3 : World), b = w2.heap.size → w3 = w2.alloc (.cells #[.int .i64 x5, .int .i64 x6] 3) →
 (Cl Tryz.prog 95 #[.int .i64 1, .int .i64 1048578, .slice (some (Addr.mk b 0 none)) 2 2] w3 fun v2 w4 => ∃ (x7 : Bool), v2 = .bool x7 ∧ (R (.bool x7) w4))))) (R (.bool false) w2)))))))
theorem c147 (cap0 : Addr) (cap1 : Addr) (cap2 : Addr) {w : World} {R : Value → World → Prop} (hV : V147 cap0 cap1 cap2 w R) : Cl Tryz.prog 147 #[.pointer (some cap0), .pointer (some cap1), .pointer (some cap2)] w R :=
 fn_sound hmTryz (TT := []) (f := 147) Tryz.func147 (ent_of Tryz.func147 (by kernel_rfl) rfl) (Eq.mpr (by kernel_rfl) hV)
end Go.Eng
namespace Go.Eng
open Go Go.Proofs
set_option maxRecDepth 100000
set_option maxHeartbeats 4000000
/-- windrose/ident.Kind$4 -/
def V148 (cap0 : Addr) (cap1 : Addr) (cap2 : Addr) (w : World) (R : Value → World → Prop) : Prop :=
 ∀ w1 : World, w1 = w.drew →
 (∃ (x1 : Int), w1.cell? cap0 = some (.int .u64 x1) ∧
 (∃ (x2 : Int), w1.cell? cap1 = some (.int .i64 x2) ∧
 (∃ (x3 : Int), w1.cell? cap2 = some (.int .i64 x3) ∧
 (Cl Tryz.prog 96 #[.int .u64 9223372036854775808, .int .i64 x2, .int .i64 x3] w1 fun v w2 => ∃ (x4 : Int), v = .int .u64 x4 ∧ (w2.cell? cap0 = some (.int .u64 x1) ∧
 (cond (x1 == x4) (∃ (x5 : Int), w2.cell? cap1 = some (.int .i64 x5) ∧
 (∃ (x6 : Int), w2.cell? cap2 = some (.int .i64 x6) ∧
 (∀ (b : Nat) (w3 : World), b = w2.heap.size → w3 = w2.alloc (.cells #[.int .i64 x5, .int .i64 x6] 3) →
 (Cl Tryz.prog 95 #[.int .i64 0, .int .i64 1048578, .slice (some (Addr.mk b 0 none)) 2 2] w3 fun v2 w4 => ∃ (x7 : Bool), v2 = .bool x7 ∧ (R (.bool x7) w4))))) (R (.bool false) w2)))))))
theorem c148 (cap0 : Addr) (cap1 : Addr) (cap2 : Addr) {w : World} {R : Value → World → Prop} (hV : V148 cap0 cap1 cap2 w R) : Cl Tryz.prog 148 #[.pointer (some cap0), .pointer (some cap1), .pointer (some cap2)] w R :=
 fn_sound hmTryz (TT := []) (f := 148) Tryz.func148 (ent_of Tryz.func148 (by kernel_rfl) rfl) (Eq.mpr (by kernel_rfl) hV)
/-- slices.Index[[]windrose/api.Step,windrose/api.Step] -/
def V149 (sa : Option Addr) (sn sc : Nat) (v v2 : Int) (w : World) (R : Value → World → Prop) : Prop :=
 ∀ (b : Nat) (w1 : World), b = w.heap.size → w1 = w.alloc (.cells #[.int .u64 v, .int .i64 v2] 71) →
 (∃ (Jv : Int → Int → World → Prop) (mu : Int → Int → World → Nat), Jv 0 0 w1 ∧ ∀ (jk_ : Nat → Value) (w2 : World), ∀ (s4 s8 : Int), Jv s4 s8 w2 →
 (cond (decide (s8 < (sn : Int))) (∀ w3 : World, w3 = w2.drew →
 (∃ (x1 x2 : Int), w3.cell? (Addr.mk b 0 none) = some (.int .u64 x1) ∧ w3.cell? ((Addr.mk b 0 none).add 1) = some (.int .i64 x2) ∧
 (∃ p : Addr, sa = some p ∧ 0 ≤ s8 ∧ s8 < (sn : Int) ∧
 (∃ (x3 x4 : Int), w3.cell? (p.add ((s8).toNat * 2)) = some (.int .u64 x3) ∧ w3.cell? ((p.add ((s8).toNat * 2)).add 1) = some (.int .i64 x4) ∧
 (∃ eq : Bool, binRun Tryz.prog .eql 71 (.tmp 11) (.tmp 15) (.agg #[.int .u64 x1, .int .i64 x2]) (.agg #[.int .u64 x3, .int .i64 x4]) (.bool eq) w3 ∧
 (cond eq (R (.int .i64 s8) w3) (Jv s4 (IntKind.i64.wrap (s8 + 1)) w3 ∧ mu s4 (IntKind.i64.wrap (s8 + 1)) w3 < mu s4 s8 w2))))))) (R (.int .i64 (-1)) w2)))
theorem c149 (sa : Option Addr) (sn sc : Nat) (v v2 : Int) {w : World} {R : Value → World → Prop} (hV : V149 sa sn sc v v2 w R) : Cl Tryz.prog 149 #[.slice sa sn sc, .agg #[.int .u64 v, .int .i64 v2]] w R :=
 fn_sound hmTryz (TT := []) (f := 149) Tryz.func149 (ent_of Tryz.func149 (by kernel_rfl) rfl) (Eq.mpr (by kernel_rfl) hV)
/-- windrose/lookup.sorted[windrose/api.Entry] -/
def V150 (la : Option Addr) (ln lc : Nat) (comparef : FuncId) (comparec : List Value) (w : World) (R : Value → World → Prop) : Prop :=
 ∃ (x1a : Option Addr) (x1n x1c : Nat) (w1 : World), Sem.run Tryz.prog (Instr.makeSlice 23 (.int .i64 (ln : Int)) (.int .i64 (ln : Int))) w = .ok (.slice x1a x1n x1c) w1 ∧
 (∃ (n : Int) (w2 : World), Sem.run Tryz.prog (Builtin.copy_ #[23, 23] 3 #[.slice x1a x1n x1c, .slice la ln lc]) w1 = .ok (.int .i64 n) w2 ∧
 (Cl Tryz.prog 165 #[.slice x1a x1n x1c, .func (.func comparef) #[] comparec.toArray] w2 fun v w3 => v = undef ∧ (R (.slice x1a x1n x1c) w3)))
theorem c150 (la : Option Addr) (ln lc : Nat) (comparef : FuncId) (comparec : List Value) {w : World} {R : Value → World → Prop} (hV : V150 la ln lc comparef comparec w R) : Cl Tryz.prog 150 #[.slice la ln lc, .func (.func comparef) #[] comparec.toArray] w R :=
 fn_sound hmTryz (TT := []) (f := 150) Tryz.func150 (ent_of Tryz.func150 (by kernel_rfl) rfl) (Eq.mpr (by kernel_rfl) hV)
/-- windrose/lookup.used$1 -/
def V151 (a : Int) (a2a : Option Addr) (a2n a2c : Nat) (a3 b : Int) (b2a : Option Addr) (b2n b2c : Nat) (b3 : Int) (w : World) (R : Value → World → Prop) : Prop :=
 ∀ (b4 : Nat) (w1 : World), b4 = w.heap.size → w1 = w.alloc (.cells #[.int .i64 a, .slice a2a a2n a2c, .int .i64 a3] 94) →
 (∀ (b5 : Nat) (w2 : World), b5 = w1.heap.size → w2 = w1.alloc (.cells #[.int .i64 b, .slice b2a b2n b2c, .int .i64 b3] 94) →
 (∃ (x1a : Option Addr) (x1n x1c : Nat), w2.cell? ((Addr.mk b4 0 none).add 1) = some (.slice x1a x1n x1c) ∧
 (∃ (x2a : Option Addr) (x2n x2c : Nat), w2.cell? ((Addr.mk b5 0 none).add 1) = some (.slice x2a x2n x2c) ∧
 (Cl Tryz.prog 41 #[.slice x1a x1n x1c, .slice x2a x2n x2c] w2 fun v w3 => ∃ (x3 : Int), v = .int .i64 x3 ∧ (R (.int .i64 x3) w3)))))
theorem c151 (a : Int) (a2a : Option Addr) (a2n a2c : Nat) (a3 b : Int) (b2a : Option Addr) (b2n b2c : Nat) (b3 : Int) {w : World} {R : Value → World → Prop} (hV : V151 a a2a a2n a2c a3 b b2a b2n b2c b3 w R) : Cl Tryz.prog 151 #[.agg #[.int .i64 a, .slice a2a a2n a2c, .int .i64 a3], .agg #[.int .i64 b, .slice b2a b2n b2c, .int .i64 b3]] w R :=
 fn_sound hmTryz (TT := []) (f := 151) Tryz.func151 (ent_of Tryz.func151 (by kernel_rfl) rfl) (Eq.mpr (by kernel_rfl) hV)
/-- slices.DeleteFunc[[]windrose/api.Entry,windrose/api.Entry] -/
def V152 (sa : Option Addr) (sn sc : Nat) (delf : FuncId) (delc : List Value) (w : World) (R : Value → World → Prop) : Prop :=
 Cl Tryz.prog 166 #[.slice sa sn sc, .func (.func delf) #[] delc.toArray] w fun v w1 => ∃ (x1 : Int), v = .int .i64 x1 ∧
 (cond (x1 == (-1)) (R (.slice sa sn sc) w1) (∃ (Jv : Int → Int → World → Prop) (mu : Int → Int → World → Nat), Jv x1 (IntKind.i64.wrap (x1 + 1)) w1 ∧ ∀ (jk_ : Nat → Value) (w2 : World), ∀ (i j : Int), Jv i j w2 →
 (cond (decide (j < (sn : Int))) (∃ p : Addr, sa = some p ∧ 0 ≤ j ∧ j < (sn : Int) ∧
 (∃ (x2 : Int) (x3a : Option Addr) (x3n x3c : Nat) (x4 : Int), w2.cell? (p.add ((j).toNat * 3)) = some (.int .i64 x2) ∧ w2.cell? ((p.add ((j).toNat * 3)).add 1) = some (.slice x3a x3n x3c) ∧ w2.cell? ((p.add ((j).toNat * 3)).add 2) = some (.int .i64 x4) ∧
 (∀ (b : Nat) (w3 : World), b = w2.heap.size → w3 = w2.alloc (.cells #[.int .i64 0, .slice none 0 0, .int .i64 0] 94) → ((w3.cell? (Addr.mk b 0 none)).isSome = true ∧ w3.frozen? (Addr.mk b 0 none) = false ∧ ((w3.cell? ((Addr.mk b 0 none).add 1)).isSome = true ∧ w3.frozen? ((Addr.mk b 0 none).add 1) = false ∧ ((w3.cell? ((Addr.mk b 0 none).add 2)).isSome = true ∧ w3.frozen? ((Addr.mk b 0 none).add 2) = false ∧
 (∀ w4 : World, w4 = ((w3.setCell (Addr.mk b 0 none) (.int .i64 x2)).setCell ((Addr.mk b 0 none).add 1) (.slice x3a x3n x3c)).setCell ((Addr.mk b 0 none).add 2) (.int .i64 x4) →
 (∃ (x5 : Int) (x6a : Option Addr) (x6n x6c : Nat) (x7 : Int), w4.cell? (Addr.mk b 0 none) = some (.int .i64 x5) ∧ w4.cell? ((Addr.mk b 0 none).add 1) = some (.slice x6a x6n x6c) ∧ w4.cell? ((Addr.mk b 0 none).add 2) = some (.int .i64 x7) ∧
 (Cl Tryz.prog delf (([.agg #[.int .i64 x5, .slice x6a x6n x6c, .int .i64 x7]] : List Value) ++ delc).toArray w4 fun v2 w5 => ∃ (x8 : Bool), v2 = .bool x8 ∧
 (cond (!x8) (∃ (x9 : Int) (x10a : Option Addr) (x10n x10c : Nat) (x11 : Int), w5.cell? (Addr.mk b 0 none) = some (.int .i64 x9) ∧ w5.cell? ((Addr.mk b 0 none).add 1) = some (.slice x10a x10n x10c) ∧ w5.cell? ((Addr.mk b 0 none).add 2) = some (.int .i64 x11) ∧
 (∃ p2 : Addr, sa = some p2 ∧ 0 ≤ i ∧ i < (sn : Int) ∧ ((w5.cell? (p2.add ((i).toNat * 3))).isSome = true ∧ w5.frozen? (p2.add ((i).toNat * 3)) = false ∧ ((w5.cell? ((p2.add ((i).toNat * 3)).add 1)).isSome = true ∧ w5.frozen? ((p2.add ((i).toNat * 3)).add 1) = false ∧ ((w5.cell? ((p2.add ((i).toNat * 3)).add 2)).isSome = true ∧ w5.frozen? ((p2.add ((i).toNat * 3)).add 2) = false ∧
 (∀ w6 : World, w6 = ((w5.setCell (p2.add ((i).toNat * 3)) (.int .i64 x9)).setCell ((p2.add ((i).toNat * 3)).add 1) (.slice x10a x10n x10c)).setCell ((p2.add ((i).toNat * 3)).add 2) (.int .i64 x11) → (Jv (IntKind.i64.wrap (i + 1)) (IntKind.i64.wrap (j + 1)) w6 ∧ mu (IntKind.i64.wrap (i + 1)) (IntKind.i64.wrap (j + 1)) w6 < mu i j w2))))))) (Jv i (IntKind.i64.wrap (j + 1)) w5 ∧ mu i (IntKind.i64.wrap (j + 1)) w5 < mu i j w2))))))))))) (0 ≤ i ∧ i ≤ (sn : Int) ∧
 (∃ (w7 : World), Sem.run Tryz.prog (Builtin.clear_ #[23] 0 #[.slice (offA sa (((sc : Int)).toNat) ((i).toNat) 3) (((sn : Int)).toNat - (i).toNat) (((sc : Int)).toNat - (i).toNat)]) w2 = .ok (.tuple #[]) w7 ∧ (0 ≤ i ∧ i ≤ (sc : Int) ∧ (R (.slice sa ((i).toNat) (((sc : Int)).toNat)) w7)))))))
theorem c152 (sa : Option Addr) (sn sc : Nat) (delf : FuncId) (delc : List Value) {w : World} {R : Value → World → Prop} (hV : V152 sa sn sc delf delc w R) : Cl Tryz.prog 152 #[.slice sa sn sc, .func (.func delf) #[] delc.toArray] w R :=
 fn_sound hmTryz (TT := []) (f := 152) Tryz.func152 (ent_of Tryz.func152 (by kernel_rfl) rfl) (Eq.mpr (by kernel_rfl) hV)
/-- windrose/lookup.used$2 -/
def V153 (x1 : Int) (x2a : Option Addr) (x2n x2c : Nat) (x3 : Int) (w : World) (R : Value → World → Prop) : Prop :=
 ∀ (b : Nat) (w1 : World), b = w.heap.size → w1 = w.alloc (.cells #[.int .i64 x1, .slice x2a x2n x2c, .int .i64 x3] 94) →
 (∃ (x4 : Int), w1.cell? (Addr.mk b 0 none) = some (.int .i64 x4) ∧ (R (.bool (x4 != 1)) w1))
theorem c153 (x1 : Int) (x2a : Option Addr) (x2n x2c : Nat) (x3 : Int) {w : World} {R : Value → World → Prop} (hV : V153 x1 x2a x2n x2c x3 w R) : Cl Tryz.prog 153 #[.agg #[.int .i64 x1, .slice x2a x2n x2c, .int .i64 x3]] w R :=
 fn_sound hmTryz (TT := []) (f := 153) Tryz.func153 (ent_of Tryz.func153 (by kernel_rfl) rfl) (Eq.mpr (by kernel_rfl) hV)
/-- windrose/lookup.laid$1 -/
def V154 (x1 : Int) (x2a : Option Addr) (x2n x2c : Nat) (x3 : Int) (cap0 : Addr) (w : World) (R : Value → World → Prop) : Prop :=
 ∀ (b : Nat) (w1 : World), b = w.heap.size → w1 = w.alloc (.cells #[.int .i64 x1, .slice x2a x2n x2c, .int .i64 x3] 94) →
 (∃ (x4a : Option Addr) (x4n x4c : Nat), w1.cell? cap0 = some (.slice x4a x4n x4c) ∧
 (∃ (x5a : Option Addr) (x5n x5c : Nat), w1.cell? ((Addr.mk b 0 none).add 1) = some (.slice x5a x5n x5c) ∧
 (Cl Tryz.prog 143 #[.agg #[.slice x4a x4n x4c], .slice x5a x5n x5c] w1 fun v w2 => ∃ (x6f : FuncId) (x6c : List Value), v = .func (.func x6f) #[] x6c.toArray ∧
 (∃ (xs : List (List Value)) (Kp : World → World → Prop) (I : List (List Value) → World → Prop) (Ix : Option Nat → List (List Value) → World → Prop), (Enters Tryz.prog x6f ∧ Seqs Tryz.prog x6f x6c xs Kp w2 ∧
 (∀ vs ∈ xs, hasT Tryz.prog [3, 94] vs) ∧ KeepOk w2 Kp ∧ OwnFrom w2.heap.size I ∧
 (∀ e, OwnFrom w2.heap.size (Ix e)) ∧ I [] w2) ∧
 (∀ (pre : List (List Value)) (w3 : World), ∀ (e e2 : Int) (e3a : Option Addr) (e3n e3c : Nat) (e4 : Int), [.int .i64 e, .agg #[.int .i64 e2, .slice e3a e3n e3c, .int .i64 e4]] ∈ xs → I pre w3 →
 (∀ (b2 : Nat) (w4 : World), b2 = w3.heap.size → w4 = w3.alloc (.cells #[.int .i64 0, .slice none 0 0, .int .i64 0] 94) → ((w4.cell? (Addr.mk b2 0 none)).isSome = true ∧ w4.frozen? (Addr.mk b2 0 none) = false ∧ ((w4.cell? ((Addr.mk b2 0 none).add 1)).isSome = true ∧ w4.frozen? ((Addr.mk b2 0 none).add 1) = false ∧ ((w4.cell? ((Addr.mk b2 0 none).add 2)).isSome = true ∧ w4.frozen? ((Addr.mk b2 0 none).add 2) = false ∧
 (∀ w5 : World, w5 = ((w4.setCell (Addr.mk b2 0 none) (.int .i64 e2)).setCell ((Addr.mk b2 0 none).add 1) (.slice e3a e3n e3c)).setCell ((Addr.mk b2 0 none).add 2) (.int .i64 e4) → (KeepsFrom w2.heap.size w3 w5 ∧ Kp w3 w5 ∧ I pre w5 ∧ ∀ (pre2 : List (List Value)) (w6 : World), NC w2.heap.size w5 w6 → pre2.length < xs.length → I pre2 w6 →
 (∃ (x7 : Int), w6.cell? (Addr.mk b2 0 none) = some (.int .i64 x7) ∧
 (cond (x7 == 0) (∃ (x8a : Option Addr) (x8n x8c : Nat), w6.cell? cap0 = some (.slice x8a x8n x8c) ∧
 (∃ (x9 : Int) (x10a : Option Addr) (x10n x10c : Nat) (x11 : Int), w6.cell? (Addr.mk b 0 none) = some (.int .i64 x9) ∧ w6.cell? ((Addr.mk b 0 none).add 1) = some (.slice x10a x10n x10c) ∧ w6.cell? ((Addr.mk b 0 none).add 2) = some (.int .i64 x11) ∧
 (∃ p : Addr, x8a = some p ∧ 0 ≤ e ∧ e < (x8n : Int) ∧ ((w6.cell? (p.add ((e).toNat * 3))).isSome = true ∧ w6.frozen? (p.add ((e).toNat * 3)) = false ∧ ((w6.cell? ((p.add ((e).toNat * 3)).add 1)).isSome = true ∧ w6.frozen? ((p.add ((e).toNat * 3)).add 1) = false ∧ ((w6.cell? ((p.add ((e).toNat * 3)).add 2)).isSome = true ∧ w6.frozen? ((p.add ((e).toNat * 3)).add 2) = false ∧
 (∀ w7 : World, w7 = ((w6.setCell (p.add ((e).toNat * 3)) (.int .i64 x9)).setCell ((p.add ((e).toNat * 3)).add 1) (.slice x10a x10n x10c)).setCell ((p.add ((e).toNat * 3)).add 2) (.int .i64 x11) → (KeepsFrom w2.heap.size w6 w7 ∧ Ix none (pre2 ++ [[.int .i64 e, .agg #[.int .i64 e2, .slice e3a e3n e3c, .int .i64 e4]]]) w7)))))))) (KeepsFrom w2.heap.size w6 w6 ∧ Kp w6 w6 ∧ I (pre2 ++ [[.int .i64 e, .agg #[.int .i64 e2, .slice e3a e3n e3c, .int .i64 e4]]]) w6)))))))))) ∧
 (∀ (d : Nat) (w8 : World), w2.heap.size ≤ d → I xs w8 → w8.heap[d]? = some (.deferred (some [])) → (w8.heap[d]? = some (.deferred (some [])) ∧ ∀ w9 : World, w9 = w8.putObj d (.deferred none) → (R (.tuple #[]) w9))) ∧
 (∀ (d : Nat) (pre : List (List Value)) (w8 : World), w2.heap.size ≤ d → pre <+: xs → Ix none pre w8 → w8.heap[d]? = some (.deferred (some [])) → (w8.heap[d]? = some (.deferred (some [])) ∧ ∀ w10 : World, w10 = w8.putObj d (.deferred none) → (R (.tuple #[]) w10))) ∧ (True)))))
theorem c154 (x1 : Int) (x2a : Option Addr) (x2n x2c : Nat) (x3 : Int) (cap0 : Addr) {w : World} {R : Value → World → Prop} (hV : V154 x1 x2a x2n x2c x3 cap0 w R) : Cl Tryz.prog 154 #[.agg #[.int .i64 x1, .slice x2a x2n x2c, .int .i64 x3], .pointer (some cap0)] w R :=
 fn_sound hmTryz (TT := [(9, 3), (10, 94)]) (f := 154) Tryz.func154 (ent_of Tryz.func154 (by kernel_rfl) rfl) (Eq.mpr (by kernel_rfl) hV)
/-- windrose/lookup.turns$1 -/
def V162 (l : Nat) (cap0 : Addr) (cap1 : Addr) (w : World) (R : Value → World → Prop) : Prop :=
 ∃ (x1a : Option Addr) (x1n x1c : Nat), w.cell? cap0 = some (.slice x1a x1n x1c) ∧
 (Cl Tryz.prog 163 #[.slice x1a x1n x1c] w fun v w1 => ∃ (x2 : Int), v = .int .u64 x2 ∧
 (∃ (x3a : Option Addr) (x3n x3c : Nat), w1.cell? cap1 = some (.slice x3a x3n x3c) ∧
 (∃ (Jv : Int → World → Prop) (mu : Int → World → Nat), Jv 0 w1 ∧ ∀ (jk_ : Nat → Value) (w2 : World), ∀ (s13 : Int), Jv s13 w2 →
 (cond (decide (s13 < (x3n : Int))) (∃ (x4a : Option Addr) (x4n x4c : Nat), w2.cell? cap1 = some (.slice x4a x4n x4c) ∧
 (Cl Tryz.prog 164 #[.int .u64 x2, .int .i64 (x4n : Int), .int .i64 s13] w2 fun v2 w3 => ∃ (x5 x6 : Int), v2 = .tuple #[.int .i64 x5, .int .i64 x6] ∧
 (cond (x6 != 0) (R (.tuple #[]) w3) (∃ (x7a : Option Addr) (x7n x7c : Nat), w3.cell? cap1 = some (.slice x7a x7n x7c) ∧
 (∃ p : Addr, x7a = some p ∧ 0 ≤ x5 ∧ x5 < (x7n : Int) ∧
 (∃ (x8 : Int) (x9a : Option Addr) (x9n x9c : Nat) (x10 : Int), w3.cell? (p.add ((x5).toNat * 3)) = some (.int .i64 x8) ∧ w3.cell? ((p.add ((x5).toNat * 3)).add 1) = some (.slice x9a x9n x9c) ∧ w3.cell? ((p.add ((x5).toNat * 3)).add 2) = some (.int .i64 x10) ∧ (Yl Tryz.prog l [.int .i64 x5, .agg #[.int .i64 x8, .slice x9a x9n x9c, .int .i64 x10]] w3 fun y w4 => cond (!y) (R (.tuple #[]) w4) (Jv (IntKind.i64.wrap (s13 + 1)) w4 ∧ mu (IntKind.i64.wrap (s13 + 1)) w4 < mu s13 w2)))))))) (R (.tuple #[]) w2)))))
theorem c162 (l : Nat) (cap0 : Addr) (cap1 : Addr) {w : World} {R : Value → World → Prop} (hV : V162 l cap0 cap1 w R) : Cl Tryz.prog 162 #[.func (.yield l) #[] #[], .pointer (some cap0), .pointer (some cap1)] w R :=
 fn_sound hmTryz (TT := []) (f := 162) Tryz.func162 (ent_of Tryz.func162 (by kernel_rfl) rfl) (Eq.mpr (by kernel_rfl) hV)
/-- windrose/hash.Of -/
def V163 (la : Option Addr) (ln lc : Nat) (w : World) (R : Value → World → Prop) : Prop :=
 ∃ (Jv : Int → Int → World → Prop) (mu : Int → Int → World → Nat), Jv 14695981039346656037 0 w ∧ ∀ (jk_ : Nat → Value) (w1 : World), ∀ (h s8 : Int), Jv h s8 w1 →
 (cond (decide (s8 < (ln : Int))) (∃ p : Addr, la = some p ∧ 0 ≤ s8 ∧ s8 < (ln : Int) ∧
 (∃ (x1 : Int), w1.cell? (p.add ((s8).toNat * 1)) = some (.int .u64 x1) ∧
 (Cl Tryz.prog 170 #[.int .u64 h, .int .u64 x1] w1 fun v w2 => ∃ (x2 : Int), v = .int .u64 x2 ∧ (Jv x2 (IntKind.i64.wrap (s8 + 1)) w2 ∧ mu x2 (IntKind.i64.wrap (s8 + 1)) w2 < mu h s8 w1)))) (R (.int .u64 h) w1))
theorem c163 (la : Option Addr) (ln lc : Nat) {w : World} {R : Value → World → Prop} (hV : V163 la ln lc w R) : Cl Tryz.prog 163 #[.slice la ln lc] w R :=
 fn_sound hmTryz (TT := []) (f := 163) Tryz.func163 (ent_of Tryz.func163 (by kernel_rfl) rfl) (Eq.mpr (by kernel_rfl) hV)
/-- windrose/hash.Probe -/
def V164 (h many turn : Int) (w : World) (R : Value → World → Prop) : Prop :=
 Cl Tryz.prog 171 #[.int .u64 h, .int .i64 many] w fun v w1 => ∃ (x1 x2 : Int), v = .tuple #[.int .i64 x1, .int .i64 x2] ∧
 (cond (x2 != 0) (R (.tuple #[.int .i64 0, .int .i64 2]) w1)
 (cond (decide (1099511627776 < many)) (R (.tuple #[.int .i64 0, .int .i64 2]) w1)
 (cond (decide (turn < 0)) (R (.tuple #[.int .i64 0, .int .i64 2]) w1)
 (cond (decide (many = 0)) False (cond (decide (many = 0)) False (R (.tuple #[.int .i64 (Int.tmod (IntKind.i64.wrap (x1 + (Int.tmod turn many))) many), .int .i64 0]) w1))))))
theorem c164 (h many turn : Int) {w : World} {R : Value → World → Prop} (hV : V164 h many turn w R) : Cl Tryz.prog 164 #[.int .u64 h, .int .i64 many, .int .i64 turn] w R :=
 fn_sound hmTryz (TT := []) (f := 164) Tryz.func164 (ent_of Tryz.func164 (by kernel_rfl) rfl) (Eq.mpr (by kernel_rfl) hV)
/-- slices.IndexFunc[[]windrose/api.Entry,windrose/api.Entry] -/
def V166 (sa : Option Addr) (sn sc : Nat) (ff : FuncId) (fc : List Value) (w : World) (R : Value → World → Prop) : Prop :=
 ∃ (Jv : Int → Int → World → Prop) (mu : Int → Int → World → Nat), Jv 0 0 w ∧ ∀ (jk_ : Nat → Value) (w1 : World), ∀ (s4 s8 : Int), Jv s4 s8 w1 →
 (cond (decide (s8 < (sn : Int))) (∃ p : Addr, sa = some p ∧ 0 ≤ s8 ∧ s8 < (sn : Int) ∧
 (∃ (x1 : Int) (x2a : Option Addr) (x2n x2c : Nat) (x3 : Int), w1.cell? (p.add ((s8).toNat * 3)) = some (.int .i64 x1) ∧ w1.cell? ((p.add ((s8).toNat * 3)).add 1) = some (.slice x2a x2n x2c) ∧ w1.cell? ((p.add ((s8).toNat * 3)).add 2) = some (.int .i64 x3) ∧
 (Cl Tryz.prog ff (([.agg #[.int .i64 x1, .slice x2a x2n x2c, .int .i64 x3]] : List Value) ++ fc).toArray w1 fun v w2 => ∃ (x4 : Bool), v = .bool x4 ∧
 (cond x4 (R (.int .i64 s8) w2) (Jv s4 (IntKind.i64.wrap (s8 + 1)) w2 ∧ mu s4 (IntKind.i64.wrap (s8 + 1)) w2 < mu s4 s8 w1))))) (R (.int .i64 (-1)) w1))
theorem c166 (sa : Option Addr) (sn sc : Nat) (ff : FuncId) (fc : List Value) {w : World} {R : Value → World → Prop} (hV : V166 sa sn sc ff fc w R) : Cl Tryz.prog 166 #[.slice sa sn sc, .func (.func ff) #[] fc.toArray] w R :=
 fn_sound hmTryz (TT := []) (f := 166) Tryz.func166 (ent_of Tryz.func166 (by kernel_rfl) rfl) (Eq.mpr (by kernel_rfl) hV)
/-- windrose/hash.Add -/
def V170 (h id : Int) (w : World) (R : Value → World → Prop) : Prop :=
 Cl Tryz.prog 173 #[.int .u64 h, .int .u64 id, .bool true, .func (.func 174) #[] #[]] w fun v w1 => ∃ (x1 : Int), v = .int .u64 x1 ∧ (R (.int .u64 x1) w1)
theorem c170 (h id : Int) {w : World} {R : Value → World → Prop} (hV : V170 h id w R) : Cl Tryz.prog 170 #[.int .u64 h, .int .u64 id] w R :=
 fn_sound hmTryz (TT := []) (f := 170) Tryz.func170 (ent_of Tryz.func170 (by kernel_rfl) rfl) (Eq.mpr (by kernel_rfl) hV)
/-- windrose/hash.Slot -/
def V171 (h many : Int) (w : World) (R : Value → World → Prop) : Prop :=
 cond (decide (many < 1)) (R (.tuple #[.int .i64 0, .int .i64 2]) w)
 (cond (decide ((IntKind.u64.wrap many) = 0)) False (R (.tuple #[.int .i64 (IntKind.i64.wrap (Int.tmod h (IntKind.u64.wrap many))), .int .i64 0]) w))
theorem c171 (h many : Int) {w : World} {R : Value → World → Prop} (hV : V171 h many w R) : Cl Tryz.prog 171 #[.int .u64 h, .int .i64 many] w R :=
 fn_sound hmTryz (TT := []) (f := 171) Tryz.func171 (ent_of Tryz.func171 (by kernel_rfl) rfl) (Eq.mpr (by kernel_rfl) hV)
/-- windrose/hash.over -/
def V173 (h id : Int) (up : Bool) (goesf : FuncId) (goesc : List Value) (w : World) (R : Value → World → Prop) : Prop :=
 ∀ (b : Nat) (w1 : World), b = w.heap.size → w1 = w.alloc (.cells #[.int .u64 h] 31) →
 (∀ (b2 : Nat) (w2 : World), b2 = w1.heap.size → w2 = w1.alloc (.cells #[.func (.func goesf) #[] goesc.toArray] 206) →
 (Cl Tryz.prog 183 #[.int .u64 id, .bool up] w2 fun v w3 => ∃ (x1f : FuncId) (x1c : List Value), v = .func (.func x1f) #[] x1c.toArray ∧
 (∃ (xs : List (List Value)) (Kp : World → World → Prop) (I : List (List Value) → World → Prop) (Ix : Option Nat → List (List Value) → World → Prop), (Enters Tryz.prog x1f ∧ Seqs Tryz.prog x1f x1c xs Kp w3 ∧
 (∀ vs ∈ xs, hasT Tryz.prog [31] vs) ∧ KeepOk w3 Kp ∧ OwnFrom w3.heap.size I ∧
 (∀ e, OwnFrom w3.heap.size (Ix e)) ∧ I [] w3) ∧
 (∀ (pre : List (List Value)) (w4 : World), ∀ (e : Int), [.int .u64 e] ∈ xs → pre.length < xs.length → I pre w4 →
 (∃ (x2f : FuncId) (x2c : List Value), w4.cell? (Addr.mk b2 0 none) = some (.func (.func x2f) #[] x2c.toArray) ∧
 (∃ (x3 : Int), w4.cell? (Addr.mk b 0 none) = some (.int .u64 x3) ∧
 (Cl Tryz.prog x2f (([.int .u64 x3, .int .u64 e] : List Value) ++ x2c).toArray w4 fun v2 w5 => ∃ (x4 : Int), v2 = .int .u64 x4 ∧ ((w5.cell? (Addr.mk b 0 none)).isSome = true ∧ w5.frozen? (Addr.mk b 0 none) = false ∧
 (∀ w6 : World, w6 = w5.setCell (Addr.mk b 0 none) (.int .u64 x4) → (KeepsFrom w3.heap.size w4 w6 ∧ Kp w4 w6 ∧ I (pre ++ [[.int .u64 e]]) w6))))))) ∧
 (∀ (d : Nat) (w7 : World), w3.heap.size ≤ d → I xs w7 → w7.heap[d]? = some (.deferred (some [])) →
 (∃ (x5 : Int), w7.cell? (Addr.mk b 0 none) = some (.int .u64 x5) ∧ (w7.heap[d]? = some (.deferred (some [])) ∧ ∀ w8 : World, w8 = w7.putObj d (.deferred none) → (R (.int .u64 x5) w8)))) ∧
 (∀ (d : Nat) (pre : List (List Value)) (w7 : World), w3.heap.size ≤ d → pre <+: xs → Ix none pre w7 → w7.heap[d]? = some (.deferred (some [])) → (w7.heap[d]? = some (.deferred (some [])) ∧ ∀ w9 : World, w9 = w7.putObj d (.deferred none) → (R (.int .u64 0) w9))) ∧ (True))))
theorem c173 (h id : Int) (up : Bool) (goesf : FuncId) (goesc : List Value) {w : World} {R : Value → World → Prop} (hV : V173 h id up goesf goesc w R) : Cl Tryz.prog 173 #[.int .u64 h, .int .u64 id, .bool up, .func (.func goesf) #[] goesc.toArray] w R :=
 fn_sound hmTryz (TT := [(13, 31)]) (f := 173) Tryz.func173 (ent_of Tryz.func173 (by kernel_rfl) rfl) (Eq.mpr (by kernel_rfl) hV)
/-- windrose/hash.Add$1 -/
def V174 (h b : Int) (w : World) (R : Value → World → Prop) : Prop :=
 R (.int .u64 (IntKind.u64.wrap ((bxor .u64 h b) * 1099511628211))) w
theorem c174 (h b : Int) {w : World} {R : Value → World → Prop} (hV : V174 h b w R) : Cl Tryz.prog 174 #[.int .u64 h, .int .u64 b] w R :=
 fn_sound hmTryz (TT := []) (f := 174) Tryz.func174 (ent_of Tryz.func174 (by kernel_rfl) rfl) (Eq.mpr (by kernel_rfl) hV)
/-- windrose/hash.bytes -/
def V183 (id : Int) (up : Bool) (w : World) (R : Value → World → Prop) : Prop :=
 ∀ (b : Nat) (w1 : World), b = w.heap.size → w1 = w.alloc (.cells #[.int .u64 id] 32) →
 (∀ (b2 : Nat) (w2 : World), b2 = w1.heap.size → w2 = w1.alloc (.cells #[.bool up] 4) → (R (.func (.func 187) #[] #[.pointer (some (Addr.mk b2 0 none)), .pointer (some (Addr.mk b 0 none))]) w2))
theorem c183 (id : Int) (up : Bool) {w : World} {R : Value → World → Prop} (hV : V183 id up w R) : Cl Tryz.prog 183 #[.int .u64 id, .bool up] w R :=
 fn_sound hmTryz (TT := []) (f := 183) Tryz.func183 (ent_of Tryz.func183 (by kernel_rfl) rfl) (Eq.mpr (by kernel_rfl) hV)
/-- windrose/hash.bytes$1 -/
def V187 (l : Nat) (cap0 : Addr) (cap1 : Addr) (w : World) (R : Value → World → Prop) : Prop :=
 ∃ (Jv : Int → World → Prop) (mu : Int → World → Nat), Jv 0 w ∧ ∀ (jk_ : Nat → Value) (w1 : World), ∀ (s5 : Int), Jv s5 w1 →
 (cond (decide (s5 < 8)) (∃ (x1 : Bool), w1.cell? cap0 = some (.bool x1) ∧
 (cond (!x1) (∃ (x2 : Int), w1.cell? cap1 = some (.int .u64 x2) ∧
 (cond (decide ((IntKind.i64.wrap (8 * (IntKind.i64.wrap (7 - s5)))) < 0)) False (Yl Tryz.prog l [.int .u64 (band .u64 (bshr .u64 x2 (IntKind.i64.wrap (8 * (IntKind.i64.wrap (7 - s5))))) 255)] w1 fun y w2 => cond (!y) (R (.tuple #[]) w2) (Jv (IntKind.i64.wrap (s5 + 1)) w2 ∧ mu (IntKind.i64.wrap (s5 + 1)) w2 < mu s5 w1)))) (∃ (x3 : Int), w1.cell? cap1 = some (.int .u64 x3) ∧
 (cond (decide ((IntKind.i64.wrap (8 * s5)) < 0)) False (Yl Tryz.prog l [.int .u64 (band .u64 (bshr .u64 x3 (IntKind.i64.wrap (8 * s5))) 255)] w1 fun y2 w3 => cond (!y2) (R (.tuple #[]) w3) (Jv (IntKind.i64.wrap (s5 + 1)) w3 ∧ mu (IntKind.i64.wrap (s5 + 1)) w3 < mu s5 w1)))))) (R (.tuple #[]) w1))
theorem c187 (l : Nat) (cap0 : Addr) (cap1 : Addr) {w : World} {R : Value → World → Prop} (hV : V187 l cap0 cap1 w R) : Cl Tryz.prog 187 #[.func (.yield l) #[] #[], .pointer (some cap0), .pointer (some cap1)] w R :=
 fn_sound hmTryz (TT := []) (f := 187) Tryz.func187 (ent_of Tryz.func187 (by kernel_rfl) rfl) (Eq.mpr (by kernel_rfl) hV)
end Go.Eng

namespace Go.Eng
open Go Go.RowKit Go.Proofs
set_option maxRecDepth 10000
theorem tyIds : Ty Tryz.prog 33 32 1 8 (.int .u64 0) := ⟨by kernel_rfl, ⟨_, rfl, rfl, rfl, rfl⟩, rfl, by decide⟩
theorem tySteps : Ty Tryz.prog 54 71 2 16 (.agg #[.int .u64 0, .int .i64 0]) := ⟨by kernel_rfl, ⟨_, rfl, rfl, rfl, rfl⟩, rfl, by decide⟩
theorem tyEnts : Ty Tryz.prog 23 94 3 40 (.agg #[.int .i64 0, .slice none 0 0, .int .i64 0]) := ⟨by kernel_rfl, ⟨_, rfl, rfl, rfl, rfl⟩, rfl, by decide⟩
theorem tyNodes : Ty Tryz.prog 22 56 4 80 (.agg #[.bool false, .slice none 0 0, .slice none 0 0, .slice none 0 0]) := ⟨by kernel_rfl, ⟨_, rfl, rfl, rfl, rfl⟩, rfl, by decide⟩
theorem tyInts : Ty Tryz.prog 64 3 1 8 (.int .i64 0) := ⟨by kernel_rfl, ⟨_, rfl, rfl, rfl, rfl⟩, rfl, by decide⟩
theorem tyRows : Ty Tryz.prog 73 33 1 24 (.slice none 0 0) := ⟨by kernel_rfl, ⟨_, rfl, rfl, rfl, rfl⟩, rfl, by decide⟩
/-- What a call that makes a row in memory of its own hands back. -/
def Made {α : Type} (enc : α → List Value) (k : Nat) (e : TypeId) (w : World) (l : List α) (v : Value) (w' : World) : Prop :=
  ∃ a n c, v = .slice a n c ∧ Own enc k e w.heap.size w' a n c l ∧ Below w.heap.size w w'
theorem k_clonedIds {w : World} {a : Option Addr} {n c : Nat} {l : List Int} (h : Row encId w a n c l) (hs : n ≤ 1048576) : Cl Tryz.prog 69 #[.slice a n c] w (Made encId 1 32 w l) :=
  c69 _ _ _ (cloned_ok tyIds enId h.rd h.n63 (by omega) fun g w' hg ho hB => ⟨_, _, _, rfl, ho, hB⟩)
theorem k_townIds {w : World} {a : Option Addr} {n c : Nat} {l : List Int} (h : Row encId w a n c l) (hs : n ≤ 1048576) : Cl Tryz.prog 71 #[.slice a n c] w (Made encId 1 32 w l) :=
  c71 _ _ _ (cloned_ok tyIds enId h.rd h.n63 (by omega) fun g w' hg ho hB => ⟨_, _, _, rfl, ho, hB⟩)
/-- .. at a length that's its capacity, in a block that is new. -/
def MadeN {α : Type} (enc : α → List Value) (k : Nat) (e : TypeId) (w : World) (l : List α) (v : Value) (w' : World) : Prop :=
  ∃ g n, v = .slice (some ⟨g, 0, none⟩) n n ∧ Own enc k e w.heap.size w' (some ⟨g, 0, none⟩) n n l ∧ Below w.heap.size w w' ∧ w.heap.size ≤ g
theorem k_clonedNodes {w : World} {a : Option Addr} {n c : Nat} {l : List RNode} (h : Row encNode w a n c l) (hs : n ≤ 1048576) : Cl Tryz.prog 109 #[.slice a n c] w (MadeN encNode 4 56 w l) :=
  c109 _ _ _ (cloned_ok tyNodes enNode h.rd h.n63 (by omega) fun g w' hg ho hB => ⟨_, _, rfl, ho, hB, by omega⟩)
theorem k_clonedEnts {w : World} {a : Option Addr} {n c : Nat} {l : List REnt} (h : Row encEnt w a n c l) (hs : n ≤ 1048576) : Cl Tryz.prog 110 #[.slice a n c] w (MadeN encEnt 3 94 w l) :=
  c110 _ _ _ (cloned_ok tyEnts enEnt h.rd h.n63 (by omega) fun g w' hg ho hB => ⟨_, _, rfl, ho, hB, by omega⟩)
theorem k_clonedSteps {w : World} {a : Option Addr} {n c : Nat} {l : List Stp} (h : Row encStp w a n c l) (hs : n ≤ 1048576) : Cl Tryz.prog 111 #[.slice a n c] w (MadeN encStp 2 71 w l) :=
  c111 _ _ _ (cloned_ok tySteps enStp h.rd h.n63 (by omega) fun g w' hg ho hB => ⟨_, _, rfl, ho, hB, by omega⟩)
/-- slices.Clone. -/
theorem k_CloneIds {w : World} {a : Option Addr} {n c : Nat} {l : List Int} (h : Row encId w a n c l) (hs : n ≤ 1048576) : Cl Tryz.prog 10 #[.slice a n c] w (Made encId 1 32 w l) := by
  refine c10 _ _ _ ⟨_, nil_eq tyIds.ht, ?_⟩
  cases a with
  | none =>
    have : l = [] := by
      rcases h.rd.2 with h0 | ⟨p, hp, _⟩
      · exact h0
      · simp at hp
    subst this
    exact ⟨_, _, _, rfl, Own.nil, Below.refl _ _⟩
  | some p =>
    rintro b w1 rfl rfl
    have hB : Below w.heap.size w (w.alloc (.cells #[] 32)) := (Below.refl _ _).alloc (Nat.le_refl _) _
    obtain ⟨a', n', c', w', hrun, ho, hg⟩ := app_own (a := some (Addr.mk w.heap.size 0 none)) (n := 0) (c := 0) (l := ([] : List Int)) (lo := w.heap.size) (ty := 33) (c' := c) tyIds enId (Own.new enId.len w [] (Nat.le_refl _) (Nat.zero_le _)) (by rw [size_alloc]; omega) (h.rd.below hB) (by simp) (by simp only [maxLen]; omega) (by omega)
    exact ⟨_, _, _, _, hrun, _, _, _, rfl, ho, hB.grown hg (by rw [size_alloc]; omega) (fun k hk => by cases hk; exact Nat.le_refl _)⟩
end Go.Eng
namespace Go.Eng
open Go Go.RowKit Go.Proofs
set_option maxRecDepth 10000
theorem cnd {b : Bool} {X Y : Prop} (h1 : b = true → X) (h2 : b = false → Y) : cond b X Y := by
  cases b
  · exact h2 rfl
  · exact h1 rfl
theorem nx {k : Nat} (h : k < 9223372036854775807) : IntKind.i64.wrap ((k : Int) + 1) = ((k + 1 : Nat) : Int) := by
  rw [wrap64 (by omega) (by omega)]; omega
/-- Nothing but draws. -/
def Qt (w w' : World) : Prop := ∃ q, w' = w.drewN q
theorem Qt.refl (w : World) : Qt w w := ⟨0, rfl⟩
theorem Qt.drew {w w' : World} (h : Qt w w') : Qt w w'.drew := by obtain ⟨q, rfl⟩ := h; exact ⟨q + 1, by simp [World.drewN, World.drew, Nat.add_assoc]⟩
theorem Qt.trans {a b c : World} (h : Qt a b) (h' : Qt b c) : Qt a c := by obtain ⟨q, rfl⟩ := h; obtain ⟨r, rfl⟩ := h'; exact ⟨q + r, by simp [World.drewN, Nat.add_assoc]⟩
theorem Qt.below {w w' : World} (h : Qt w w') (B : Nat) : Below B w w' := by obtain ⟨q, rfl⟩ := h; exact ⟨rfl, rfl, rfl, Nat.le_refl _, fun _ _ => rfl⟩
theorem Row.qt {α : Type} {enc : α → List Value} {w w' : World} {a : Option Addr} {n c : Nat} {l : List α} (h : Row enc w a n c l) (hq : Qt w w') : Row enc w' a n c l := h.below (hq.below _)
/-- The k-th element, read. -/
theorem Row.at1 {α : Type} {enc : α → List Value} {f : α → Value} (hf : ∀ x, enc x = [f x]) {w : World} {a : Option Addr} {n c : Nat} {l : List α} (h : Row enc w a n c l) {k : Nat} (hk : k < n) :
    ∃ (hl : k < l.length) (p : Addr), a = some p ∧ w.cell? (p.add ((k : Int).toNat * 1)) = some (f l[k]) := by
  obtain ⟨p, hp, hc⟩ := h.ix1 hf (i := (k : Int)) (by omega) (by omega)
  have hl : k < l.length := by have := h.len; omega
  exact ⟨hl, p, hp, by simpa using hc⟩
theorem Row.idN {w : World} {a : Option Addr} {n c : Nat} {l : List Int} (h : Row encId w a n c l) {k : Nat} {K : Int → Prop} (hk : k < n) (hK : ∀ hl : k < l.length, K l[k]) :
    ∃ p : Addr, a = some p ∧ 0 ≤ (k : Int) ∧ (k : Int) < (n : Int) ∧ ∃ x : Int, w.cell? (p.add ((k : Int).toNat * 1)) = some (.int .u64 x) ∧ K x := by
  obtain ⟨hl, p, hp, hc⟩ := h.at1 (fun _ => rfl) hk
  exact ⟨p, hp, by omega, by omega, _, hc, hK _⟩
theorem Row.intN {w : World} {a : Option Addr} {n c : Nat} {l : List Int} (h : Row encInt w a n c l) {k : Nat} {K : Int → Prop} (hk : k < n) (hK : ∀ hl : k < l.length, K l[k]) :
    ∃ p : Addr, a = some p ∧ 0 ≤ (k : Int) ∧ (k : Int) < (n : Int) ∧ ∃ x : Int, w.cell? (p.add ((k : Int).toNat * 1)) = some (.int .i64 x) ∧ K x := by
  obtain ⟨hl, p, hp, hc⟩ := h.at1 (fun _ => rfl) hk
  exact ⟨p, hp, by omega, by omega, _, hc, hK _⟩
theorem take_one {α : Type} {l : List α} {k : Nat} (h : k < l.length) : l.take (k + 1) = l.take k ++ [l[k]] := by
  rw [List.take_add_one, List.getElem?_eq_getElem h]; rfl
theorem dec {n k : Nat} (h : k < n) : n - ((k + 1 : Nat) : Int).toNat < n - (k : Int).toNat := by omega
theorem take_all {α : Type} {l : List α} {k : Nat} (h : l.length ≤ k) : l.take k = l := List.take_of_length_le h
/-- A call that reads alone. -/
def Tells (w : World) (v : Value) (v' : Value) (w' : World) : Prop := v' = v ∧ Qt w w'
section
variable {w : World} {a b : Option Addr} {n c m d : Nat} {l l' : List Int}
theorem k_EqIds (h1 : Row encId w a n c l) (h2 : Row encId w b m d l') : Cl Tryz.prog 22 #[.slice a n c, .slice b m d] w (Tells w (.bool (l == l'))) := by
  refine c22 _ _ _ _ _ _ ?_
  have e1 := h1.len; have e2 := h2.len; have e3 := h1.n63
  refine cnd (fun hc => ⟨?_, Qt.refl _⟩) fun hc => ?_
  · have : n ≠ m := by simp at hc; omega
    have : l ≠ l' := by rintro rfl; omega
    simp [this]
  · have hnm : n = m := by simp at hc; omega
    refine ⟨fun _ i w' => Qt w w' ∧ ∃ k : Nat, i = k ∧ k ≤ n ∧ l.take k = l'.take k, fun _ i _ => n - i.toNat, ⟨Qt.refl _, 0, rfl, by omega, rfl⟩, ?_⟩
    rintro _ w1 s _ ⟨hq, k, rfl, hk, ht⟩
    refine cnd (fun hc => ?_) fun hc => ?_
    · have hkn : k < n := by simpa using hc
      rintro w2 rfl
      refine (h1.qt hq.drew).idN hkn fun hl => ?_
      refine (h2.qt hq.drew).idN (by omega) fun hl' => ?_
      refine cnd (fun hc => ⟨?_, hq.drew⟩) fun hc => ?_
      · have : l[k] ≠ l'[k] := by simpa using hc
        have : l ≠ l' := by rintro rfl; exact this rfl
        simp [this]
      · have : l[k] = l'[k] := by simpa using hc
        rw [nx (by omega)]
        exact ⟨⟨hq.drew, k + 1, rfl, by omega, by rw [take_one hl, take_one hl', ht, this]⟩, dec hkn⟩
    · have hkn : ¬ k < n := by simpa using hc
      rw [take_all (by omega), take_all (by omega)] at ht
      exact ⟨by simp [ht], hq⟩
theorem k_EqInts (h1 : Row encInt w a n c l) (h2 : Row encInt w b m d l') : Cl Tryz.prog 28 #[.slice a n c, .slice b m d] w (Tells w (.bool (l == l'))) := by
  refine c28 _ _ _ _ _ _ ?_
  have e1 := h1.len; have e2 := h2.len; have e3 := h1.n63
  refine cnd (fun hc => ⟨?_, Qt.refl _⟩) fun hc => ?_
  · have : n ≠ m := by simp at hc; omega
    have : l ≠ l' := by rintro rfl; omega
    simp [this]
  · have hnm : n = m := by simp at hc; omega
    refine ⟨fun _ i w' => Qt w w' ∧ ∃ k : Nat, i = k ∧ k ≤ n ∧ l.take k = l'.take k, fun _ i _ => n - i.toNat, ⟨Qt.refl _, 0, rfl, by omega, rfl⟩, ?_⟩
    rintro _ w1 s _ ⟨hq, k, rfl, hk, ht⟩
    refine cnd (fun hc => ?_) fun hc => ?_
    · have hkn : k < n := by simpa using hc
      rintro w2 rfl
      refine (h1.qt hq.drew).intN hkn fun hl => ?_
      refine (h2.qt hq.drew).intN (by omega) fun hl' => ?_
      refine cnd (fun hc => ⟨?_, hq.drew⟩) fun hc => ?_
      · have : l[k] ≠ l'[k] := by simpa using hc
        have : l ≠ l' := by rintro rfl; exact this rfl
        simp [this]
      · have : l[k] = l'[k] := by simpa using hc
        rw [nx (by omega)]
        exact ⟨⟨hq.drew, k + 1, rfl, by omega, by rw [take_one hl, take_one hl', ht, this]⟩, dec hkn⟩
    · have hkn : ¬ k < n := by simpa using hc
      rw [take_all (by omega), take_all (by omega)] at ht
      exact ⟨by simp [ht], hq⟩
/-- A row that grows in a loop. -/
def with3 (l : List Int) (x : Int) : List Int := l.filter (fun y => decide (y < x)) ++ x :: l.filter (fun y => decide (x < y))
def without3 (l : List Int) (x : Int) : List Int := l.filter (fun y => y != x)
end
end Go.Eng
namespace Go.Eng
open Go Go.RowKit Go.Proofs
set_option maxRecDepth 10000
/-- A call that turns nothing at all. -/
def Is (v : Value) (w : World) : Value → World → Prop := fun v' w' => v' = v ∧ w' = w
theorem Cl.is {P : Program} {g : FuncId} {args : Array Value} {w : World} {v : Value} {K : Value → World → Prop} (h : Cl P g args w (Is v w)) (hk : K v w) : Cl P g args w K :=
  h.mono fun v' w' ⟨e1, e2⟩ => by subst e1; subst e2; exact hk
theorem Cl.tells {P : Program} {g : FuncId} {args : Array Value} {w : World} {v : Value} {K : Value → World → Prop} (h : Cl P g args w (Tells w v)) (hk : ∀ w', Qt w w' → K v w') : Cl P g args w K :=
  h.mono fun v' w' ⟨e1, e2⟩ => by subst e1; exact hk w' e2
def is1 (n low most : Int) : Bool := decide (low ≤ n) && decide (n ≤ most)
def hi1 (id : Int) : Int := IntKind.i64.wrap (Int.tmod (IntKind.u64.wrap (Int.tdiv id 4294967296)) 1073741824)
def lo1 (id : Int) : Int := IntKind.i64.wrap (Int.tmod id 1073741824)
def made1 (mark a b : Int) : Int := IntKind.u64.wrap ((IntKind.u64.wrap (mark + (IntKind.u64.wrap ((IntKind.u64.wrap a) * 4294967296)))) + (IntKind.u64.wrap b))
/-- The kind of an id, as the document says it. -/
def kind1 (id : Int) : Int :=
  if (id == made1 0 (hi1 id) (lo1 id)) = true ∧ is1 (lo1 id) 1 1048578 = true ∧ is1 (hi1 id) 0 7 = true then 1
  else if (id == made1 4611686018427387904 0 (lo1 id)) = true ∧ is1 (lo1 id) 1 24 = true then 2
  else if (id == made1 9223372036854775808 (hi1 id) (lo1 id)) = true ∧ is1 (hi1 id) 1 1048578 = true ∧ is1 (lo1 id) 1 1048578 = true then 3
  else if (id == made1 9223372036854775808 (hi1 id) (lo1 id)) = true ∧ is1 (hi1 id) 0 1048578 = true ∧ is1 (lo1 id) 0 1048578 = true then 4
  else 0
def may3 (id : Int) : Bool := kind1 id == 2 || kind1 id == 3
/-- In order, each once, and each may be. -/
def up3 : List Int → Bool
  | [] => true
  | [x] => may3 x
  | x :: y :: l => may3 x && decide (x < y) && up3 (y :: l)
def right3 (l : List Int) : Bool := up3 l && decide (l.length ≤ 12)
theorem getLast_take {l : List Int} {k : Nat} (hk : 0 < k) (hl : k < l.length) : (l.take k).getLast? = some l[k - 1] := by
  rw [List.getLast?_eq_getElem?, List.length_take, Nat.min_eq_left (by omega), List.getElem?_take, if_pos (by omega), List.getElem?_eq_getElem]
end Go.Eng
namespace Go.Eng
open Go Go.RowKit Go.Proofs
set_option maxRecDepth 10000
theorem cell_alloc {w : World} {a : Addr} {v : Value} (h : w.cell? a = some v) (o : Obj) : (w.alloc o).cell? a = some v := by
  rw [World.cell?_alloc_lt _ _ _ (World.block_lt_of_cell? w a h), h]
theorem cell_below {w w' : World} {a : Addr} {v : Value} (h : w.cell? a = some v) (hB : Below w.heap.size w w') : w'.cell? a = some v := by
  rw [hB.cell (World.block_lt_of_cell? w a h), h]
theorem alloc_below (w : World) (o : Obj) : Below w.heap.size w (w.alloc o) := (Below.refl _ _).alloc (Nat.le_refl _) _
/-- A row that was made for a call. -/
theorem row_new {α : Type} {enc : α → List Value} {k : Nat} (E : En enc k) (w : World) (e : TypeId) (l : List α) (hl : l.length ≤ 1000) : Row enc (w.alloc (.cells (l.flatMap enc).toArray e)) (some ⟨w.heap.size, 0, none⟩) l.length l.length l :=
  (Own.new (lo := 0) E.len w l (Nat.zero_le _) (by simp only [maxLen]; omega)).row
theorem k_iwithin (low most : Int) {w : World} {a : Option Addr} {n c : Nat} {l : List Int} (h : Row encInt w a n c l) : Cl Tryz.prog 95 #[.int .i64 low, .int .i64 most, .slice a n c] w (Is (.bool (l.all fun x => is1 x low most)) w) := by
  refine c95 _ _ _ _ _ ?_
  have e1 := h.len; have e3 := h.n63
  refine ⟨fun ok i w' => ok = true ∧ w' = w ∧ ∃ k : Nat, i = k ∧ k ≤ n ∧ (l.take k).all (fun x => is1 x low most) = true, fun _ i _ => n - i.toNat, ⟨rfl, rfl, 0, rfl, by omega, rfl⟩, ?_⟩
  rintro _ w1 s _ ⟨rfl, rfl, k, rfl, hk, ht⟩
  have hno : ∀ hl : k < l.length, is1 l[k] low most = false → (l.all fun x => is1 x low most) = false := by
    intro hl hf
    rw [List.all_eq_false]
    exact ⟨_, List.getElem_mem hl, by rw [hf]; simp⟩
  refine cnd (fun hc => ?_) fun hc => ?_
  · have hkn : k < n := by simpa using hc
    refine h.intN hkn fun hl => ?_
    refine cnd (fun h1 => cnd (fun h2 => ⟨?_, rfl⟩) fun h2 => ?_) fun h1 => ⟨?_, rfl⟩
    · have h2' : decide (l[k] ≤ most) = false := by simpa using h2
      rw [hno hl (by simp only [is1, h2', Bool.and_false]), h2']
    · have h2' : decide (l[k] ≤ most) = true := by simpa using h2
      rw [nx (by omega)]
      refine ⟨⟨h2', rfl, k + 1, rfl, by omega, ?_⟩, dec hkn⟩
      rw [take_one hl, List.all_append, ht]
      simp only [List.all_cons, List.all_nil, is1, h1, h2', Bool.and_self]
    · rw [hno hl (by simp only [is1, h1, Bool.false_and])]
  · have hkn : ¬ k < n := by simpa using hc
    rw [take_all (by omega)] at ht
    exact ⟨by rw [ht], rfl⟩
def packed2 (mark second first : Int) : Int := bor .u64 (bor .u64 mark (bshl .u64 (IntKind.u64.wrap second) 32)) (IntKind.u64.wrap first)
def hi2 (id : Int) : Int := IntKind.i64.wrap (band .u64 (bshr .u64 id 32) 1073741823)
def lo2 (id : Int) : Int := IntKind.i64.wrap (band .u64 id 1073741823)
theorem k_ipacked (m a b : Int) {w : World} : Cl Tryz.prog 96 #[.int .u64 m, .int .i64 a, .int .i64 b] w (Is (.int .u64 (packed2 m a b)) w) := c96 _ _ _ ⟨rfl, rfl⟩
theorem k_ihalves (id : Int) {w : World} : Cl Tryz.prog 144 #[.int .u64 id] w (Is (.tuple #[.int .i64 (hi2 id), .int .i64 (lo2 id)]) w) := c144 _ ⟨rfl, rfl⟩
def ent2 (id a b : Int) : Bool := (id == packed2 0 a b) && (is1 b 1 1048578 && is1 a 0 7)
def com2 (id b : Int) : Bool := (id == packed2 4611686018427387904 0 b) && is1 b 1 24
def pai2 (id a b : Int) : Bool := (id == packed2 9223372036854775808 a b) && (is1 a 1 1048578 && is1 b 1 1048578)
def pat2 (id a b : Int) : Bool := (id == packed2 9223372036854775808 a b) && (is1 a 0 1048578 && is1 b 0 1048578)
/-- A call that makes blocks of its own alone. -/
def Gives (w : World) (v : Value) : Value → World → Prop := fun v' w' => v' = v ∧ Below w.heap.size w w'
theorem Cl.gives {P : Program} {g : FuncId} {args : Array Value} {w : World} {v : Value} {K : Value → World → Prop} (h : Cl P g args w (Gives w v)) (hk : ∀ w', Below w.heap.size w w' → K v w') : Cl P g args w K :=
  h.mono fun v' w' ⟨e1, e2⟩ => by subst e1; exact hk w' e2
section
variable {w : World} {c0 c1 c2 : Addr} {id a b : Int}
theorem k_iKind1 (h0 : w.cell? c0 = some (.int .u64 id)) (h1 : w.cell? c1 = some (.int .i64 a)) (h2 : w.cell? c2 = some (.int .i64 b)) :
    Cl Tryz.prog 145 #[.pointer (some c0), .pointer (some c1), .pointer (some c2)] w (Gives w (.bool (ent2 id a b))) := by
  refine c145 _ _ _ ?_
  rintro _ rfl
  refine ⟨_, h0, _, h1, _, h2, (k_ipacked _ _ _).is ⟨_, rfl, h0, cnd (fun he => ?_) fun he => ⟨by simp only [ent2, he, Bool.false_and], (Below.refl _ _).drew⟩⟩⟩
  refine ⟨_, h2, ?_⟩
  rintro _ _ rfl rfl
  refine (k_iwithin 1 1048578 (row_new enInt w.drew 3 [b] (by simp))).is ⟨_, rfl, ?_⟩
  have hB := ((Below.refl w.heap.size w).drew).alloc (o := .cells ([b].flatMap encInt).toArray 3) (Nat.le_refl _)
  refine cnd (fun hi => ⟨_, cell_alloc (w := w.drew) h1 _, ?_⟩) fun hi => ⟨?_, hB⟩
  · rintro _ _ rfl rfl
    refine (k_iwithin 0 7 (row_new enInt _ 3 [a] (by simp))).is ⟨_, rfl, ?_, hB.alloc hB.size _⟩
    simp only [List.all_cons, List.all_nil, Bool.and_true] at hi ⊢
    simp only [ent2, he, hi, Bool.true_and]
  · simp only [List.all_cons, List.all_nil, Bool.and_true] at hi
    simp only [ent2, he, hi, Bool.false_and, Bool.and_false]
theorem k_iKind2 (h0 : w.cell? c0 = some (.int .u64 id)) (h2 : w.cell? c2 = some (.int .i64 b)) :
    Cl Tryz.prog 146 #[.pointer (some c0), .pointer (some c2)] w (Gives w (.bool (com2 id b))) := by
  refine c146 _ _ ?_
  rintro _ rfl
  refine ⟨_, h0, _, h2, (k_ipacked _ _ _).is ⟨_, rfl, h0, cnd (fun he => ?_) fun he => ⟨by simp only [com2, he, Bool.false_and], (Below.refl _ _).drew⟩⟩⟩
  refine ⟨_, h2, ?_⟩
  rintro _ _ rfl rfl
  refine (k_iwithin 1 24 (row_new enInt w.drew 3 [b] (by simp))).is ⟨_, rfl, ?_, ((Below.refl w.heap.size w).drew).alloc (Nat.le_refl _) _⟩
  simp only [com2, he, Bool.true_and, List.all_cons, List.all_nil, Bool.and_true]
theorem k_iKind3 (h0 : w.cell? c0 = some (.int .u64 id)) (h1 : w.cell? c1 = some (.int .i64 a)) (h2 : w.cell? c2 = some (.int .i64 b)) :
    Cl Tryz.prog 147 #[.pointer (some c0), .pointer (some c1), .pointer (some c2)] w (Gives w (.bool (pai2 id a b))) := by
  refine c147 _ _ _ ?_
  rintro _ rfl
  refine ⟨_, h0, _, h1, _, h2, (k_ipacked _ _ _).is ⟨_, rfl, h0, cnd (fun he => ?_) fun he => ⟨by simp only [pai2, he, Bool.false_and], (Below.refl _ _).drew⟩⟩⟩
  refine ⟨_, h1, _, h2, ?_⟩
  rintro _ _ rfl rfl
  refine (k_iwithin 1 1048578 (row_new enInt w.drew 3 [a, b] (by simp))).is ⟨_, rfl, ?_, ((Below.refl w.heap.size w).drew).alloc (Nat.le_refl _) _⟩
  simp only [pai2, he, Bool.true_and, List.all_cons, List.all_nil, Bool.and_true]
theorem k_iKind4 (h0 : w.cell? c0 = some (.int .u64 id)) (h1 : w.cell? c1 = some (.int .i64 a)) (h2 : w.cell? c2 = some (.int .i64 b)) :
    Cl Tryz.prog 148 #[.pointer (some c0), .pointer (some c1), .pointer (some c2)] w (Gives w (.bool (pat2 id a b))) := by
  refine c148 _ _ _ ?_
  rintro _ rfl
  refine ⟨_, h0, _, h1, _, h2, (k_ipacked _ _ _).is ⟨_, rfl, h0, cnd (fun he => ?_) fun he => ⟨by simp only [pat2, he, Bool.false_and], (Below.refl _ _).drew⟩⟩⟩
  refine ⟨_, h1, _, h2, ?_⟩
  rintro _ _ rfl rfl
  refine (k_iwithin 0 1048578 (row_new enInt w.drew 3 [a, b] (by simp))).is ⟨_, rfl, ?_, ((Below.refl w.heap.size w).drew).alloc (Nat.le_refl _) _⟩
  simp only [pat2, he, Bool.true_and, List.all_cons, List.all_nil, Bool.and_true]
end
/-- The kind of an id, as the code says it. -/
def kind2 (id : Int) : Int :=
  if ent2 id (hi2 id) (lo2 id) then 1 else if com2 id (lo2 id) then 2 else if pai2 id (hi2 id) (lo2 id) then 3 else if pat2 id (hi2 id) (lo2 id) then 4 else 0
theorem k_iKind (id : Int) {w : World} : Cl Tryz.prog 114 #[.int .u64 id] w (Gives w (.int .i64 (kind2 id))) := by
  refine c114 _ ?_
  rintro _ _ rfl rfl
  have q1 := blk_new (w := w) (.cells #[.int .u64 id] 32)
  have B1 := alloc_below w (.cells #[.int .u64 id] 32)
  generalize w.alloc (.cells #[.int .u64 id] 32) = w1 at q1 B1
  refine ⟨_, blk_cell q1 0, (k_ihalves id).is ⟨_, _, rfl, ?_⟩⟩
  rintro _ w3 rfl h3 _ w4 rfl h4
  have q2 : w4.heap[w1.heap.size]? = some (.cells #[.int .i64 0] 3) := by rw [h4, h3]; exact blk_alloc (blk_new _)
  have q3 : w4.heap[w3.heap.size]? = some (.cells #[.int .i64 0] 3) := by rw [h4]; exact blk_new _
  have B4 : Below w1.heap.size w1 w4 := by rw [h4, h3]; exact ((alloc_below w1 _)).alloc (by rw [size_alloc]; omega) _
  have n3 : w3.heap.size = w1.heap.size + 1 := by rw [h3, size_alloc]
  refine ⟨blk_some q2 (by decide), blk_free q2 _, ?_⟩
  rintro w5 rfl
  have q2' := blk_set q2 0 (.int .i64 (hi2 id))
  have q3' := blk_far q3 (a := ⟨w1.heap.size, 0, none⟩) (by show w3.heap.size ≠ w1.heap.size; omega) (.int .i64 (hi2 id))
  have B5 := B4.setCell (p := ⟨w1.heap.size, 0, none⟩) (Nat.le_refl _) (.int .i64 (hi2 id))
  generalize w4.setCell ⟨w1.heap.size, 0, none⟩ (.int .i64 (hi2 id)) = w5 at q2' q3' B5
  refine ⟨blk_some q3' (by decide), blk_free q3' _, ?_⟩
  rintro w6 rfl
  have r2 := blk_far q2' (a := ⟨w3.heap.size, 0, none⟩) (by show w1.heap.size ≠ w3.heap.size; omega) (.int .i64 (lo2 id))
  have r3 := blk_set q3' 0 (.int .i64 (lo2 id))
  have B6 := B5.setCell (p := ⟨w3.heap.size, 0, none⟩) (by show w1.heap.size ≤ w3.heap.size; omega) (.int .i64 (lo2 id))
  generalize w5.setCell ⟨w3.heap.size, 0, none⟩ (.int .i64 (lo2 id)) = w6 at r2 r3 B6
  have r1 := blk_below q1 B6 (blk_lt q1)
  rintro b4 w7 hb4 h7
  obtain ⟨t7, s7⟩ : ∃ t, w7.heap[b4]? = some (.cells #[.nilFunc, .nilFunc, .nilFunc, .nilFunc, .nilFunc] t (0, 0)) := by subst h7; subst hb4; exact ⟨_, blk_new _⟩
  refine ⟨blk_some s7 (by decide), blk_free s7 _, blk_some s7 (j := 1) (by decide), blk_free s7 1, blk_some s7 (j := 2) (by decide), blk_free s7 2, blk_some s7 (j := 3) (by decide), blk_free s7 3, blk_some s7 (j := 4) (by decide), blk_free s7 4, ?_⟩
  rintro w8 h8
  have s8 := blk_set (blk_set (blk_set (blk_set (blk_set s7 0 .nilFunc) 1 (.func (.func 145) #[] #[.pointer (some (Addr.mk w.heap.size 0 none)), .pointer (some (Addr.mk w1.heap.size 0 none)), .pointer (some (Addr.mk w3.heap.size 0 none))]))
    2 (.func (.func 146) #[] #[.pointer (some (Addr.mk w.heap.size 0 none)), .pointer (some (Addr.mk w3.heap.size 0 none))]))
    3 (.func (.func 147) #[] #[.pointer (some (Addr.mk w.heap.size 0 none)), .pointer (some (Addr.mk w1.heap.size 0 none)), .pointer (some (Addr.mk w3.heap.size 0 none))]))
    4 (.func (.func 148) #[] #[.pointer (some (Addr.mk w.heap.size 0 none)), .pointer (some (Addr.mk w1.heap.size 0 none)), .pointer (some (Addr.mk w3.heap.size 0 none))])
  have B8 : Below w6.heap.size w6 w8 := by
    subst h8 h7 hb4
    exact (((((alloc_below w6 _).setCell (Nat.le_refl _) _).setCell (Nat.le_refl _) _).setCell (Nat.le_refl _) _).setCell (Nat.le_refl _) _).setCell (Nat.le_refl _) _
  have s9 : w8.heap[b4]? = some (.cells #[.nilFunc, .func (.func 145) #[] #[.pointer (some (Addr.mk w.heap.size 0 none)), .pointer (some (Addr.mk w1.heap.size 0 none)), .pointer (some (Addr.mk w3.heap.size 0 none))], .func (.func 146) #[] #[.pointer (some (Addr.mk w.heap.size 0 none)), .pointer (some (Addr.mk w3.heap.size 0 none))], .func (.func 147) #[] #[.pointer (some (Addr.mk w.heap.size 0 none)), .pointer (some (Addr.mk w1.heap.size 0 none)), .pointer (some (Addr.mk w3.heap.size 0 none))], .func (.func 148) #[] #[.pointer (some (Addr.mk w.heap.size 0 none)), .pointer (some (Addr.mk w1.heap.size 0 none)), .pointer (some (Addr.mk w3.heap.size 0 none))]] t7 (0, 0)) := by rw [h8]; exact s8
  clear s8 s7 h8 h7
  have BB : Below w.heap.size w w8 := (B1.trans (B6.mono B1.size)).trans (B8.mono (Nat.le_trans B1.size B6.size))
  have t1 := blk_cell (blk_below r1 B8 (blk_lt r1)) 0
  have t2 := blk_cell (blk_below r2 B8 (blk_lt r2)) 0
  have t3 := blk_cell (blk_below r3 B8 (blk_lt r3)) 0
  refine ⟨fun _ k w' => Below w8.heap.size w8 w' ∧ (k = 1 ∨ (k = 2 ∧ ent2 id (hi2 id) (lo2 id) = false) ∨ (k = 3 ∧ ent2 id (hi2 id) (lo2 id) = false ∧ com2 id (lo2 id) = false) ∨
      (k = 4 ∧ ent2 id (hi2 id) (lo2 id) = false ∧ com2 id (lo2 id) = false ∧ pai2 id (hi2 id) (lo2 id) = false) ∨ (k = 5 ∧ kind2 id = 0)), fun _ k _ => 5 - k.toNat, ⟨Below.refl _ _, .inl rfl⟩, ?_⟩
  rintro _ w9 _ k ⟨B9, hk⟩
  have u1 := cell_below t1 B9
  have u2 := cell_below t2 B9
  have u3 := cell_below t3 B9
  have u4 := blk_below s9 B9 (blk_lt s9)
  have fin : Below w.heap.size w w9 := BB.trans (B9.mono BB.size)
  rcases hk with rfl | ⟨rfl, e1⟩ | ⟨rfl, e1, e2⟩ | ⟨rfl, e1, e2, e3⟩ | ⟨rfl, e1⟩
  · refine ⟨by decide, by decide, _, [_, _, _], blk_cell u4 1, (k_iKind1 u1 u2 u3).gives fun w' hB => ⟨_, rfl, cnd (fun h => ⟨by simp only [kind2, h, if_true], fin.trans (hB.mono fin.size)⟩) fun h => ?_⟩⟩
    exact ⟨⟨B9.trans (hB.mono B9.size), .inr (.inl ⟨by decide, h⟩)⟩, by dsimp only; decide⟩
  · refine ⟨by decide, by decide, _, [_, _], blk_cell u4 2, (k_iKind2 u1 u3).gives fun w' hB => ⟨_, rfl, cnd (fun h => ⟨by simp only [kind2, e1, h, if_true, Bool.false_eq_true, if_false], fin.trans (hB.mono fin.size)⟩) fun h => ?_⟩⟩
    exact ⟨⟨B9.trans (hB.mono B9.size), .inr (.inr (.inl ⟨by decide, e1, h⟩))⟩, by dsimp only; decide⟩
  · refine ⟨by decide, by decide, _, [_, _, _], blk_cell u4 3, (k_iKind3 u1 u2 u3).gives fun w' hB => ⟨_, rfl, cnd (fun h => ⟨by simp only [kind2, e1, e2, h, if_true, Bool.false_eq_true, if_false], fin.trans (hB.mono fin.size)⟩) fun h => ?_⟩⟩
    exact ⟨⟨B9.trans (hB.mono B9.size), .inr (.inr (.inr (.inl ⟨by decide, e1, e2, h⟩)))⟩, by dsimp only; decide⟩
  · refine ⟨by decide, by decide, _, [_, _, _], blk_cell u4 4, (k_iKind4 u1 u2 u3).gives fun w' hB => ⟨_, rfl, cnd (fun h => ⟨by simp only [kind2, e1, e2, e3, h, if_true, Bool.false_eq_true, if_false], fin.trans (hB.mono fin.size)⟩) fun h => ?_⟩⟩
    exact ⟨⟨B9.trans (hB.mono B9.size), .inr (.inr (.inr (.inr ⟨by decide, by simp only [kind2, e1, e2, e3, h, Bool.false_eq_true, if_false]⟩)))⟩, by dsimp only; decide⟩
  · exact ⟨by rw [e1], fin⟩
def may2 (id : Int) : Bool := kind2 id == 2 || kind2 id == 3
theorem k_tmay (id : Int) {w : World} : Cl Tryz.prog 70 #[.int .u64 id] w (Gives w (.bool (may2 id))) :=
  c70 _ ((k_iKind id).gives fun w' hB => ⟨_, rfl, cnd (fun h => ⟨by simp only [may2, h, Bool.true_or], hB⟩) fun h => ⟨by simp only [may2, h, Bool.false_or], hB⟩⟩)
end Go.Eng
namespace Go.Eng
open Go Go.RowKit
variable {P : Program}
theorem below_grown {w w' : World} (h : Below w.heap.size w w') : w.grownBy w' none := ⟨h.os, h.tape, h.output, h.size, fun k hk _ => h.block k hk⟩
/-- An iterator's contract. J: what has been yielded; Jx: .. when it was stopped. -/
theorem seqs_of {g : FuncId} {lb : List Value} {xs : List (List Value)} {Kp : World → World → Prop} {w : World}
    (h : ∀ (l : Nat) (J Jx : List (List Value) → World → Prop) (W : World), Below w.heap.size w W → (∀ s A B, J s A → Below A.heap.size A B → J s B) → (∀ s A B, Jx s A → Below A.heap.size A B → Jx s B) →
      (∀ pre vs W1, vs ∈ xs → J pre W1 → pre.length < xs.length → Yl P l vs W1 fun b W' => cond b (J (pre ++ [vs]) W' ∧ Kp W1 W') (Jx (pre ++ [vs]) W')) → J [] W →
      Cl P g (.func (.yield l) #[] #[] :: lb).toArray W fun _ W' => J xs W' ∨ ∃ pre, pre <+: xs ∧ Jx pre W') : Seqs P g lb xs Kp w := by
  intro l J Jx W hB hA hAx hy h0
  have key := h l (fun pre W => ∃ pre' : List {v : List Value // v ∈ xs}, pre'.map (·.1) = pre ∧ J pre' W) (fun pre W => ∃ pre' : List {v : List Value // v ∈ xs}, pre'.map (·.1) = pre ∧ Jx pre' W) W hB
    (fun s A B ⟨p, hp, hj⟩ hb => ⟨p, hp, hA p A B none hj (below_grown hb) (fun r e => by cases e)⟩) (fun s A B ⟨p, hp, hj⟩ hb => ⟨p, hp, hAx p A B none hj (below_grown hb) (fun r e => by cases e)⟩) ?_ ⟨[], rfl, h0⟩
  · refine callsIn_wide.2 ?_
    have hl : (.func (.yield l) #[] #[] :: lb).toArray = #[.func (.yield l) #[] #[]] ++ lb.toArray := by simp
    have h2 := key.2
    rw [hl] at h2
    refine h2.mono ?_
    rintro e W' ⟨v, rfl, hv⟩
    refine ⟨⟨v, rfl⟩, ?_⟩
    rcases hv with ⟨p, hp, hj⟩ | ⟨pre, hpre, p, hp, hj⟩
    · exact .inl ⟨p, hp, hj⟩
    · exact .inr ⟨p, by show p.map (fun x => x.1) <+: xs; rw [hp]; exact hpre, hj⟩
  · rintro pre vs W1 hvs ⟨p, rfl, hj⟩ hlen
    obtain ⟨fn, tmps, asg, body, hr, hround⟩ := hy p ⟨vs, hvs⟩ W1 hj (by simpa using hlen)
    refine ⟨fn, tmps, asg, body, hr, hround.mono ?_⟩
    rintro e w' (⟨rfl, hj', hk⟩ | ⟨rfl, hj'⟩)
    · exact ⟨true, rfl, ⟨p ++ [⟨vs, hvs⟩], by simp, hj'⟩, hk⟩
    · exact ⟨false, rfl, p ++ [⟨vs, hvs⟩], by simp, hj'⟩
theorem Yl.mono {l : Nat} {args : List Value} {w : World} {K K' : Bool → World → Prop} (h : Yl P l args w K) (hk : ∀ b w', K b w' → K' b w') : Yl P l args w K' := by
  obtain ⟨fn, tmps, asg, body, hr, hround⟩ := h
  exact ⟨fn, tmps, asg, body, hr, hround.mono fun e w' ⟨b, he, hb⟩ => ⟨b, he, hk b w' hb⟩⟩
/-- What lies below a number, kept. -/
theorem keepOk_below {w : World} {n : Nat} (hn : n ≤ w.heap.size) : KeepOk w (Below n) where
  refl W := Below.refl _ _
  trans h k := h.trans k
  put W l o o' hl h _ _ := (Below.refl n W).grown (grownBy_putObj' W l o') (by have := (Array.getElem?_eq_some_iff.1 h).1; omega) (fun k e => by cases e; omega)
/-- Some blocks are kept. -/
def KS (S : Nat → Prop) (A B : World) : Prop := A.heap.size ≤ B.heap.size ∧ ∀ k, S k → B.heap[k]? = A.heap[k]?
theorem KS.refl (S : Nat → Prop) (A : World) : KS S A A := ⟨Nat.le_refl _, fun _ _ => rfl⟩
theorem KS.trans {S : Nat → Prop} {A B C : World} (h : KS S A B) (k : KS S B C) : KS S A C := ⟨Nat.le_trans h.1 k.1, fun i hi => (k.2 i hi).trans (h.2 i hi)⟩
theorem KS.cell {S : Nat → Prop} {A B : World} (h : KS S A B) {a : Addr} {v : Value} (hS : S a.block) (hc : A.cell? a = some v) : B.cell? a = some v := by
  rw [World.cell?_of_block (h.2 _ hS), hc]
theorem KS.blk {S : Nat → Prop} {A B : World} (h : KS S A B) {b : Nat} {o : Obj} (hS : S b) (hc : A.heap[b]? = some o) : B.heap[b]? = some o := (h.2 _ hS).trans hc
theorem KS.of_below {S : Nat → Prop} {A B : World} {n : Nat} (h : Below n A B) (hS : ∀ k, S k → k < n) : KS S A B := ⟨h.size, fun k hk => h.block k (hS k hk)⟩
theorem keepOk_ks {w : World} {S : Nat → Prop} (hS : ∀ k, S k → k < w.heap.size) : KeepOk w (KS S) where
  refl W := KS.refl _ _
  trans h k := h.trans k
  put W l o o' hl h _ _ := ⟨by simp, fun k hk => World.putObj_heap_other (by have := hS k hk; omega)⟩
theorem ownFrom_blk {β : Type} {B b : Nat} {cs : Array Value} {t : TypeId} {fr : Nat × Nat} : OwnFrom B fun (_ : β) W => W.heap[b]? = some (.cells cs t fr) := by
  intro s W W' row h hg hr
  refine (hg.block b (blk_lt h) ?_).trans h
  rintro rfl
  obtain ⟨_, o, ho, hc⟩ := hr b rfl
  rw [h] at ho; cases ho; simp [Obj.isCells] at hc
theorem ownFrom_below {β : Type} {B n : Nat} {w : World} (hn : n ≤ B) (hw : n ≤ w.heap.size) : OwnFrom B fun (_ : β) W => Below n w W := by
  intro s W W' row h hg hr
  exact h.grown hg (by have := h.size; omega) (fun k e => by have := (hr k e).1; omega)
theorem ownFrom_const {β : Type} {B : Nat} {p : β → Prop} : OwnFrom B fun (s : β) _ => p s := fun s W W' row h _ _ => h
/-- What is no cells may have turned: cells lie as they lay. -/
theorem NC.blk {B : Nat} {W W' : World} (h : NC B W W') {b : Nat} {cs : Array Value} {t : TypeId} {fr : Nat × Nat} (hb : W.heap[b]? = some (.cells cs t fr)) : W'.heap[b]? = some (.cells cs t fr) := by
  induction h with
  | refl => exact hb
  | step row hg hr _ ih =>
    refine ih ((hg.block b (blk_lt hb) ?_).trans hb)
    rintro rfl
    obtain ⟨_, o, ho, hc⟩ := hr b rfl
    rw [hb] at ho; cases ho; simp [Obj.isCells] at hc
/-- Only cells are put, or blocks are new. -/
theorem keepsFrom_set {B : Nat} {W : World} {b j : Nat} {cs : Array Value} {t : TypeId} {fr : Nat × Nat} (h : W.heap[b]? = some (.cells cs t fr)) (v : Value) : KeepsFrom B W (W.setCell ⟨b, j, none⟩ v) := by
  refine ⟨by simp, fun k o _ hk ho => ?_⟩
  exact blk_far hk (by rintro rfl; rw [h] at hk; cases hk; simp [Obj.isCells] at ho) v
theorem keepsFrom_below {B : Nat} {W W' : World} (h : Below W.heap.size W W') : KeepsFrom B W W' := ⟨h.size, fun k o _ hk _ => blk_below hk h (blk_lt hk)⟩
end Go.Eng
namespace Go.Eng
open Go Go.RowKit Go.Proofs
set_option maxRecDepth 10000
/-- What types.Check asks. -/
def up2 : List Int → Bool
  | [] => true
  | [x] => may2 x
  | x :: y :: l => may2 x && decide (x < y) && up2 (y :: l)
def right2 (l : List Int) : Bool := decide (l.length ≤ 12) && up2 l
def check2 (l : List Int) : Int := if right2 l then 0 else 130
theorem up2_snoc : ∀ (l : List Int) (y : Int), up2 (l ++ [y]) = (up2 l && may2 y && (match l.getLast? with | some x => decide (x < y) | none => true))
  | [], y => by simp [up2]
  | [x], y => by simp [up2, Bool.and_comm, Bool.and_assoc]
  | x :: z :: l, y => by
    have := up2_snoc (z :: l) y
    simp only [List.cons_append, up2] at this ⊢
    rw [this]
    simp [List.getLast?_cons_cons, Bool.and_assoc]
theorem up2_take {l : List Int} {k : Nat} (h : up2 l = true) : up2 (l.take k) = true := by
  induction l generalizing k with
  | nil => simp [up2]
  | cons x l ih =>
    cases k with
    | zero => simp [up2]
    | succ k =>
      cases l with
      | nil => simpa [up2] using h
      | cons y l =>
        cases k with
        | zero => simp only [up2, Bool.and_eq_true] at h; simpa [up2] using h.1.1
        | succ k =>
          simp only [up2, Bool.and_eq_true] at h
          have := ih (k := k + 1) h.2
          simp only [List.take_succ_cons] at this ⊢
          simp only [up2, h.1.1, h.1.2, this, Bool.and_self]
section
variable {w : World} {a b : Option Addr} {n c m d : Nat} {l l' : List Int}
theorem k_tCheck (h : Row encId w a n c l) : Cl Tryz.prog 39 #[.slice a n c] w (Gives w (.int .i64 (check2 l))) := by
  refine c39 _ _ _ ?_
  have e1 := h.len; have e3 := h.n63
  refine ⟨fun ok i w' => Below w.heap.size w w' ∧ ∃ k : Nat, i = k ∧ k ≤ n ∧ ok = decide (l.length ≤ 12) ∧ up2 (l.take k) = true ∧ (k ≠ 0 → ok = true), fun _ i _ => n - i.toNat, ⟨Below.refl _ _, 0, rfl, by omega, by rw [e1]; congr 1; simp; omega, rfl, by simp⟩, ?_⟩
  rintro _ w1 ok _ ⟨hB, k, rfl, hk, hok, ht, hok2⟩
  refine cnd (fun hc => ?_) fun hc => ?_
  · have hkn : k < n := by simpa using hc
    refine (h.below hB).idN hkn fun hl => ?_
    have hno : up2 (l.take (k + 1)) = false → check2 l = 130 := by
      intro hf
      cases hu : up2 l with
      | false => simp [check2, right2, hu]
      | true => rw [up2_take hu] at hf; simp at hf
    rw [take_one hl, up2_snoc, ht] at hno
    refine cnd (fun h1 => ?_) fun h1 => ⟨?_, hB⟩
    · refine (k_tmay _).gives fun w2 hB2 => ⟨_, rfl, cnd (fun h2 => ?_) fun h2 => ⟨by rw [hno (by rw [h2]; simp)], hB.trans (hB2.mono hB.size)⟩⟩
      have hB3 := hB.trans (hB2.mono hB.size)
      have h12 : l.length ≤ 12 := by rw [hok] at h1; simpa using h1
      refine cnd (fun h3 => ?_) fun h3 => ?_
      · have hk0 : k = 0 := by simp at h3; omega
        subst hk0
        rw [nx (by omega)]
        refine ⟨⟨hB3, 0 + 1, rfl, by omega, by simp [h12], ?_, by simp⟩, dec hkn⟩
        rw [take_one hl, up2_snoc]; simp [up2, h2]
      · have hk0 : 0 < k := by simp at h3; omega
        have e : IntKind.i64.wrap ((k : Int) - 1) = ((k - 1 : Nat) : Int) := by rw [wrap64 (by omega) (by omega)]; omega
        rw [e]
        refine (h.below hB3).idN (by omega) fun hl' => ?_
        rw [getLast_take hk0 hl] at hno
        refine cnd (fun h4 => ?_) fun h4 => ?_
        · have hlt : decide (l[k - 1] < l[k]) = false := by simpa using h4
          refine cnd (fun h5 => ⟨by rw [hno (by simp only [hlt, Bool.and_false])], hB3⟩) fun h5 => ?_
          rw [h4] at h5; simp at h5
        · have hlt : decide (l[k - 1] < l[k]) = true := by simpa using h4
          rw [nx (by omega)]
          refine ⟨⟨hB3, k + 1, rfl, by omega, by simp [hlt, h12], ?_, by simp [hlt]⟩, dec hkn⟩
          rw [take_one hl, up2_snoc, ht, getLast_take hk0 hl, h2]
          simp only [hlt, Bool.and_self]
    · have : right2 l = false := by rw [h1] at hok; simp [right2, ← hok]
      simp [check2, this]
  · have hkn : ¬ k < n := by simpa using hc
    rw [take_all (by omega)] at ht
    refine cnd (fun h1 => ⟨?_, hB⟩) fun h1 => ⟨?_, hB⟩
    · have : ok = false := by simpa using h1
      rw [this] at hok; simp [check2, right2, ← hok]
    · have : ok = true := by simpa using h1
      rw [this] at hok; simp [check2, right2, ← hok, ht]
theorem k_cmpNaNId (x : Int) : Cl Tryz.prog 131 #[.int .u64 x] w (Is (.bool false) w) := c131 _ ⟨by simp, rfl⟩
theorem k_slNaNId (x : Int) : Cl Tryz.prog 139 #[.int .u64 x] w (Is (.bool false) w) := c139 _ ⟨by simp, rfl⟩
theorem k_cmpLessId (x y : Int) : Cl Tryz.prog 138 #[.int .u64 x, .int .u64 y] w (Is (.bool (decide (x < y))) w) :=
  c138 _ _ ((k_cmpNaNId x).is ⟨_, rfl, ⟨rfl, rfl⟩⟩)
def cmpI (x y : Int) : Int := if x < y then -1 else if y < x then 1 else 0
theorem k_cmpCompareId (x y : Int) : Cl Tryz.prog 93 #[.int .u64 x, .int .u64 y] w (Is (.int .i64 (cmpI x y)) w) := by
  refine c93 _ _ ((k_cmpNaNId x).is ⟨_, rfl, (k_cmpNaNId y).is ⟨_, rfl, ?_⟩⟩)
  refine cnd (fun h => by cases h) fun _ => cnd (fun h => by cases h) fun _ => cnd (fun h => ⟨?_, rfl⟩) fun h => cnd (fun h2 => ⟨?_, rfl⟩) fun h2 => ⟨?_, rfl⟩
  · have : x < y := by simpa using h
    simp [cmpI, this]
  · have g1 : ¬ x < y := by simpa using h
    have g2 : y < x := by simpa using h2
    simp [cmpI, g1, g2]
  · have g1 : ¬ x < y := by simpa using h
    have g2 : ¬ y < x := by simpa using h2
    simp [cmpI, g1, g2]
/-- How rows stand. -/
def cmpL : List Int → List Int → Int
  | [], [] => 0
  | [], _ :: _ => -1
  | _ :: _, [] => 1
  | x :: l, y :: l' => if x < y then -1 else if y < x then 1 else cmpL l l'
theorem cmpL_same : ∀ {k : Nat} {l l' : List Int}, l.take k = l'.take k → k ≤ l.length → k ≤ l'.length → cmpL l l' = cmpL (l.drop k) (l'.drop k)
  | 0, l, l', _, _, _ => by simp
  | k + 1, [], _, _, h, _ => by simp at h
  | k + 1, _, [], _, _, h => by simp at h
  | k + 1, x :: l, y :: l', h, h1, h2 => by
    simp only [List.take_succ_cons, List.cons.injEq] at h
    obtain ⟨rfl, h⟩ := h
    simp only [cmpL, Int.lt_irrefl, if_false, List.drop_succ_cons]
    exact cmpL_same h (by simpa using h1) (by simpa using h2)
theorem k_CompareFuncIds (h1 : Row encId w a n c l) (h2 : Row encId w b m d l') : Cl Tryz.prog 92 #[.slice a n c, .slice b m d, .func (.func 93) #[] #[]] w (Is (.int .i64 (cmpL l l')) w) := by
  refine c92 _ _ _ _ _ _ 93 [] ?_
  have e1 := h1.len; have e2 := h2.len; have e3 := h1.n63; have e4 := h2.n63
  refine ⟨fun _ i w' => w' = w ∧ ∃ k : Nat, i = k ∧ k ≤ n ∧ k ≤ m ∧ l.take k = l'.take k, fun _ i _ => n - i.toNat, ⟨rfl, 0, rfl, by omega, by omega, rfl⟩, ?_⟩
  rintro _ w1 s _ ⟨rfl, k, rfl, hk, hkm, ht⟩
  have hcmp := cmpL_same ht (by omega) (by omega)
  refine cnd (fun hc => ?_) fun hc => ?_
  · have hkn : k < n := by simpa using hc
    refine h1.idN hkn fun hl => ?_
    rw [List.drop_eq_getElem_cons hl] at hcmp
    refine cnd (fun h3 => ⟨?_, rfl⟩) fun h3 => ?_
    · have : k = m := by simp at h3; omega
      rw [hcmp, List.drop_of_length_le (l := l') (by omega)]; rfl
    · have hkm' : k < m := by simp at h3; omega
      refine h2.idN hkm' fun hl' => (k_cmpCompareId _ _).is ⟨_, rfl, ?_⟩
      rw [List.drop_eq_getElem_cons hl'] at hcmp
      simp only [cmpL] at hcmp
      refine cnd (fun h4 => ⟨?_, rfl⟩) fun h4 => ?_
      · by_cases g1 : l[k] < l'[k]
        · rw [hcmp, if_pos g1]; simp [cmpI, g1]
        · by_cases g2 : l'[k] < l[k]
          · rw [hcmp, if_neg g1, if_pos g2]; simp [cmpI, g1, g2]
          · simp [cmpI, g1, g2] at h4
      · have g1 : ¬ l[k] < l'[k] := by intro g; simp [cmpI, g] at h4
        have g2 : ¬ l'[k] < l[k] := by intro g; simp [cmpI, g, g1] at h4
        rw [nx (by omega)]
        exact ⟨⟨rfl, k + 1, rfl, by omega, by omega, by rw [take_one hl, take_one hl', ht, show l[k] = l'[k] by omega]⟩, dec hkn⟩
  · have hkn : ¬ k < n := by simpa using hc
    rw [List.drop_of_length_le (by omega)] at hcmp
    refine cnd (fun h3 => ⟨?_, rfl⟩) fun h3 => ⟨?_, rfl⟩
    · have : n < m := by simp at h3; omega
      rw [hcmp, List.drop_eq_getElem_cons (l := l') (by omega)]; rfl
    · have : ¬ n < m := by simp at h3; omega
      rw [hcmp, List.drop_of_length_le (by omega)]; rfl
theorem k_tCompare (h1 : Row encId w a n c l) (h2 : Row encId w b m d l') : Cl Tryz.prog 41 #[.slice a n c, .slice b m d] w (Is (.int .i64 (cmpL l l')) w) :=
  c41 _ _ _ _ _ _ ((k_CompareFuncIds h1 h2).is ⟨_, rfl, rfl, rfl⟩)
end
end Go.Eng
namespace Go.Eng
open Go Go.RowKit
variable {α : Type} {P : Program}
section
variable {enc : α → List Value} {k : Nat} {t e : TypeId} {bytes : Nat} {z : Value} {lo : Nat} {w : World} {a : Option Addr} {n c : Nat} {l : List α}
/-- append where there is room. -/
theorem app_room (T : Ty P t e k bytes z) (E : En enc k) (h : Own enc k e lo w a n c l) {b : Option Addr} {m c' : Nat} {l' : List α} (hr : Rd enc w b m l') (hroom : n + m ≤ c) {ty : TypeId} :
    ∃ w' : World, Sem.run P (Builtin.append_ #[t, t] ty #[.slice a n c, .slice b m c']) w = .ok (.slice a (n + m) c) w' ∧ (Own enc k e lo w' a (n + m) c (l ++ l') ∧ w.grownBy w' (a.map (·.block))) := by
  obtain ⟨i, hi, hs, hbs, hz⟩ := T.hi
  have hnl := h.1
  have hml := hr.1
  subst hs
  cases b with
  | none =>
    have hm0 : l' = [] := by
      rcases hr.2 with h0 | ⟨p, hp, _⟩
      · exact h0
      · simp at hp
    subst hm0
    simp at hml; subst hml
    refine ⟨w, ?_, by simpa using h, ⟨rfl, rfl, rfl, Nat.le_refl _, fun _ _ _ => rfl⟩⟩
    have h2 := h.2.1
    cases a <;> simp [Builtin.append_, run_underlying T.ht, sizeOf, typeInfo, hi, Builtin.lenOf, Builtin.firstCells, h2, storeCells]
  | some p =>
    rcases h.2.2.2 with ⟨ha, hc⟩ | ⟨g, cs, ha, hlg, hg, hsz, ht⟩
    · subst ha; subst hc
      obtain ⟨rfl, rfl⟩ : n = 0 ∧ m = 0 := by omega
      obtain rfl : l = [] := List.eq_nil_of_length_eq_zero hnl.symm
      obtain rfl : l' = [] := List.eq_nil_of_length_eq_zero hml.symm
      refine ⟨w, ?_, Own.nil, ⟨rfl, rfl, rfl, Nat.le_refl _, fun _ _ _ => rfl⟩⟩
      simp [Builtin.append_, run_underlying T.ht, sizeOf, typeInfo, hi, Builtin.lenOf, Builtin.firstCells, loadCells, loadCellsFrom]
    · subst ha
      have hl : (l'.flatMap enc).length = m * i.size := by rw [length_flat E.len, hml]
      have hfit : n * i.size + (l'.flatMap enc).length ≤ cs.size := by rw [hl, ← Nat.add_mul]; exact Nat.le_trans (Nat.mul_le_mul_right _ hroom) hsz
      have hrun := run_append_room (P := P) w t ty e i T.ht hi g n c cs hg p m c' _ hl hr.cells E.flat hroom hfit
      refine ⟨_, hrun, ⟨by simp [hnl, hml], hroom, h.2.2.1, .inr ⟨g, _, rfl, hlg, setRow_heap w g cs _ e _ hg, ?_, ?_⟩⟩, ⟨rfl, rfl, rfl, by simp, fun k _ hk => setRow_other w g k _ (fun e => hk (by simp [e]))⟩⟩
      · simp only [List.size_toArray, List.length_append, List.length_take, List.length_drop, Array.length_toList]
        omega
      · rw [ht, List.flatMap_append]
        exact List.take_left' (by rw [List.length_append, length_flat E.len, hl, ← hnl, Nat.add_mul])
theorem zeroCells_one {z : Value} (h1 : ∀ v ∈ z.cells.toList, v.oneCell' = true) (hz : 0 < z.cells.size) (n : Nat) : ∀ v ∈ (Builtin.zeroCells z.cells n).toList, v.oneCell' = true := by
  intro v hv
  simp only [Builtin.zeroCells, Array.toList_map, List.mem_map] at hv
  obtain ⟨i, _, rfl⟩ := hv
  have : i % z.cells.size < z.cells.size := Nat.mod_lt _ hz
  rw [getElem!_pos z.cells _ this]
  exact h1 _ (by simp)
/-- The room behind a row is cleared. -/
theorem clear_own (T : Ty P t e k bytes z) (E : En enc k) (h1 : ∀ v ∈ z.cells.toList, v.oneCell' = true) (h : Own enc k e lo w a n c l) {m c1 c2 : Nat} (hm : n + m ≤ c) (hc1 : c ≤ c1) {ty : TypeId} :
    ∃ w' : World, Sem.run P (Builtin.clear_ #[t] ty #[.slice (offA a c1 n k) m c2]) w = .ok (.tuple #[]) w' ∧ (Own enc k e lo w' a n c l ∧ w.grownBy w' (a.map (·.block))) := by
  obtain ⟨i, hi, hs, hbs, hz⟩ := T.hi
  have hnl := h.1
  subst hs
  have triv : ∀ b, (b = none ∨ m = 0) → Sem.run P (Builtin.clear_ #[t] ty #[.slice b m c2]) w = .ok (.tuple #[]) w := by
    intro b hb
    have : (Builtin.clear_ #[t] ty #[.slice b m c2]).run P w = .ok (.tuple #[]) w := by
      rcases hb with rfl | rfl
      · simp [Builtin.clear_, run_underlying T.ht]
      · cases b <;> simp [Builtin.clear_, run_underlying T.ht]
    exact this
  by_cases hm0 : m = 0
  · exact ⟨w, triv _ (.inr hm0), h, ⟨rfl, rfl, rfl, Nat.le_refl _, fun _ _ _ => rfl⟩⟩
  · rcases h.2.2.2 with ⟨ha, hc⟩ | ⟨g, cs, ha, hlg, hg, hsz, ht⟩
    · omega
    · subst ha
      have hbeq : Nat.beq c1 n = false := by
        rw [Bool.eq_false_iff]; intro hh
        have := Nat.eq_of_beq_eq_true hh; omega
      have hoff : offA (some ⟨g, 0, none⟩) c1 n i.size = some ⟨g, n * i.size, none⟩ := by
        simp [offA, hbeq, Addr.add_lit]
      have hsz2 : (Builtin.zeroCells z.cells m).toList.length = m * i.size := by simp [size_zeroCells, T.hz]
      have hst := run_storeCells_at P g (n * i.size) e (Builtin.zeroCells z.cells m).toList 0 cs w hg (by
        rw [hsz2, Nat.add_zero, ← Nat.add_mul]; exact Nat.le_trans (Nat.mul_le_mul_right _ hm) hsz) (zeroCells_one h1 (by rw [T.hz]; exact T.pos) m)
      simp only [Nat.add_zero] at hst
      rw [hoff]
      have hzv : (zeroValue e).run P w = .ok z w := by simp [zeroValue, typeInfo, hi, hz]
      have hrun : Sem.run P (Builtin.clear_ #[t] ty #[.slice (some ⟨g, n * i.size, none⟩) m c2]) w = .ok (.tuple #[]) (w.setRow g (cs.toList.take (n * i.size) ++ (Builtin.zeroCells z.cells m).toList ++ cs.toList.drop (n * i.size + (Builtin.zeroCells z.cells m).toList.length)).toArray) := by
        cases m with
        | zero => exact absurd rfl hm0
        | succ m => simp [Builtin.clear_, run_underlying T.ht, hzv, hst]
      refine ⟨_, hrun, ⟨hnl, h.2.1, h.2.2.1, .inr ⟨g, _, rfl, hlg, setRow_heap w g cs _ e _ hg, ?_, ?_⟩⟩, ⟨rfl, rfl, rfl, by simp, fun k _ hk => setRow_other w g k _ (fun e => hk (by simp [e]))⟩⟩
      · simp only [List.size_toArray, List.length_append, List.length_take, List.length_drop, Array.length_toList]
        omega
      · rw [ht, List.append_assoc]
        exact List.take_left' (by rw [length_flat E.len, hnl])
end
end Go.Eng
namespace Go.Eng
open Go Go.RowKit Go.Proofs
set_option maxRecDepth 10000
section
variable {w : World} {a b : Option Addr} {n c m d : Nat} {l l' : List Int}
/-- Where an id is, or would be. -/
def at2 (l : List Int) (x : Int) : Nat := (l.takeWhile fun y => decide (y < x)).length
theorem at2_le (l : List Int) (x : Int) : at2 l x ≤ l.length := (List.takeWhile_sublist _).length_le
theorem at2_eq : ∀ {l : List Int} {x : Int} {i : Nat}, i ≤ l.length → (∀ k (h : k < l.length), k < i → l[k] < x) → (∀ h : i < l.length, ¬ l[i] < x) → at2 l x = i
  | [], x, i, h, _, _ => by simp at h; subst h; rfl
  | y :: l, x, 0, _, _, h2 => by
    have := h2 (by simp)
    simp at this
    simp [at2, List.takeWhile_cons, Int.not_lt.2 this]
  | y :: l, x, i + 1, h, h1, h2 => by
    have e := h1 0 (by simp) (by omega)
    simp at e
    have ih := at2_eq (l := l) (x := x) (i := i) (by simpa using h) (fun k hk hki => h1 (k + 1) (Nat.succ_lt_succ hk) (by omega)) (fun hi => h2 (Nat.succ_lt_succ hi))
    simp only [at2, List.takeWhile_cons, e, decide_true, if_true, List.length_cons] at ih ⊢
    rw [ih]
theorem at2_spec : ∀ (l : List Int) (x : Int), (∀ k (h : k < l.length), k < at2 l x → l[k] < x) ∧ (∀ h : at2 l x < l.length, ¬ l[at2 l x] < x)
  | [], x => ⟨by simp, by simp⟩
  | y :: l, x => by
    by_cases hy : y < x
    · have e : at2 (y :: l) x = at2 l x + 1 := by simp [at2, List.takeWhile_cons, hy]
      obtain ⟨h1, h2⟩ := at2_spec l x
      refine ⟨fun k hk hki => ?_, fun h => ?_⟩
      · cases k with
        | zero => exact hy
        | succ k => exact h1 k (by simpa using hk) (by omega)
      · have e2 : (y :: l)[at2 (y :: l) x] = l[at2 l x]'(by rw [e] at h; simpa using h) := by simp [e]
        rw [e2]; exact h2 _
    · have e : at2 (y :: l) x = 0 := by simp [at2, List.takeWhile_cons, hy]
      refine ⟨fun k hk hki => by omega, fun h => ?_⟩
      have e2 : (y :: l)[at2 (y :: l) x] = y := by simp [e]
      rw [e2]; exact hy
theorem mid_eq {i j : Nat} (h : i + j < 9223372036854775808) : IntKind.i64.wrap (bshr .u64 (IntKind.u64.wrap (IntKind.i64.wrap ((i : Int) + (j : Int)))) 1) = (((i + j) / 2 : Nat) : Int) := by
  rw [show IntKind.i64.wrap ((i : Int) + (j : Int)) = (i : Int) + j from wrap64 (by omega) (by omega), wrapu (by omega) (by omega)]
  have : bshr .u64 ((i : Int) + (j : Int)) 1 = (((i + j) / 2 : Nat) : Int) := by
    simp only [bshr]
    rw [show (2 : Int) ^ (min (1 : Int).toNat IntKind.u64.bits) = 2 from rfl, Int.fdiv_eq_ediv_of_nonneg _ (by omega)]
    omega
  rw [this, wrap64 (by omega) (by omega)]
theorem k_BinSearchIds (h : Row encId w a n c l) (hsort : l.Pairwise (· < ·)) (hs : n ≤ 1048576) (x : Int) :
    Cl Tryz.prog 104 #[.slice a n c, .int .u64 x] w (Is (.tuple #[.int .i64 (at2 l x), .bool (decide (x ∈ l))]) w) := by
  refine c104 _ _ _ _ ?_
  have e1 := h.len
  have up : ∀ (i j : Nat) (hi : i < l.length) (hj : j < l.length), i < j → l[i] < l[j] := fun i j hi hj hij => List.pairwise_iff_getElem.1 hsort i j hi hj hij
  refine ⟨fun i j w' => w' = w ∧ ∃ i' : Nat, i = i' ∧ i' = at2 l x, ?_, ?_⟩
  · refine ⟨fun i j w' => w' = w ∧ ∃ i' j' : Nat, i = i' ∧ j = j' ∧ i' ≤ j' ∧ j' ≤ n ∧ (∀ k (h : k < l.length), k < i' → l[k] < x) ∧ (∀ k (h : k < l.length), j' ≤ k → ¬ l[k] < x), fun i j _ => (j - i).toNat,
      ⟨rfl, 0, n, rfl, rfl, by omega, by omega, by intros; omega, by intros; omega⟩, ?_⟩
    rintro _ w1 _ _ ⟨rfl, i, j, rfl, rfl, hij, hj, hlo, hhi⟩
    refine cnd (fun hc => ?_) fun hc => ?_
    · have hlt : i < j := by simpa using hc
      rw [mid_eq (by omega)]
      refine h.idN (k := (i + j) / 2) (by omega) fun hl => (k_cmpLessId _ _).is ⟨_, rfl, cnd (fun h2 => ?_) fun h2 => ?_⟩
      · have h2' : l[(i + j) / 2] < x := by simpa using h2
        rw [nx (by omega)]
        refine ⟨⟨rfl, (i + j) / 2 + 1, j, rfl, rfl, by omega, hj, fun k hk hki => ?_, hhi⟩, by dsimp only; omega⟩
        by_cases hkm : k = (i + j) / 2
        · subst hkm; exact h2'
        · have := up k ((i + j) / 2) hk hl (by omega); omega
      · have h2' : ¬ l[(i + j) / 2] < x := by simpa using h2
        refine ⟨⟨rfl, i, (i + j) / 2, rfl, rfl, by omega, by omega, hlo, fun k hk hki => ?_⟩, by dsimp only; omega⟩
        by_cases hkm : k = (i + j) / 2
        · subst hkm; exact h2'
        · have := up ((i + j) / 2) k hl hk (by omega); omega
    · have : i = j := by simp at hc; omega
      subst this
      exact ⟨rfl, i, rfl, (at2_eq (by omega) hlo (fun hi => hhi i hi (Nat.le_refl _))).symm⟩
  · rintro _ w3 _ j ⟨rfl, i, rfl, hi⟩
    have hle := at2_le l x
    subst hi
    have tw := (at2_spec l x).1
    have dw := (at2_spec l x).2
    refine cnd (fun hc => ?_) fun hc => ?_
    · have hin : at2 l x < n := by simpa using hc
      refine h.idN (k := at2 l x) hin fun hl => cnd (fun h2 => ⟨?_, rfl⟩) fun h2 => h.idN hin fun hl => (k_slNaNId _).is ⟨_, rfl, ⟨?_, rfl⟩⟩
      · have h2' : l[at2 l x] = x := by simpa using h2
        have : x ∈ l := by rw [← h2']; exact List.getElem_mem _
        simp [this]
      · have h2' : l[at2 l x] ≠ x := by simpa using h2
        have : x ∉ l := by
          intro hm
          obtain ⟨k, hk, hkx⟩ := List.mem_iff_getElem.1 hm
          have h3 := dw hl
          rcases Nat.lt_trichotomy k (at2 l x) with hki | hki | hki
          · have := tw k hk hki; omega
          · subst hki; exact h2' hkx
          · have := up (at2 l x) k hl hk hki; omega
        simp [this]
    · have hin : ¬ at2 l x < n := by simpa using hc
      have : x ∉ l := by
        intro hm
        obtain ⟨k, hk, hkx⟩ := List.mem_iff_getElem.1 hm
        have := tw k hk (by omega); omega
      refine ⟨?_, rfl⟩
      simp [this]
end
end Go.Eng
namespace Go.Eng
open Go Go.RowKit Go.Proofs
set_option maxRecDepth 10000
def with2 (l : List Int) (x : Int) : List Int := if x ∈ l then l else l.take (at2 l x) ++ x :: l.drop (at2 l x)
def without2 (l : List Int) (x : Int) : List Int := l.take (at2 l x) ++ l.drop (at2 l x + 1)
theorem offA_none {a : Option Addr} {m l s : Nat} (h : offA a m l s = none) : a = none := by
  unfold offA at h
  split at h
  · exact h
  · simpa using h
theorem up2_sorted : ∀ {l : List Int}, up2 l = true → l.Pairwise (· < ·)
  | [], _ => .nil
  | [x], _ => List.pairwise_singleton _ _
  | x :: y :: l, h => by
    simp only [up2, Bool.and_eq_true, decide_eq_true_eq] at h
    have ih := up2_sorted h.2
    refine .cons (fun z hz => ?_) ih
    rcases List.mem_cons.1 hz with rfl | hz
    · exact h.1.2
    · exact Int.lt_trans h.1.2 ((List.pairwise_cons.1 ih).1 z hz)
theorem right2_sorted {l : List Int} (h : right2 l = true) : l.Pairwise (· < ·) ∧ l.length ≤ 12 := by
  simp only [right2, Bool.and_eq_true, decide_eq_true_eq] at h
  exact ⟨up2_sorted h.2, h.1⟩
/-- A row that is read, wherever it lies. -/
def Reads (w : World) (l : List Int) (v : Value) (w' : World) : Prop := ∃ a n c, v = .slice a n c ∧ Row encId w' a n c l ∧ Below w.heap.size w w'
section
variable {w : World} {a b : Option Addr} {n c m d : Nat} {l l' : List Int}
theorem k_twith (h : Row encId w a n c l) (hsort : l.Pairwise (· < ·)) (hs : n ≤ 1048570) (x : Int) : Cl Tryz.prog 72 #[.slice a n c, .int .u64 x] w (Reads w (with2 l x)) := by
  refine c72 _ _ _ _ ((k_BinSearchIds h hsort (by omega) x).is ⟨_, _, rfl, cnd (fun hc => ?_) fun hc => ?_⟩)
  · have : x ∈ l := by simpa using hc
    exact ⟨_, _, _, rfl, by simpa [with2, this] using h, Below.refl _ _⟩
  · have hx : x ∉ l := by simpa using hc
    have e1 := h.len; have h2 := at2_le l x; have hle := h.le
    rintro _ rfl
    simp only [Int.toNat_natCast]
    refine ⟨by omega, by omega, by omega, by omega, by omega, by omega, ?_⟩
    rintro _ _ rfl rfl
    have hB := ((Below.refl w.heap.size w).drew).alloc (o := .cells #[.int .u64 x] 32) (Nat.le_refl _)
    have hnew : Rd encId (w.drew.alloc (.cells #[.int .u64 x] 32)) (some ⟨w.drew.heap.size, 0, none⟩) 1 [x] := (row_new enId w.drew 32 [x] (by simp)).rd
    obtain ⟨a1, n1, c1, w1, hrun, ho, hB1⟩ := app_new (c := at2 l x) (ty := 33) (lo := w.heap.size) tyIds enId ((h.below hB).rd.take (at2 l x) (by omega)) (fun ha => by have := h.nil ha; omega) hB.size hnew (by omega) (by omega) (c' := 1) (by simp only [maxLen]; omega) (by omega)
    refine ⟨a1, n1, c1, w1, hrun, ?_⟩
    have hB2 := hB.trans (hB1.mono hB.size)
    have hn1 := ho.len
    simp only [List.length_append, List.length_take, List.length_singleton] at hn1
    obtain ⟨a2, n2, c2, w2, hrun2, ho2, hg2⟩ := app_own (ty := 33) (c' := c - at2 l x) tyIds enId ho hB2.size ((h.below hB2).rd.drop enId.len (at2 l x) (by omega) h.le) (fun ha => by have := h.nil (offA_none ha); omega) (by simp only [maxLen]; omega) (by omega)
    refine ⟨a2, n2, c2, w2, hrun2, _, _, _, rfl, ?_, hB2.trans (ho.belowOf hg2 hB2.size)⟩
    have := ho2.row
    simpa [with2, hx] using this
theorem k_DeleteIds (h : Own encId 1 32 m w a n c l) (hm : m ≤ w.heap.size) {i : Nat} (hi : i < n) (hs : n ≤ 1048570) :
    Cl Tryz.prog 105 #[.slice a n c, .int .i64 (i : Int), .int .i64 ((i + 1 : Nat) : Int)] w fun v w' => v = .slice a (n - 1) c ∧ Own encId 1 32 m w' a (n - 1) c (l.take i ++ l.drop (i + 1)) ∧ Below m w w' := by
  have e1 := h.len; have hle := h.2.1
  refine c105 _ _ _ _ _ ⟨by omega, by omega, by omega, by omega, by omega, by omega, cnd (fun hc => by simp at hc; omega) fun hc => ?_⟩
  rintro _ rfl
  simp only [Int.toNat_natCast]
  refine ⟨by omega, by omega, by omega, by omega, ?_⟩
  have h0 : Own encId 1 32 m w.drew a n c l := h
  obtain ⟨w1, hrun, ho, hg⟩ := app_room (ty := 33) (c' := c - (i + 1)) tyIds enId (h0.take enId.len i c (by omega) (by omega) (Nat.le_refl _)) (h0.rd.drop enId.len (i + 1) (by omega) (c := c) hle) (by omega)
  have hn : i + (n - (i + 1)) = n - 1 := by omega
  rw [hn] at hrun ho
  refine ⟨_, _, _, w1, hrun, by omega, by omega, by omega, by omega, ?_⟩
  have hB1 : Below m w w1 := (Below.refl m w).drew.trans (h0.belowOf hg hm)
  obtain ⟨w2, hrun2, ho2, hg2⟩ := clear_own (ty := 0) (m := n - (n - 1)) (c1 := c) (c2 := c - (n - 1)) tyIds enId (by simp [Value.cells, Value.oneCell']) ho (by omega) (Nat.le_refl _)
  simp only [Int.toNat_natCast]
  exact ⟨w2, hrun2, trivial, ho2, hB1.trans (ho.belowOf hg2 (by have := hB1.size; omega))⟩
/-- A slice and an error. -/
def ReadsE (w : World) (l : List Int) (e : Int) (v : Value) (w' : World) : Prop := ∃ a n c, v = .tuple #[.slice a n c, .int .i64 e] ∧ Row encId w' a n c l ∧ Below w.heap.size w w'
theorem readsE {w w' : World} {p : List Int × Int} {l' : List Int} {e : Int} {a : Option Addr} {n c : Nat} (hp : p = (l', e)) (hr : Row encId w' a n c l') (hB : Below w.heap.size w w') : ReadsE w p.1 p.2 (.tuple #[.slice a n c, .int .i64 e]) w' := by
  subst hp; exact ⟨_, _, _, rfl, hr, hB⟩
def with2e (l : List Int) (x : Int) : List Int × Int :=
  if right2 l = false then ([], 130) else if may2 x = false then ([], 2) else if 12 < (with2 l x).length then ([], 6) else (with2 l x, 0)
def without2e (l : List Int) (x : Int) : List Int × Int :=
  if right2 l = false then ([], 130) else if x ∉ l then ([], 4) else (without2 l x, 0)
theorem with2_len (l : List Int) (x : Int) : (with2 l x).length ≤ l.length + 1 := by
  unfold with2; split
  · omega
  · have := at2_le l x; simp; omega
theorem k_tWith (h : Row encId w a n c l) (x : Int) : Cl Tryz.prog 25 #[.slice a n c, .int .u64 x] w (ReadsE w (with2e l x).1 (with2e l x).2) := by
  refine c25 _ _ _ _ ((k_tCheck h).gives fun w1 hB1 => ⟨_, rfl, cnd (fun hc => ?_) fun hc => ?_⟩)
  · have : right2 l = false := by cases hr : right2 l <;> simp [check2, hr] at hc ⊢
    exact readsE (by simp [with2e, this]) Row.nil' hB1
  · have hr : right2 l = true := by cases hr : right2 l <;> simp [check2, hr] at hc ⊢
    obtain ⟨hsort, h12⟩ := right2_sorted hr
    have e1 := h.len
    refine (k_tmay x).gives fun w2 hB2 => ⟨_, rfl, cnd (fun hc => ?_) fun hc => ?_⟩
    · have : may2 x = false := by simpa using hc
      exact readsE (by simp [with2e, hr, this]) Row.nil' (hB1.trans (hB2.mono hB1.size))
    · have hm : may2 x = true := by simpa using hc
      have hB3 := hB1.trans (hB2.mono hB1.size)
      have hwl := with2_len l x
      refine (k_twith (h.below hB3) hsort (by omega) x).mono ?_
      rintro _ w3 ⟨a3, n3, c3, rfl, h3, hB4⟩
      have hn3 := h3.len
      have hB5 := hB3.trans (hB4.mono hB3.size)
      refine ⟨_, _, _, rfl, (k_townIds h3 (by omega)).mono ?_⟩
      rintro _ w4 ⟨a4, n4, c4, rfl, ho, hB6⟩
      have hn4 := ho.len
      have hB7 := hB5.trans (hB6.mono hB5.size)
      refine ⟨_, _, _, rfl, cnd (fun hc => ?_) fun hc => ?_⟩
      · have : 12 < (with2 l x).length := by simp at hc; omega
        exact readsE (by simp [with2e, hr, hm, this]) Row.nil' hB7
      · have : ¬ 12 < (with2 l x).length := by simp at hc; omega
        exact readsE (by simp [with2e, hr, hm]; omega) ho.row hB7
theorem k_tWithout (h : Row encId w a n c l) (x : Int) : Cl Tryz.prog 54 #[.slice a n c, .int .u64 x] w (ReadsE w (without2e l x).1 (without2e l x).2) := by
  refine c54 _ _ _ _ ((k_tCheck h).gives fun w1 hB1 => ⟨_, rfl, cnd (fun hc => ?_) fun hc => ?_⟩)
  · have : right2 l = false := by cases hr : right2 l <;> simp [check2, hr] at hc ⊢
    rw [show check2 l = 130 by simp [check2, this]]
    exact readsE (by simp [without2e, this]) Row.nil' hB1
  · have hr : right2 l = true := by cases hr : right2 l <;> simp [check2, hr] at hc ⊢
    obtain ⟨hsort, h12⟩ := right2_sorted hr
    have e1 := h.len
    refine (k_BinSearchIds (h.below hB1) hsort (by omega) x).is ⟨_, _, rfl, cnd (fun hc => ?_) fun hc => ?_⟩
    · have : x ∉ l := by simpa using hc
      exact readsE (by simp [without2e, hr, this]) Row.nil' hB1
    · have hx : x ∈ l := by simpa using hc
      have hlt : at2 l x < n := by
        have h1 := (at2_spec l x).1; have h2 := at2_le l x
        rcases Nat.lt_or_ge (at2 l x) l.length with h3 | h3
        · omega
        · obtain ⟨k, hk, hkx⟩ := List.mem_iff_getElem.1 hx
          have := h1 k hk (by omega); omega
      refine (k_townIds (h.below hB1) (by omega)).mono ?_
      rintro _ w3 ⟨a3, n3, c3, rfl, ho, hB3⟩
      have hn3 := ho.len
      refine ⟨_, _, _, rfl, ?_⟩
      rw [nx (by omega)]
      have hB4 := hB1.trans (hB3.mono hB1.size)
      refine (k_DeleteIds (ho.mono hB1.size) hB4.size (by omega) (by omega)).mono ?_
      rintro _ w4 ⟨rfl, ho4, hB5⟩
      exact ⟨_, _, _, rfl, readsE (by simp [without2e, hr, hx, without2]) ho4.row (hB4.trans hB5)⟩
end
end Go.Eng
namespace Go.Eng
open Go Go.RowKit Go.Proofs
set_option maxRecDepth 10000
/-- A prefix of what is filtered. -/
theorem filter_pre {α : Type} (p : α → Bool) (l : List α) (k : Nat) : (l.take k).filter p <+: l.filter p :=
  ⟨(l.drop k).filter p, by rw [← List.filter_append, List.take_append_drop]⟩
theorem filter_more {α : Type} {p : α → Bool} {l : List α} {k : Nat} (h : k < l.length) (hp : p l[k] = true) : ((l.take k).filter p).length < (l.filter p).length := by
  have h1 : l.filter p = (l.take k).filter p ++ (l.drop k).filter p := by rw [← List.filter_append, List.take_append_drop]
  rw [h1, List.drop_eq_getElem_cons h, List.filter_cons, if_pos hp]
  simp
section
variable {w : World} {a b : Option Addr} {n c m d : Nat} {l l' : List Int}
theorem seqs_tsome1 {c0 c1 : Addr} {f : FuncId} {cf : List Value} {p : Int → Bool} (h0 : w.cell? c0 = some (.slice a n c)) (h : Row encId w a n c l) (h1 : w.cell? c1 = some (.func (.func f) #[] cf.toArray))
    (hp : ∀ W, Below w.heap.size w W → ∀ x, Cl Tryz.prog f (([.int .u64 x] : List Value) ++ cf).toArray W (Gives W (.bool (p x)))) :
    Seqs Tryz.prog 117 [.pointer (some c0), .pointer (some c1)] (if right2 l then (l.filter p).map encId else []) (Below w.heap.size) w := by
  refine seqs_of fun k J Jx W hW hJ hJx hy hJ0 => ?_
  refine c117 _ _ _ ⟨_, _, _, cell_below h0 hW, (k_tCheck (h.below hW)).gives fun w1 hB1 => ⟨_, rfl, cnd (fun hc => ?_) fun hc => ?_⟩⟩
  · have : right2 l = false := by cases hr : right2 l <;> simp [check2, hr] at hc ⊢
    exact .inl (by simpa [this] using hJ _ _ _ hJ0 hB1)
  · have hr : right2 l = true := by cases hr : right2 l <;> simp [check2, hr] at hc ⊢
    have e1 := h.len; have e3 := h.n63
    simp only [hr, if_true] at hy ⊢
    refine ⟨_, _, _, cell_below h0 (hW.trans (hB1.mono hW.size)), fun i W' => Below w.heap.size w W' ∧ ∃ k : Nat, i = k ∧ k ≤ n ∧ J (((l.take k).filter p).map encId) W', fun i _ => n - i.toNat, ⟨hW.trans (hB1.mono hW.size), 0, rfl, by omega, by simpa using hJ _ _ _ hJ0 hB1⟩, ?_⟩
    rintro _ w2 _ ⟨hB2, k, rfl, hk, hj⟩
    refine cnd (fun hc => ?_) fun hc => ?_
    · have hkn : k < n := by simpa using hc
      refine (h.below hB2).idN hkn fun hl => ⟨_, _, cell_below h1 hB2, (hp w2 hB2 _).gives fun w3 hB3 => ⟨_, rfl, cnd (fun hc => ?_) fun hc => ?_⟩⟩
      · have hB4 := hB2.trans (hB3.mono hB2.size)
        have hnext : ((l.take (k + 1)).filter p).map encId = ((l.take k).filter p).map encId ++ [[.int .u64 l[k]]] := by
          rw [take_one hl, List.filter_append]; simp [-List.take_append_getElem, hc, encId]
        refine (hy _ [.int .u64 l[k]] w3 ?_ (hJ _ _ _ hj hB3) ?_).mono fun y W' hyy => ?_
        · exact List.mem_map.2 ⟨l[k], List.mem_filter.2 ⟨List.getElem_mem _, hc⟩, rfl⟩
        · simpa using filter_more hl hc
        · refine cnd (fun h5 => .inr ?_) fun h5 => ?_
          · have : y = false := by simpa using h5
            subst this
            refine ⟨_, ?_, hyy⟩
            rw [← hnext]
            obtain ⟨r, hr⟩ := filter_pre p l (k + 1)
            exact ⟨r.map encId, by rw [← List.map_append, hr]⟩
          · have : y = true := by simpa using h5
            subst this
            rw [nx (by omega)]
            exact ⟨⟨hB4.trans hyy.2, k + 1, rfl, by omega, by rw [hnext]; exact hyy.1⟩, dec hkn⟩
      · rw [nx (by omega)]
        refine ⟨⟨hB2.trans (hB3.mono hB2.size), k + 1, rfl, by omega, ?_⟩, dec hkn⟩
        have hnext : ((l.take (k + 1)).filter p).map encId = ((l.take k).filter p).map encId := by
          rw [take_one hl, List.filter_append]; simp [-List.take_append_getElem, hc]
        rw [hnext]; exact hJ _ _ _ hj hB3
    · have hkn : ¬ k < n := by simpa using hc
      rw [take_all (by omega)] at hj
      exact .inl hj
theorem k_tHas1 {c0 : Addr} {x y : Int} (h : w.cell? c0 = some (.int .u64 y)) : Cl Tryz.prog 78 #[.int .u64 x, .pointer (some c0)] w (Is (.bool (x == y)) w) := c78 _ _ ⟨_, h, rfl, rfl⟩
def has2 (l : List Int) (x : Int) : Bool := right2 l && decide (x ∈ l)
theorem k_tHas (h : Row encId w a n c l) (x : Int) : Cl Tryz.prog 27 #[.slice a n c, .int .u64 x] w (Gives w (.bool (has2 l x))) := by
  refine c27 _ _ _ _ ?_
  rintro _ w1 rfl h1 _ w2 rfl h2
  have q1 : w2.heap[w.heap.size]? = some (.cells #[.int .u64 x] 32) := by rw [h2, h1]; exact blk_alloc (blk_new _)
  have q2 : w2.heap[w1.heap.size]? = some (.cells #[.bool false] 4) := by rw [h2]; exact blk_new _
  have hB2 : Below w.heap.size w w2 := by rw [h2, h1]; exact (alloc_below w _).alloc (by rw [size_alloc]; omega) _
  refine c77 _ _ _ 78 [_] ?_
  rintro _ w3 rfl h3 _ w4 rfl h4
  have q3 : w4.heap[w2.heap.size]? = some (.cells #[.slice a n c] 33) := by rw [h4, h3]; exact blk_alloc (blk_new _)
  obtain ⟨t5, q4⟩ : ∃ t, w4.heap[w3.heap.size]? = some (.cells #[.func (.func 78) #[] [Value.pointer (some ⟨w.heap.size, 0, none⟩)].toArray] t (0, 0)) := by rw [h4]; exact ⟨_, blk_new _⟩
  have hB4 : Below w2.heap.size w2 w4 := by rw [h4, h3]; exact (alloc_below w2 _).alloc (by rw [size_alloc]; omega) _
  have q1' := blk_below q1 hB4 (blk_lt q1)
  have q2' := blk_below q2 hB4 (blk_lt q2)
  have hBB := hB2.trans (hB4.mono hB2.size)
  have hs1 : w1.heap.size = w.heap.size + 1 := by rw [h1, size_alloc]
  have hlt := blk_lt q2'
  have hseq := seqs_tsome1 (p := fun y => y == x) (blk_cell q3 0) (h.below hBB) (blk_cell q4 0) (fun W hW y => (k_tHas1 (x := y) (blk_cell (blk_below q1' hW (blk_lt q1')) 0)).is ⟨rfl, Below.refl _ _⟩)
  have hxs : (if right2 l then (l.filter fun y => y == x).map encId else []) = [] ↔ has2 l x = false := by
    cases hr : right2 l
    · simp [has2, hr]
    · simp only [if_true, List.map_eq_nil_iff, has2, hr, Bool.true_and, decide_eq_false_iff_not, List.filter_eq_nil_iff]
      exact ⟨fun h hm => h x hm (by simp), fun h y hy hyx => h ((show y = x by simpa using hyx) ▸ hy)⟩
  generalize hxs' : (if right2 l then (l.filter fun y => y == x).map encId else []) = xs at hseq hxs
  have hty : ∀ vs ∈ xs, hasT Tryz.prog [32] vs := by
    rw [← hxs']
    intro vs hvs
    split at hvs
    · obtain ⟨y, _, rfl⟩ := List.mem_map.1 hvs
      exact ⟨y, rfl⟩
    · simp at hvs
  refine ⟨_, [_, _], rfl, xs, Below w4.heap.size, fun pre W => (pre = [] ∧ W.heap[w1.heap.size]? = some (.cells #[.bool false] 4)) ∧ Below w1.heap.size w4 W,
    fun _ pre W => (pre ≠ [] ∧ W.heap[w1.heap.size]? = some (.cells #[.bool true] 4)) ∧ Below w1.heap.size w4 W, ⟨?_, hseq, hty, keepOk_below (Nat.le_refl _), ?_, fun _ => ?_, ⟨rfl, q2'⟩, Below.refl _ _⟩, ?_, ?_, ?_, trivial⟩
  · exact ent_of Tryz.func117 (by kernel_rfl) rfl
  · exact (ownFrom_const.and ownFrom_blk).and (ownFrom_below (by omega) (by omega))
  · exact (ownFrom_const.and ownFrom_blk).and (ownFrom_below (by omega) (by omega))
  · rintro pre W y hy hlen ⟨⟨rfl, hb⟩, hB⟩
    refine ⟨blk_some hb (by decide), blk_free hb _, ?_⟩
    rintro _ rfl
    exact ⟨keepsFrom_set hb _, ⟨by simp, blk_set hb 0 _⟩, hB.setCell (Nat.le_refl _) _⟩
  · rintro D W hD ⟨⟨hnil, hb⟩, hB⟩ hd
    refine ⟨blk_some hb (by decide), blk_free hb _, ?_⟩
    rintro _ rfl
    have hdne : D ≠ w1.heap.size := by omega
    refine ⟨blk_far hd hdne _, ?_⟩
    rintro _ rfl
    have hb2 : ((W.setCell ⟨w1.heap.size, 0, none⟩ (.bool false)).putObj D (.deferred none)).heap[w1.heap.size]? = some (.cells #[.bool false] 4) := by
      have := blk_set hb 0 (.bool false)
      refine (World.putObj_heap_other ?_).trans this
      omega
    refine ⟨_, blk_cell hb2 0, by rw [hxs.1 hnil], ?_⟩
    have := (hBB.trans ((hB.setCell (p := ⟨w1.heap.size, 0, none⟩) (Nat.le_refl _) (.bool false)).mono (by omega)))
    exact this.trans ((Below.refl _ _).grown (grownBy_putObj' _ D _) (by have := this.size; omega) (fun k e => by cases e; omega))
  · rintro D pre W hD hpre ⟨⟨hne, hb⟩, hB⟩ hd
    refine ⟨hd, ?_⟩
    rintro _ rfl
    have hb2 : (W.putObj D (.deferred none)).heap[w1.heap.size]? = some (.cells #[.bool true] 4) := by
      refine (World.putObj_heap_other ?_).trans hb
      omega
    have hx : has2 l x = true := by
      cases hh : has2 l x with
      | true => rfl
      | false => rw [hxs.2 hh] at hpre; exact absurd (List.prefix_nil.1 hpre) hne
    refine ⟨_, blk_cell hb2 0, by rw [hx], ?_⟩
    have := hBB.trans (hB.mono (by omega))
    exact this.trans ((Below.refl _ _).grown (grownBy_putObj' _ D _) (by have := this.size; omega) (fun k e => by cases e; omega))
end
end Go.Eng
