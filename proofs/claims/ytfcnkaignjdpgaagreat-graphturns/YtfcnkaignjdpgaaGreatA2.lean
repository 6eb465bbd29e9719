/- Part 2 of the proof of GraphTurnsSaid. What is proved: what a call of each function leaves. Conditions: those that each theorem names. -/
import Derived.Test.YtfcnkaignjdpgaaGreatA1
set_option linter.unusedVariables false
set_option linter.unusedSimpArgs false
set_option linter.unusedSectionVars false
namespace Go.Eng
open Go Go.Proofs
set_option maxRecDepth 100000
set_option maxHeartbeats 4000000
/-- windrose/windroselaw12.wakes -/
def V8  (w : World) (R : Value → World → Prop) : Prop :=
 Cl Tryz.prog 44 #[.int .i64 3] w fun v w1 => ∃ (x1 x2 : Int), v = .tuple #[.int .u64 x1, .int .i64 x2] ∧
 (Cl Tryz.prog 45 #[.int .i64 4, .int .i64 5] w1 fun v2 w2 => ∃ (x3 x4 : Int), v2 = .tuple #[.int .u64 x3, .int .i64 x4] ∧
 (Cl Tryz.prog 34 #[] w2 fun v3 w3 => ∃ (x5a : Option Addr) (x5n x5c : Nat) (x6a : Option Addr) (x6n x6c : Nat), v3 = .agg #[.slice x5a x5n x5c, .slice x6a x6n x6c] ∧
 (Cl Tryz.prog 14 #[.agg #[.slice x5a x5n x5c, .slice x6a x6n x6c], .int .i64 1, .int .u64 x1] w3 fun v4 w4 => ∃ (x7a : Option Addr) (x7n x7c : Nat) (x8a : Option Addr) (x8n x8c : Nat) (x9 x10 : Int), v4 = .tuple #[.agg #[.slice x7a x7n x7c, .slice x8a x8n x8c], .int .i64 x9, .int .i64 x10] ∧
 (∀ (b : Nat) (w5 : World), b = w4.heap.size → w5 = w4.alloc (.cells #[.slice none 0 0, .slice none 0 0] 27) → ((w5.cell? (Addr.mk b 0 none)).isSome = true ∧ w5.frozen? (Addr.mk b 0 none) = false ∧ ((w5.cell? ((Addr.mk b 0 none).add 1)).isSome = true ∧ w5.frozen? ((Addr.mk b 0 none).add 1) = false ∧
 (∀ w6 : World, w6 = (w5.setCell (Addr.mk b 0 none) (.slice x7a x7n x7c)).setCell ((Addr.mk b 0 none).add 1) (.slice x8a x8n x8c) →
 (∃ (x11a : Option Addr) (x11n x11c : Nat) (x12a : Option Addr) (x12n x12c : Nat), w6.cell? (Addr.mk b 0 none) = some (.slice x11a x11n x11c) ∧ w6.cell? ((Addr.mk b 0 none).add 1) = some (.slice x12a x12n x12c) ∧
 (Cl Tryz.prog 14 #[.agg #[.slice x11a x11n x11c, .slice x12a x12n x12c], .int .i64 x9, .int .u64 x3] w6 fun v5 w7 => ∃ (x13a : Option Addr) (x13n x13c : Nat) (x14a : Option Addr) (x14n x14c : Nat) (x15 x16 : Int), v5 = .tuple #[.agg #[.slice x13a x13n x13c, .slice x14a x14n x14c], .int .i64 x15, .int .i64 x16] ∧
 (∀ (b2 : Nat) (w8 : World), b2 = w7.heap.size → w8 = w7.alloc (.cells #[.slice none 0 0, .slice none 0 0] 27) → ((w8.cell? (Addr.mk b2 0 none)).isSome = true ∧ w8.frozen? (Addr.mk b2 0 none) = false ∧ ((w8.cell? ((Addr.mk b2 0 none).add 1)).isSome = true ∧ w8.frozen? ((Addr.mk b2 0 none).add 1) = false ∧
 (∀ w9 : World, w9 = (w8.setCell (Addr.mk b2 0 none) (.slice x13a x13n x13c)).setCell ((Addr.mk b2 0 none).add 1) (.slice x14a x14n x14c) →
 (∃ (x17a : Option Addr) (x17n x17c : Nat) (x18a : Option Addr) (x18n x18c : Nat), w9.cell? (Addr.mk b2 0 none) = some (.slice x17a x17n x17c) ∧ w9.cell? ((Addr.mk b2 0 none).add 1) = some (.slice x18a x18n x18c) ∧
 (Cl Tryz.prog 15 #[.agg #[.slice x17a x17n x17c, .slice x18a x18n x18c], .int .i64 x15, .int .u64 x1] w9 fun v6 w10 => ∃ (x19a : Option Addr) (x19n x19c : Nat) (x20a : Option Addr) (x20n x20c : Nat) (x21 x22 : Int), v6 = .tuple #[.agg #[.slice x19a x19n x19c, .slice x20a x20n x20c], .int .i64 x21, .int .i64 x22] ∧
 (∀ (b3 : Nat) (w11 : World), b3 = w10.heap.size → w11 = w10.alloc (.cells #[.slice none 0 0, .slice none 0 0] 27) → ((w11.cell? (Addr.mk b3 0 none)).isSome = true ∧ w11.frozen? (Addr.mk b3 0 none) = false ∧ ((w11.cell? ((Addr.mk b3 0 none).add 1)).isSome = true ∧ w11.frozen? ((Addr.mk b3 0 none).add 1) = false ∧
 (∀ w12 : World, w12 = (w11.setCell (Addr.mk b3 0 none) (.slice x19a x19n x19c)).setCell ((Addr.mk b3 0 none).add 1) (.slice x20a x20n x20c) →
 (∃ (x23a : Option Addr) (x23n x23c : Nat) (x24a : Option Addr) (x24n x24c : Nat), w12.cell? (Addr.mk b2 0 none) = some (.slice x23a x23n x23c) ∧ w12.cell? ((Addr.mk b2 0 none).add 1) = some (.slice x24a x24n x24c) ∧
 (Cl Tryz.prog 17 #[.agg #[.slice x23a x23n x23c, .slice x24a x24n x24c], .int .i64 2] w12 fun v7 w13 => ∃ (x25a : Option Addr) (x25n x25c : Nat) (x26a : Option Addr) (x26n x26c : Nat) (x27 : Int), v7 = .tuple #[.agg #[.slice x25a x25n x25c, .slice x26a x26n x26c], .int .i64 x27] ∧
 (∀ (b4 : Nat) (w14 : World), b4 = w13.heap.size → w14 = w13.alloc (.cells #[.slice none 0 0, .slice none 0 0] 27) → ((w14.cell? (Addr.mk b4 0 none)).isSome = true ∧ w14.frozen? (Addr.mk b4 0 none) = false ∧ ((w14.cell? ((Addr.mk b4 0 none).add 1)).isSome = true ∧ w14.frozen? ((Addr.mk b4 0 none).add 1) = false ∧
 (∀ w15 : World, w15 = (w14.setCell (Addr.mk b4 0 none) (.slice x25a x25n x25c)).setCell ((Addr.mk b4 0 none).add 1) (.slice x26a x26n x26c) →
 (cond (x10 == 0)
 (cond (x16 == 0)
 (cond (x22 == 0)
 (cond (x27 == 0)
 (cond (x9 == 2)
 (cond (x15 == 3)
 (cond (x21 == 4) (∃ (x28a : Option Addr) (x28n x28c : Nat) (x29a : Option Addr) (x29n x29c : Nat), w15.cell? (Addr.mk b4 0 none) = some (.slice x28a x28n x28c) ∧ w15.cell? ((Addr.mk b4 0 none).add 1) = some (.slice x29a x29n x29c) ∧
 (Cl Tryz.prog 29 #[.agg #[.slice x28a x28n x28c, .slice x29a x29n x29c]] w15 fun v8 w16 => ∃ (x30a : Option Addr) (x30n x30c : Nat), v8 = .slice x30a x30n x30c ∧
 (∀ (b5 : Nat) (w17 : World), b5 = w16.heap.size → w17 = w16.alloc (.cells #[.int .i64 1, .int .i64 3] 3) →
 (Cl Tryz.prog 28 #[.slice x30a x30n x30c, .slice (some (Addr.mk b5 0 none)) 2 2] w17 fun v9 w18 => ∃ (x31 : Bool), v9 = .bool x31 ∧
 (cond x31 (∃ (x32a : Option Addr) (x32n x32c : Nat) (x33a : Option Addr) (x33n x33c : Nat), w18.cell? (Addr.mk b2 0 none) = some (.slice x32a x32n x32c) ∧ w18.cell? ((Addr.mk b2 0 none).add 1) = some (.slice x33a x33n x33c) ∧
 (Cl Tryz.prog 29 #[.agg #[.slice x32a x32n x32c, .slice x33a x33n x33c]] w18 fun v10 w19 => ∃ (x34a : Option Addr) (x34n x34c : Nat), v10 = .slice x34a x34n x34c ∧
 (∀ (b6 : Nat) (w20 : World), b6 = w19.heap.size → w20 = w19.alloc (.cells #[.int .i64 1, .int .i64 2, .int .i64 3] 3) →
 (Cl Tryz.prog 28 #[.slice x34a x34n x34c, .slice (some (Addr.mk b6 0 none)) 3 3] w20 fun v11 w21 => ∃ (x35 : Bool), v11 = .bool x35 ∧ (R (.bool x35) w21))))) (R (.bool false) w18)))))) (R (.bool false) w15)) (R (.bool false) w15)) (R (.bool false) w15)) (R (.bool false) w15)) (R (.bool false) w15)) (R (.bool false) w15)) (R (.bool false) w15)))))))))))))))))))))))))))
theorem c8  {w : World} {R : Value → World → Prop} (hV : V8  w R) : Cl Tryz.prog 8 #[] w R :=
 fn_sound hmTryz (TT := []) (f := 8) Tryz.func8 (ent_of Tryz.func8 (by kernel_rfl) rfl) (Eq.mpr (by kernel_rfl) hV)
/-- windrose/windroselaw12.own -/
def V9 (ga : Option Addr) (gn gc : Nat) (g2a : Option Addr) (g2n g2c : Nat) (w : World) (R : Value → World → Prop) : Prop :=
 ∀ (b : Nat) (w1 : World), b = w.heap.size → w1 = w.alloc (.cells #[.slice ga gn gc, .slice g2a g2n g2c] 27) →
 (∀ (b2 : Nat) (w2 : World), b2 = w1.heap.size → w2 = w1.alloc (.cells #[.slice none 0 0, .slice none 0 0] 27) →
 (∀ (b3 : Nat) (w3 : World), b3 = w2.heap.size → w3 = w2.alloc (.cells #[.slice none 0 0, .slice none 0 0] 27) →
 (∃ (x1a : Option Addr) (x1n x1c : Nat), w3.cell? (Addr.mk b 0 none) = some (.slice x1a x1n x1c) ∧
 (∃ (x2a : Option Addr) (x2n x2c : Nat), w3.cell? (Addr.mk b 0 none) = some (.slice x2a x2n x2c) ∧ (0 ≤ (if 30 < (x2n : Int) then 30 else (x2n : Int)) ∧ (if 30 < (x2n : Int) then 30 else (x2n : Int)) ≤ (x1c : Int) ∧
 (∃ (Jm : Int → World → Prop), (∃ (Jv : Int → World → Prop) (mu : Int → World → Nat), Jv 0 w3 ∧ ∀ (jk_2 : Nat → Value) (w4 : World), ∀ (s162 : Int), Jv s162 w4 →
 (cond (decide (s162 < ((if 30 < (x2n : Int) then 30 else (x2n : Int)).toNat : Int))) (∃ p : Addr, x1a = some p ∧ 0 ≤ s162 ∧ s162 < ((if 30 < (x2n : Int) then 30 else (x2n : Int)).toNat : Int) ∧
 (∃ (x3 : Bool) (x4a : Option Addr) (x4n x4c : Nat) (x5a : Option Addr) (x5n x5c : Nat) (x6a : Option Addr) (x6n x6c : Nat), w4.cell? (p.add ((s162).toNat * 4)) = some (.bool x3) ∧ w4.cell? ((p.add ((s162).toNat * 4)).add 1) = some (.slice x4a x4n x4c) ∧ w4.cell? ((p.add ((s162).toNat * 4)).add 2) = some (.slice x5a x5n x5c) ∧ w4.cell? ((p.add ((s162).toNat * 4)).add 3) = some (.slice x6a x6n x6c) ∧
 (∀ (b4 : Nat) (w5 : World), b4 = w4.heap.size → w5 = w4.alloc (.cells #[.bool false, .slice none 0 0, .slice none 0 0, .slice none 0 0] 56) → ((w5.cell? (Addr.mk b4 0 none)).isSome = true ∧ w5.frozen? (Addr.mk b4 0 none) = false ∧ ((w5.cell? ((Addr.mk b4 0 none).add 1)).isSome = true ∧ w5.frozen? ((Addr.mk b4 0 none).add 1) = false ∧ ((w5.cell? ((Addr.mk b4 0 none).add 2)).isSome = true ∧ w5.frozen? ((Addr.mk b4 0 none).add 2) = false ∧ ((w5.cell? ((Addr.mk b4 0 none).add 3)).isSome = true ∧ w5.frozen? ((Addr.mk b4 0 none).add 3) = false ∧
 (∀ w6 : World, w6 = (((w5.setCell (Addr.mk b4 0 none) (.bool x3)).setCell ((Addr.mk b4 0 none).add 1) (.slice x4a x4n x4c)).setCell ((Addr.mk b4 0 none).add 2) (.slice x5a x5n x5c)).setCell ((Addr.mk b4 0 none).add 3) (.slice x6a x6n x6c) →
 (∀ w7 : World, w7 = w6.drew →
 (∃ (x7a : Option Addr) (x7n x7c : Nat), w7.cell? ((Addr.mk b4 0 none).add 1) = some (.slice x7a x7n x7c) ∧
 (∃ (x8a : Option Addr) (x8n x8c : Nat), w7.cell? ((Addr.mk b4 0 none).add 1) = some (.slice x8a x8n x8c) ∧ (0 ≤ (if 14 < (x8n : Int) then 14 else (x8n : Int)) ∧ (if 14 < (x8n : Int) then 14 else (x8n : Int)) ≤ (x7c : Int) ∧
 (∃ (x9a : Option Addr) (x9n x9c : Nat), w7.cell? ((Addr.mk b4 0 none).add 2) = some (.slice x9a x9n x9c) ∧
 (∃ (x10a : Option Addr) (x10n x10c : Nat), w7.cell? ((Addr.mk b4 0 none).add 2) = some (.slice x10a x10n x10c) ∧ (0 ≤ (if 20 < (x10n : Int) then 20 else (x10n : Int)) ∧ (if 20 < (x10n : Int) then 20 else (x10n : Int)) ≤ (x9c : Int) ∧
 (∃ (x11a : Option Addr) (x11n x11c : Nat), w7.cell? ((Addr.mk b4 0 none).add 3) = some (.slice x11a x11n x11c) ∧
 (∃ (x12a : Option Addr) (x12n x12c : Nat), w7.cell? ((Addr.mk b4 0 none).add 3) = some (.slice x12a x12n x12c) ∧ (0 ≤ (if 20 < (x12n : Int) then 20 else (x12n : Int)) ∧ (if 20 < (x12n : Int) then 20 else (x12n : Int)) ≤ (x11c : Int) ∧
 (Cl Tryz.prog 10 #[.slice x7a ((if 14 < (x8n : Int) then 14 else (x8n : Int)).toNat) (((x7c : Int)).toNat)] w7 fun v w8 => ∃ (x13a : Option Addr) (x13n x13c : Nat), v = .slice x13a x13n x13c ∧ (w8.cell? ((Addr.mk b4 0 none).add 3) = some (.slice x12a x12n x12c) ∧ w8.cell? ((Addr.mk b4 0 none).add 3) = some (.slice x11a x11n x11c) ∧ w8.cell? ((Addr.mk b4 0 none).add 2) = some (.slice x10a x10n x10c) ∧ w8.cell? ((Addr.mk b4 0 none).add 2) = some (.slice x9a x9n x9c) ∧
 (Cl Tryz.prog 46 #[.slice x9a ((if 20 < (x10n : Int) then 20 else (x10n : Int)).toNat) (((x9c : Int)).toNat)] w8 fun v2 w9 => ∃ (x14a : Option Addr) (x14n x14c : Nat), v2 = .slice x14a x14n x14c ∧ (w9.cell? ((Addr.mk b4 0 none).add 3) = some (.slice x12a x12n x12c) ∧ w9.cell? ((Addr.mk b4 0 none).add 3) = some (.slice x11a x11n x11c) ∧
 (Cl Tryz.prog 46 #[.slice x11a ((if 20 < (x12n : Int) then 20 else (x12n : Int)).toNat) (((x11c : Int)).toNat)] w9 fun v3 w10 => ∃ (x15a : Option Addr) (x15n x15c : Nat), v3 = .slice x15a x15n x15c ∧ ((w10.cell? ((Addr.mk b4 0 none).add 1)).isSome = true ∧ w10.frozen? ((Addr.mk b4 0 none).add 1) = false ∧
 (∀ w11 : World, w11 = w10.setCell ((Addr.mk b4 0 none).add 1) (.slice x13a x13n x13c) → ((w11.cell? ((Addr.mk b4 0 none).add 2)).isSome = true ∧ w11.frozen? ((Addr.mk b4 0 none).add 2) = false ∧
 (∀ w12 : World, w12 = w11.setCell ((Addr.mk b4 0 none).add 2) (.slice x14a x14n x14c) → ((w12.cell? ((Addr.mk b4 0 none).add 3)).isSome = true ∧ w12.frozen? ((Addr.mk b4 0 none).add 3) = false ∧
 (∀ w13 : World, w13 = w12.setCell ((Addr.mk b4 0 none).add 3) (.slice x15a x15n x15c) →
 (∃ (x16a : Option Addr) (x16n x16c : Nat), w13.cell? (Addr.mk b3 0 none) = some (.slice x16a x16n x16c) ∧
 (∃ (x17 : Bool) (x18a : Option Addr) (x18n x18c : Nat) (x19a : Option Addr) (x19n x19c : Nat) (x20a : Option Addr) (x20n x20c : Nat), w13.cell? (Addr.mk b4 0 none) = some (.bool x17) ∧ w13.cell? ((Addr.mk b4 0 none).add 1) = some (.slice x18a x18n x18c) ∧ w13.cell? ((Addr.mk b4 0 none).add 2) = some (.slice x19a x19n x19c) ∧ w13.cell? ((Addr.mk b4 0 none).add 3) = some (.slice x20a x20n x20c) ∧
 (∀ (b5 : Nat) (w14 : World), b5 = w13.heap.size → w14 = w13.alloc (.cells #[.bool x17, .slice x18a x18n x18c, .slice x19a x19n x19c, .slice x20a x20n x20c] 56) →
 (∃ (x21a : Option Addr) (x21n x21c : Nat) (w15 : World), Sem.run Tryz.prog (Builtin.append_ #[22, 22] 22 #[.slice x16a x16n x16c, .slice (some (Addr.mk b5 0 none)) 1 1]) w14 = .ok (.slice x21a x21n x21c) w15 ∧ ((w15.cell? (Addr.mk b3 0 none)).isSome = true ∧ w15.frozen? (Addr.mk b3 0 none) = false ∧
 (∀ w16 : World, w16 = w15.setCell (Addr.mk b3 0 none) (.slice x21a x21n x21c) → (Jv (IntKind.i64.wrap (s162 + 1)) w16 ∧ mu (IntKind.i64.wrap (s162 + 1)) w16 < mu s162 w4)))))))))))))))))))))))))))))))))))) (Jm s162 w4))) ∧ ∀ (jk_ : Nat → Value) (w17 : World), ∀ (s16 : Int), Jm s16 w17 →
 (∃ (x22a : Option Addr) (x22n x22c : Nat), w17.cell? ((Addr.mk b 0 none).add 1) = some (.slice x22a x22n x22c) ∧
 (∃ (x23a : Option Addr) (x23n x23c : Nat), w17.cell? ((Addr.mk b 0 none).add 1) = some (.slice x23a x23n x23c) ∧ (0 ≤ (if 128 < (x23n : Int) then 128 else (x23n : Int)) ∧ (if 128 < (x23n : Int) then 128 else (x23n : Int)) ≤ (x22c : Int) ∧
 (∃ (Jv2 : Int → World → Prop) (mu2 : Int → World → Nat), Jv2 0 w17 ∧ ∀ (jk_3 : Nat → Value) (w18 : World), ∀ (s64 : Int), Jv2 s64 w18 →
 (cond (decide (s64 < ((if 128 < (x23n : Int) then 128 else (x23n : Int)).toNat : Int))) (∃ p2 : Addr, x22a = some p2 ∧ 0 ≤ s64 ∧ s64 < ((if 128 < (x23n : Int) then 128 else (x23n : Int)).toNat : Int) ∧
 (∃ (x24 : Int) (x25a : Option Addr) (x25n x25c : Nat) (x26 : Int), w18.cell? (p2.add ((s64).toNat * 3)) = some (.int .i64 x24) ∧ w18.cell? ((p2.add ((s64).toNat * 3)).add 1) = some (.slice x25a x25n x25c) ∧ w18.cell? ((p2.add ((s64).toNat * 3)).add 2) = some (.int .i64 x26) ∧
 (∀ (b6 : Nat) (w19 : World), b6 = w18.heap.size → w19 = w18.alloc (.cells #[.int .i64 0, .slice none 0 0, .int .i64 0] 94) → ((w19.cell? (Addr.mk b6 0 none)).isSome = true ∧ w19.frozen? (Addr.mk b6 0 none) = false ∧ ((w19.cell? ((Addr.mk b6 0 none).add 1)).isSome = true ∧ w19.frozen? ((Addr.mk b6 0 none).add 1) = false ∧ ((w19.cell? ((Addr.mk b6 0 none).add 2)).isSome = true ∧ w19.frozen? ((Addr.mk b6 0 none).add 2) = false ∧
 (∀ w20 : World, w20 = ((w19.setCell (Addr.mk b6 0 none) (.int .i64 x24)).setCell ((Addr.mk b6 0 none).add 1) (.slice x25a x25n x25c)).setCell ((Addr.mk b6 0 none).add 2) (.int .i64 x26) →
 (∃ (x27a : Option Addr) (x27n x27c : Nat), w20.cell? ((Addr.mk b6 0 none).add 1) = some (.slice x27a x27n x27c) ∧
 (∃ (x28a : Option Addr) (x28n x28c : Nat), w20.cell? ((Addr.mk b6 0 none).add 1) = some (.slice x28a x28n x28c) ∧ (0 ≤ (if 14 < (x28n : Int) then 14 else (x28n : Int)) ∧ (if 14 < (x28n : Int) then 14 else (x28n : Int)) ≤ (x27c : Int) ∧
 (Cl Tryz.prog 10 #[.slice x27a ((if 14 < (x28n : Int) then 14 else (x28n : Int)).toNat) (((x27c : Int)).toNat)] w20 fun v4 w21 => ∃ (x29a : Option Addr) (x29n x29c : Nat), v4 = .slice x29a x29n x29c ∧ ((w21.cell? ((Addr.mk b6 0 none).add 1)).isSome = true ∧ w21.frozen? ((Addr.mk b6 0 none).add 1) = false ∧
 (∀ w22 : World, w22 = w21.setCell ((Addr.mk b6 0 none).add 1) (.slice x29a x29n x29c) →
 (∃ (x30a : Option Addr) (x30n x30c : Nat), w22.cell? ((Addr.mk b3 0 none).add 1) = some (.slice x30a x30n x30c) ∧
 (∃ (x31 : Int) (x32a : Option Addr) (x32n x32c : Nat) (x33 : Int), w22.cell? (Addr.mk b6 0 none) = some (.int .i64 x31) ∧ w22.cell? ((Addr.mk b6 0 none).add 1) = some (.slice x32a x32n x32c) ∧ w22.cell? ((Addr.mk b6 0 none).add 2) = some (.int .i64 x33) ∧
 (∀ (b7 : Nat) (w23 : World), b7 = w22.heap.size → w23 = w22.alloc (.cells #[.int .i64 x31, .slice x32a x32n x32c, .int .i64 x33] 94) →
 (∃ (x34a : Option Addr) (x34n x34c : Nat) (w24 : World), Sem.run Tryz.prog (Builtin.append_ #[23, 23] 23 #[.slice x30a x30n x30c, .slice (some (Addr.mk b7 0 none)) 1 1]) w23 = .ok (.slice x34a x34n x34c) w24 ∧ ((w24.cell? ((Addr.mk b3 0 none).add 1)).isSome = true ∧ w24.frozen? ((Addr.mk b3 0 none).add 1) = false ∧
 (∀ w25 : World, w25 = w24.setCell ((Addr.mk b3 0 none).add 1) (.slice x34a x34n x34c) → (Jv2 (IntKind.i64.wrap (s64 + 1)) w25 ∧ mu2 (IntKind.i64.wrap (s64 + 1)) w25 < mu2 s64 w18)))))))))))))))))))) (∃ (x35a : Option Addr) (x35n x35c : Nat) (x36a : Option Addr) (x36n x36c : Nat), w18.cell? (Addr.mk b3 0 none) = some (.slice x35a x35n x35c) ∧ w18.cell? ((Addr.mk b3 0 none).add 1) = some (.slice x36a x36n x36c) ∧ ((w18.cell? (Addr.mk b2 0 none)).isSome = true ∧ w18.frozen? (Addr.mk b2 0 none) = false ∧ ((w18.cell? ((Addr.mk b2 0 none).add 1)).isSome = true ∧ w18.frozen? ((Addr.mk b2 0 none).add 1) = false ∧
 (∀ w26 : World, w26 = (w18.setCell (Addr.mk b2 0 none) (.slice x35a x35n x35c)).setCell ((Addr.mk b2 0 none).add 1) (.slice x36a x36n x36c) →
 (∃ (ra : Option Addr) (rn rc : Nat) (r2a : Option Addr) (r2n r2c : Nat), w26.cell? (Addr.mk b2 0 none) = some (.slice ra rn rc) ∧ w26.cell? ((Addr.mk b2 0 none).add 1) = some (.slice r2a r2n r2c) ∧ (R (.agg #[.slice ra rn rc, .slice r2a r2n r2c]) w26)))))))))))))))))
theorem c9 (ga : Option Addr) (gn gc : Nat) (g2a : Option Addr) (g2n g2c : Nat) {w : World} {R : Value → World → Prop} (hV : V9 ga gn gc g2a g2n g2c w R) : Cl Tryz.prog 9 #[.agg #[.slice ga gn gc, .slice g2a g2n g2c]] w R :=
 fn_sound hmTryz (TT := []) (f := 9) Tryz.func9 (ent_of Tryz.func9 (by kernel_rfl) rfl) (Eq.mpr (by kernel_rfl) hV)
/-- slices.Clone[[]windrose/api.Id,windrose/api.Id] -/
def V10 (sa : Option Addr) (sn sc : Nat) (w : World) (R : Value → World → Prop) : Prop :=
 ∃ eq : Bool, binRun Tryz.prog .eql 33 (.tmp 3) (.const (.slice none 0 0)) (.slice sa sn sc) (.slice none 0 0) (.bool eq) w ∧
 (cond eq (R (.slice none 0 0) w) (∀ (b : Nat) (w1 : World), b = w.heap.size → w1 = w.alloc (.cells #[] 32) →
 (∃ (x1a : Option Addr) (x1n x1c : Nat) (w2 : World), Sem.run Tryz.prog (Builtin.append_ #[33, 33] 33 #[.slice (some (Addr.mk b 0 none)) 0 0, .slice sa sn sc]) w1 = .ok (.slice x1a x1n x1c) w2 ∧ (R (.slice x1a x1n x1c) w2))))
theorem c10 (sa : Option Addr) (sn sc : Nat) {w : World} {R : Value → World → Prop} (hV : V10 sa sn sc w R) : Cl Tryz.prog 10 #[.slice sa sn sc] w R :=
 fn_sound hmTryz (TT := []) (f := 10) Tryz.func10 (ent_of Tryz.func10 (by kernel_rfl) rfl) (Eq.mpr (by kernel_rfl) hV)
/-- windrose/windroseref12.Right -/
def V11 (ga : Option Addr) (gn gc : Nat) (g2a : Option Addr) (g2n g2c : Nat) (w : World) (R : Value → World → Prop) : Prop :=
 ∀ (b : Nat) (w1 : World), b = w.heap.size → w1 = w.alloc (.cells #[.slice ga gn gc, .slice g2a g2n g2c] 27) →
 (∀ w2 : World, w2 = w1.drew →
 (∃ (x1a : Option Addr) (x1n x1c : Nat), w2.cell? (Addr.mk b 0 none) = some (.slice x1a x1n x1c) ∧
 (Cl Tryz.prog 47 #[.slice x1a x1n x1c] w2 fun v w3 => ∃ (x2 : Bool), v = .bool x2 ∧
 (cond x2 (∃ (x3a : Option Addr) (x3n x3c : Nat), w3.cell? ((Addr.mk b 0 none).add 1) = some (.slice x3a x3n x3c) ∧
 (Cl Tryz.prog 48 #[.agg #[.slice x3a x3n x3c]] w3 fun v2 w4 => ∃ (x4 : Bool), v2 = .bool x4 ∧
 (cond x4 (∃ (x5a : Option Addr) (x5n x5c : Nat), w4.cell? ((Addr.mk b 0 none).add 1) = some (.slice x5a x5n x5c) ∧
 (∃ (x6a : Option Addr) (x6n x6c : Nat), w4.cell? (Addr.mk b 0 none) = some (.slice x6a x6n x6c) ∧
 (Cl Tryz.prog 50 #[.agg #[.slice x5a x5n x5c]] w4 fun v3 w5 => ∃ (x7a : Option Addr) (x7n x7c : Nat), v3 = .slice x7a x7n x7c ∧ (w5.cell? (Addr.mk b 0 none) = some (.slice x6a x6n x6c) ∧
 (Cl Tryz.prog 51 #[.slice x6a x6n x6c] w5 fun v4 w6 => ∃ (x8a : Option Addr) (x8n x8c : Nat), v4 = .slice x8a x8n x8c ∧
 (Cl Tryz.prog 49 #[.slice x7a x7n x7c, .slice x8a x8n x8c] w6 fun v5 w7 => ∃ (x9 : Bool), v5 = .bool x9 ∧ (R (.bool x9) w7))))))) (R (.bool false) w4)))) (R (.bool false) w3)))))
theorem c11 (ga : Option Addr) (gn gc : Nat) (g2a : Option Addr) (g2n g2c : Nat) {w : World} {R : Value → World → Prop} (hV : V11 ga gn gc g2a g2n g2c w R) : Cl Tryz.prog 11 #[.agg #[.slice ga gn gc, .slice g2a g2n g2c]] w R :=
 fn_sound hmTryz (TT := []) (f := 11) Tryz.func11 (ent_of Tryz.func11 (by kernel_rfl) rfl) (Eq.mpr (by kernel_rfl) hV)
/-- windrose/graph.Of -/
def V12 (ga : Option Addr) (gn gc : Nat) (g2a : Option Addr) (g2n g2c : Nat) (la : Option Addr) (ln lc : Nat) (w : World) (R : Value → World → Prop) : Prop :=
 ∀ (b : Nat) (w1 : World), b = w.heap.size → w1 = w.alloc (.cells #[.slice ga gn gc, .slice g2a g2n g2c] 27) →
 (∀ (b2 : Nat) (w2 : World), b2 = w1.heap.size → w2 = w1.alloc (.cells #[.slice none 0 0, .slice none 0 0] 27) →
 (∃ (x1a : Option Addr) (x1n x1c : Nat) (x2a : Option Addr) (x2n x2c : Nat), w2.cell? (Addr.mk b 0 none) = some (.slice x1a x1n x1c) ∧ w2.cell? ((Addr.mk b 0 none).add 1) = some (.slice x2a x2n x2c) ∧
 (Cl Tryz.prog 26 #[.agg #[.slice x1a x1n x1c, .slice x2a x2n x2c]] w2 fun v w3 => ∃ (x3 : Int), v = .int .i64 x3 ∧
 (cond (x3 != 0) ((w3.cell? (Addr.mk b2 0 none)).isSome = true ∧ w3.frozen? (Addr.mk b2 0 none) = false ∧ ((w3.cell? ((Addr.mk b2 0 none).add 1)).isSome = true ∧ w3.frozen? ((Addr.mk b2 0 none).add 1) = false ∧
 (∀ w4 : World, w4 = (w3.setCell (Addr.mk b2 0 none) (.slice none 0 0)).setCell ((Addr.mk b2 0 none).add 1) (.slice none 0 0) →
 (∃ (ra : Option Addr) (rn rc : Nat) (r2a : Option Addr) (r2n r2c : Nat), w4.cell? (Addr.mk b2 0 none) = some (.slice ra rn rc) ∧ w4.cell? ((Addr.mk b2 0 none).add 1) = some (.slice r2a r2n r2c) ∧ (R (.tuple #[.agg #[.slice ra rn rc, .slice r2a r2n r2c], .int .i64 0, .int .i64 x3]) w4))))) (∃ (x4a : Option Addr) (x4n x4c : Nat) (x5a : Option Addr) (x5n x5c : Nat), w3.cell? (Addr.mk b 0 none) = some (.slice x4a x4n x4c) ∧ w3.cell? ((Addr.mk b 0 none).add 1) = some (.slice x5a x5n x5c) ∧
 (Cl Tryz.prog 52 #[.agg #[.slice x4a x4n x4c, .slice x5a x5n x5c], .slice la ln lc] w3 fun v2 w5 => ∃ (x6a : Option Addr) (x6n x6c : Nat) (x7a : Option Addr) (x7n x7c : Nat) (x8 x9 : Int), v2 = .tuple #[.agg #[.slice x6a x6n x6c, .slice x7a x7n x7c], .int .i64 x8, .int .i64 x9] ∧ ((w5.cell? (Addr.mk b2 0 none)).isSome = true ∧ w5.frozen? (Addr.mk b2 0 none) = false ∧ ((w5.cell? ((Addr.mk b2 0 none).add 1)).isSome = true ∧ w5.frozen? ((Addr.mk b2 0 none).add 1) = false ∧
 (∀ w6 : World, w6 = (w5.setCell (Addr.mk b2 0 none) (.slice x6a x6n x6c)).setCell ((Addr.mk b2 0 none).add 1) (.slice x7a x7n x7c) →
 (∃ (r3a : Option Addr) (r3n r3c : Nat) (r4a : Option Addr) (r4n r4c : Nat), w6.cell? (Addr.mk b2 0 none) = some (.slice r3a r3n r3c) ∧ w6.cell? ((Addr.mk b2 0 none).add 1) = some (.slice r4a r4n r4c) ∧ (R (.tuple #[.agg #[.slice r3a r3n r3c, .slice r4a r4n r4c], .int .i64 x8, .int .i64 x9]) w6)))))))))))
theorem c12 (ga : Option Addr) (gn gc : Nat) (g2a : Option Addr) (g2n g2c : Nat) (la : Option Addr) (ln lc : Nat) {w : World} {R : Value → World → Prop} (hV : V12 ga gn gc g2a g2n g2c la ln lc w R) : Cl Tryz.prog 12 #[.agg #[.slice ga gn gc, .slice g2a g2n g2c], .slice la ln lc] w R :=
 fn_sound hmTryz (TT := []) (f := 12) Tryz.func12 (ent_of Tryz.func12 (by kernel_rfl) rfl) (Eq.mpr (by kernel_rfl) hV)
/-- windrose/windroseref12.Of -/
def V13 (la : Option Addr) (ln lc : Nat) (ta : Option Addr) (tn tc : Nat) (w : World) (R : Value → World → Prop) : Prop :=
 Cl Tryz.prog 23 #[.slice ta tn tc] w fun v w1 => ∃ (x1 : Bool), v = .bool x1 ∧
 (cond (!x1) (R (.tuple #[.slice none 0 0, .int .i64 0, .int .i64 130]) w1)
 (Cl Tryz.prog 37 #[.slice la ln lc, .slice ta tn tc] w1 fun v2 w2 => ∃ (x2 : Int), v2 = .int .i64 x2 ∧
 (cond (decide (0 < x2)) (R (.tuple #[.slice la ln lc, .int .i64 x2, .int .i64 0]) w2)
 (Cl Tryz.prog 51 #[.slice la ln lc] w2 fun v3 w3 => ∃ (x3a : Option Addr) (x3n x3c : Nat), v3 = .slice x3a x3n x3c ∧
 (cond ((x3n : Int) == 4000) (R (.tuple #[.slice none 0 0, .int .i64 0, .int .i64 6]) w3) (∀ (b : Nat) (w4 : World), b = w3.heap.size → w4 = w3.alloc (.cells #[] 56) →
 (∃ (x4a : Option Addr) (x4n x4c : Nat) (w5 : World), Sem.run Tryz.prog (Builtin.append_ #[22, 22] 22 #[.slice (some (Addr.mk b 0 none)) 0 0, .slice la ln lc]) w4 = .ok (.slice x4a x4n x4c) w5 ∧
 (∃ (Jv : Int → World → Prop) (mu : Int → World → Nat), Jv 1 w5 ∧ ∀ (jk_ : Nat → Value) (w6 : World), ∀ (n : Int), Jv n w6 →
 (Cl Tryz.prog 36 #[.slice x4a x4n x4c, .int .i64 n] w6 fun v4 w7 => ∃ (x5 : Bool), v4 = .bool x5 ∧
 (cond x5 (Jv (IntKind.i64.wrap (n + 1)) w7 ∧ mu (IntKind.i64.wrap (n + 1)) w7 < mu n w6)
 (cond (decide ((x4n : Int) < n)) (∀ (b2 : Nat) (w8 : World), b2 = w7.heap.size → w8 = w7.alloc (.cells #[.bool false, .slice none 0 0, .slice none 0 0, .slice none 0 0] 56) →
 (∃ (x6a : Option Addr) (x6n x6c : Nat) (w9 : World), Sem.run Tryz.prog (Builtin.append_ #[22, 22] 22 #[.slice x4a x4n x4c, .slice (some (Addr.mk b2 0 none)) 1 1]) w8 = .ok (.slice x6a x6n x6c) w9 ∧
 (∃ p : Addr, x6a = some p ∧ 0 ≤ (IntKind.i64.wrap (n - 1)) ∧ (IntKind.i64.wrap (n - 1)) < (x6n : Int) ∧ ((w9.cell? (p.add (((IntKind.i64.wrap (n - 1))).toNat * 4))).isSome = true ∧ w9.frozen? (p.add (((IntKind.i64.wrap (n - 1))).toNat * 4)) = false ∧ ((w9.cell? ((p.add (((IntKind.i64.wrap (n - 1))).toNat * 4)).add 1)).isSome = true ∧ w9.frozen? ((p.add (((IntKind.i64.wrap (n - 1))).toNat * 4)).add 1) = false ∧ ((w9.cell? ((p.add (((IntKind.i64.wrap (n - 1))).toNat * 4)).add 2)).isSome = true ∧ w9.frozen? ((p.add (((IntKind.i64.wrap (n - 1))).toNat * 4)).add 2) = false ∧ ((w9.cell? ((p.add (((IntKind.i64.wrap (n - 1))).toNat * 4)).add 3)).isSome = true ∧ w9.frozen? ((p.add (((IntKind.i64.wrap (n - 1))).toNat * 4)).add 3) = false ∧
 (∀ w10 : World, w10 = (((w9.setCell (p.add (((IntKind.i64.wrap (n - 1))).toNat * 4)) (.bool true)).setCell ((p.add (((IntKind.i64.wrap (n - 1))).toNat * 4)).add 1) (.slice ta tn tc)).setCell ((p.add (((IntKind.i64.wrap (n - 1))).toNat * 4)).add 2) (.slice none 0 0)).setCell ((p.add (((IntKind.i64.wrap (n - 1))).toNat * 4)).add 3) (.slice none 0 0) → (R (.tuple #[.slice x6a x6n x6c, .int .i64 n, .int .i64 0]) w10))))))))) (∃ p2 : Addr, x4a = some p2 ∧ 0 ≤ (IntKind.i64.wrap (n - 1)) ∧ (IntKind.i64.wrap (n - 1)) < (x4n : Int) ∧ ((w7.cell? (p2.add (((IntKind.i64.wrap (n - 1))).toNat * 4))).isSome = true ∧ w7.frozen? (p2.add (((IntKind.i64.wrap (n - 1))).toNat * 4)) = false ∧ ((w7.cell? ((p2.add (((IntKind.i64.wrap (n - 1))).toNat * 4)).add 1)).isSome = true ∧ w7.frozen? ((p2.add (((IntKind.i64.wrap (n - 1))).toNat * 4)).add 1) = false ∧ ((w7.cell? ((p2.add (((IntKind.i64.wrap (n - 1))).toNat * 4)).add 2)).isSome = true ∧ w7.frozen? ((p2.add (((IntKind.i64.wrap (n - 1))).toNat * 4)).add 2) = false ∧ ((w7.cell? ((p2.add (((IntKind.i64.wrap (n - 1))).toNat * 4)).add 3)).isSome = true ∧ w7.frozen? ((p2.add (((IntKind.i64.wrap (n - 1))).toNat * 4)).add 3) = false ∧
 (∀ w11 : World, w11 = (((w7.setCell (p2.add (((IntKind.i64.wrap (n - 1))).toNat * 4)) (.bool true)).setCell ((p2.add (((IntKind.i64.wrap (n - 1))).toNat * 4)).add 1) (.slice ta tn tc)).setCell ((p2.add (((IntKind.i64.wrap (n - 1))).toNat * 4)).add 2) (.slice none 0 0)).setCell ((p2.add (((IntKind.i64.wrap (n - 1))).toNat * 4)).add 3) (.slice none 0 0) → (R (.tuple #[.slice x4a x4n x4c, .int .i64 n, .int .i64 0]) w11))))))))))))))))))
theorem c13 (la : Option Addr) (ln lc : Nat) (ta : Option Addr) (tn tc : Nat) {w : World} {R : Value → World → Prop} (hV : V13 la ln lc ta tn tc w R) : Cl Tryz.prog 13 #[.slice la ln lc, .slice ta tn tc] w R :=
 fn_sound hmTryz (TT := []) (f := 13) Tryz.func13 (ent_of Tryz.func13 (by kernel_rfl) rfl) (Eq.mpr (by kernel_rfl) hV)
/-- windrose/graph.Plus -/
def V14 (ga : Option Addr) (gn gc : Nat) (g2a : Option Addr) (g2n g2c : Nat) (n id : Int) (w : World) (R : Value → World → Prop) : Prop :=
 ∀ (b : Nat) (w1 : World), b = w.heap.size → w1 = w.alloc (.cells #[.slice ga gn gc, .slice g2a g2n g2c] 27) →
 (∀ (b2 : Nat) (w2 : World), b2 = w1.heap.size → w2 = w1.alloc (.cells #[.slice none 0 0, .slice none 0 0] 27) →
 (∃ (x1a : Option Addr) (x1n x1c : Nat) (x2a : Option Addr) (x2n x2c : Nat), w2.cell? (Addr.mk b 0 none) = some (.slice x1a x1n x1c) ∧ w2.cell? ((Addr.mk b 0 none).add 1) = some (.slice x2a x2n x2c) ∧
 (Cl Tryz.prog 53 #[.agg #[.slice x1a x1n x1c, .slice x2a x2n x2c], .int .i64 n, .int .u64 id, .bool true, .func (.func 25) #[] #[]] w2 fun v w3 => ∃ (x3a : Option Addr) (x3n x3c : Nat) (x4a : Option Addr) (x4n x4c : Nat) (x5 x6 : Int), v = .tuple #[.agg #[.slice x3a x3n x3c, .slice x4a x4n x4c], .int .i64 x5, .int .i64 x6] ∧ ((w3.cell? (Addr.mk b2 0 none)).isSome = true ∧ w3.frozen? (Addr.mk b2 0 none) = false ∧ ((w3.cell? ((Addr.mk b2 0 none).add 1)).isSome = true ∧ w3.frozen? ((Addr.mk b2 0 none).add 1) = false ∧
 (∀ w4 : World, w4 = (w3.setCell (Addr.mk b2 0 none) (.slice x3a x3n x3c)).setCell ((Addr.mk b2 0 none).add 1) (.slice x4a x4n x4c) →
 (∃ (ra : Option Addr) (rn rc : Nat) (r2a : Option Addr) (r2n r2c : Nat), w4.cell? (Addr.mk b2 0 none) = some (.slice ra rn rc) ∧ w4.cell? ((Addr.mk b2 0 none).add 1) = some (.slice r2a r2n r2c) ∧ (R (.tuple #[.agg #[.slice ra rn rc, .slice r2a r2n r2c], .int .i64 x5, .int .i64 x6]) w4))))))))
theorem c14 (ga : Option Addr) (gn gc : Nat) (g2a : Option Addr) (g2n g2c : Nat) (n id : Int) {w : World} {R : Value → World → Prop} (hV : V14 ga gn gc g2a g2n g2c n id w R) : Cl Tryz.prog 14 #[.agg #[.slice ga gn gc, .slice g2a g2n g2c], .int .i64 n, .int .u64 id] w R :=
 fn_sound hmTryz (TT := []) (f := 14) Tryz.func14 (ent_of Tryz.func14 (by kernel_rfl) rfl) (Eq.mpr (by kernel_rfl) hV)
/-- windrose/graph.Less -/
def V15 (ga : Option Addr) (gn gc : Nat) (g2a : Option Addr) (g2n g2c : Nat) (n id : Int) (w : World) (R : Value → World → Prop) : Prop :=
 ∀ (b : Nat) (w1 : World), b = w.heap.size → w1 = w.alloc (.cells #[.slice ga gn gc, .slice g2a g2n g2c] 27) →
 (∀ (b2 : Nat) (w2 : World), b2 = w1.heap.size → w2 = w1.alloc (.cells #[.slice none 0 0, .slice none 0 0] 27) →
 (∃ (x1a : Option Addr) (x1n x1c : Nat) (x2a : Option Addr) (x2n x2c : Nat), w2.cell? (Addr.mk b 0 none) = some (.slice x1a x1n x1c) ∧ w2.cell? ((Addr.mk b 0 none).add 1) = some (.slice x2a x2n x2c) ∧
 (Cl Tryz.prog 53 #[.agg #[.slice x1a x1n x1c, .slice x2a x2n x2c], .int .i64 n, .int .u64 id, .bool false, .func (.func 54) #[] #[]] w2 fun v w3 => ∃ (x3a : Option Addr) (x3n x3c : Nat) (x4a : Option Addr) (x4n x4c : Nat) (x5 x6 : Int), v = .tuple #[.agg #[.slice x3a x3n x3c, .slice x4a x4n x4c], .int .i64 x5, .int .i64 x6] ∧ ((w3.cell? (Addr.mk b2 0 none)).isSome = true ∧ w3.frozen? (Addr.mk b2 0 none) = false ∧ ((w3.cell? ((Addr.mk b2 0 none).add 1)).isSome = true ∧ w3.frozen? ((Addr.mk b2 0 none).add 1) = false ∧
 (∀ w4 : World, w4 = (w3.setCell (Addr.mk b2 0 none) (.slice x3a x3n x3c)).setCell ((Addr.mk b2 0 none).add 1) (.slice x4a x4n x4c) →
 (∃ (ra : Option Addr) (rn rc : Nat) (r2a : Option Addr) (r2n r2c : Nat), w4.cell? (Addr.mk b2 0 none) = some (.slice ra rn rc) ∧ w4.cell? ((Addr.mk b2 0 none).add 1) = some (.slice r2a r2n r2c) ∧ (R (.tuple #[.agg #[.slice ra rn rc, .slice r2a r2n r2c], .int .i64 x5, .int .i64 x6]) w4))))))))
theorem c15 (ga : Option Addr) (gn gc : Nat) (g2a : Option Addr) (g2n g2c : Nat) (n id : Int) {w : World} {R : Value → World → Prop} (hV : V15 ga gn gc g2a g2n g2c n id w R) : Cl Tryz.prog 15 #[.agg #[.slice ga gn gc, .slice g2a g2n g2c], .int .i64 n, .int .u64 id] w R :=
 fn_sound hmTryz (TT := []) (f := 15) Tryz.func15 (ent_of Tryz.func15 (by kernel_rfl) rfl) (Eq.mpr (by kernel_rfl) hV)
end Go.Eng
namespace Go.Eng
open Go Go.Proofs
set_option maxRecDepth 100000
set_option maxHeartbeats 4000000
/-- windrose/windroseref12.Go -/
def V16 (la : Option Addr) (ln lc : Nat) (n id : Int) (plus : Bool) (w : World) (R : Value → World → Prop) : Prop :=
 Cl Tryz.prog 36 #[.slice la ln lc, .int .i64 n] w fun v w1 => ∃ (x1 : Bool), v = .bool x1 ∧
 (cond (!x1) (R (.tuple #[.slice none 0 0, .int .i64 0, .int .i64 2]) w1) (∃ p : Addr, la = some p ∧ 0 ≤ (IntKind.i64.wrap (n - 1)) ∧ (IntKind.i64.wrap (n - 1)) < (ln : Int) ∧
 (∃ (x2a : Option Addr) (x2n x2c : Nat), w1.cell? ((p.add (((IntKind.i64.wrap (n - 1))).toNat * 4)).add 1) = some (.slice x2a x2n x2c) ∧
 (Cl Tryz.prog 55 #[.slice x2a x2n x2c, .int .u64 id] w1 fun v2 w2 => ∃ (x3 : Bool), v2 = .bool x3 ∧
 (cond plus
 (Cl Tryz.prog 56 #[.int .u64 id] w2 fun v3 w3 => ∃ (x4 : Bool), v3 = .bool x4 ∧
 (cond (!x4) (R (.tuple #[.slice none 0 0, .int .i64 0, .int .i64 2]) w3)
 (cond plus (cond x3 (R (.tuple #[.slice la ln lc, .int .i64 n, .int .i64 0]) w3)
 (cond plus (cond ((x2n : Int) == 12) (R (.tuple #[.slice none 0 0, .int .i64 0, .int .i64 6]) w3)
 (cond (!plus)
 (cond (!x3) (R (.tuple #[.slice none 0 0, .int .i64 0, .int .i64 4]) w3)
 (Cl Tryz.prog 57 #[.slice x2a x2n x2c, .int .u64 id] w3 fun v4 w4 => ∃ (x5a : Option Addr) (x5n x5c : Nat), v4 = .slice x5a x5n x5c ∧
 (∃ (Jm : Option Addr → Nat → Nat → World → Prop), (cond plus
 (Cl Tryz.prog 58 #[.slice x2a x2n x2c, .int .u64 id] w4 fun v5 w5 => ∃ (x6a : Option Addr) (x6n x6c : Nat), v5 = .slice x6a x6n x6c ∧ (Jm x6a x6n x6c w5)) (Jm x5a x5n x5c w4)) ∧ ∀ (jk_ : Nat → Value) (w6 : World), ∀ (toa : Option Addr) (ton toc : Nat), Jm toa ton toc w6 →
 (Cl Tryz.prog 13 #[.slice la ln lc, .slice toa ton toc] w6 fun v6 w7 => ∃ (x7a : Option Addr) (x7n x7c : Nat) (x8 x9 : Int), v6 = .tuple #[.slice x7a x7n x7c, .int .i64 x8, .int .i64 x9] ∧
 (cond (x9 != 0) (R (.tuple #[.slice none 0 0, .int .i64 0, .int .i64 x9]) w7) (∀ (b : Nat) (w8 : World), b = w7.heap.size → w8 = w7.alloc (.cells #[] 56) →
 (∃ (x10a : Option Addr) (x10n x10c : Nat) (w9 : World), Sem.run Tryz.prog (Builtin.append_ #[22, 22] 22 #[.slice (some (Addr.mk b 0 none)) 0 0, .slice x7a x7n x7c]) w8 = .ok (.slice x10a x10n x10c) w9 ∧
 (∃ (Jm2 : Int → Int → World → Prop), (cond plus (Jm2 x8 n w9) (Jm2 n x8 w9)) ∧ ∀ (jk_2 : Nat → Value) (w10 : World), ∀ (less more : Int), Jm2 less more w10 →
 (∃ p2 : Addr, x10a = some p2 ∧ 0 ≤ (IntKind.i64.wrap (less - 1)) ∧ (IntKind.i64.wrap (less - 1)) < (x10n : Int) ∧
 (∃ (x11a : Option Addr) (x11n x11c : Nat), w10.cell? ((p2.add (((IntKind.i64.wrap (less - 1))).toNat * 4)).add 3) = some (.slice x11a x11n x11c) ∧
 (Cl Tryz.prog 59 #[.slice x11a x11n x11c, .agg #[.int .u64 id, .int .i64 more]] w10 fun v7 w11 => ∃ (x12a : Option Addr) (x12n x12c : Nat), v7 = .slice x12a x12n x12c ∧
 (∃ p3 : Addr, x10a = some p3 ∧ 0 ≤ (IntKind.i64.wrap (less - 1)) ∧ (IntKind.i64.wrap (less - 1)) < (x10n : Int) ∧ ((w11.cell? ((p3.add (((IntKind.i64.wrap (less - 1))).toNat * 4)).add 3)).isSome = true ∧ w11.frozen? ((p3.add (((IntKind.i64.wrap (less - 1))).toNat * 4)).add 3) = false ∧
 (∀ w12 : World, w12 = w11.setCell ((p3.add (((IntKind.i64.wrap (less - 1))).toNat * 4)).add 3) (.slice x12a x12n x12c) →
 (∃ p4 : Addr, x10a = some p4 ∧ 0 ≤ (IntKind.i64.wrap (more - 1)) ∧ (IntKind.i64.wrap (more - 1)) < (x10n : Int) ∧
 (∃ (x13a : Option Addr) (x13n x13c : Nat), w12.cell? ((p4.add (((IntKind.i64.wrap (more - 1))).toNat * 4)).add 2) = some (.slice x13a x13n x13c) ∧
 (Cl Tryz.prog 59 #[.slice x13a x13n x13c, .agg #[.int .u64 id, .int .i64 less]] w12 fun v8 w13 => ∃ (x14a : Option Addr) (x14n x14c : Nat), v8 = .slice x14a x14n x14c ∧
 (∃ p5 : Addr, x10a = some p5 ∧ 0 ≤ (IntKind.i64.wrap (more - 1)) ∧ (IntKind.i64.wrap (more - 1)) < (x10n : Int) ∧ ((w13.cell? ((p5.add (((IntKind.i64.wrap (more - 1))).toNat * 4)).add 2)).isSome = true ∧ w13.frozen? ((p5.add (((IntKind.i64.wrap (more - 1))).toNat * 4)).add 2) = false ∧
 (∀ w14 : World, w14 = w13.setCell ((p5.add (((IntKind.i64.wrap (more - 1))).toNat * 4)).add 2) (.slice x14a x14n x14c) → (R (.tuple #[.slice x10a x10n x10c, .int .i64 x8, .int .i64 0]) w14)))))))))))))))))))))
 (Cl Tryz.prog 57 #[.slice x2a x2n x2c, .int .u64 id] w3 fun v9 w15 => ∃ (x15a : Option Addr) (x15n x15c : Nat), v9 = .slice x15a x15n x15c ∧
 (∃ (Jm3 : Option Addr → Nat → Nat → World → Prop), (cond plus
 (Cl Tryz.prog 58 #[.slice x2a x2n x2c, .int .u64 id] w15 fun v10 w16 => ∃ (x16a : Option Addr) (x16n x16c : Nat), v10 = .slice x16a x16n x16c ∧ (Jm3 x16a x16n x16c w16)) (Jm3 x15a x15n x15c w15)) ∧ ∀ (jk_3 : Nat → Value) (w17 : World), ∀ (to2a : Option Addr) (to2n to2c : Nat), Jm3 to2a to2n to2c w17 →
 (Cl Tryz.prog 13 #[.slice la ln lc, .slice to2a to2n to2c] w17 fun v11 w18 => ∃ (x17a : Option Addr) (x17n x17c : Nat) (x18 x19 : Int), v11 = .tuple #[.slice x17a x17n x17c, .int .i64 x18, .int .i64 x19] ∧
 (cond (x19 != 0) (R (.tuple #[.slice none 0 0, .int .i64 0, .int .i64 x19]) w18) (∀ (b2 : Nat) (w19 : World), b2 = w18.heap.size → w19 = w18.alloc (.cells #[] 56) →
 (∃ (x20a : Option Addr) (x20n x20c : Nat) (w20 : World), Sem.run Tryz.prog (Builtin.append_ #[22, 22] 22 #[.slice (some (Addr.mk b2 0 none)) 0 0, .slice x17a x17n x17c]) w19 = .ok (.slice x20a x20n x20c) w20 ∧
 (∃ (Jm4 : Int → Int → World → Prop), (cond plus (Jm4 x18 n w20) (Jm4 n x18 w20)) ∧ ∀ (jk_4 : Nat → Value) (w21 : World), ∀ (less2 more2 : Int), Jm4 less2 more2 w21 →
 (∃ p6 : Addr, x20a = some p6 ∧ 0 ≤ (IntKind.i64.wrap (less2 - 1)) ∧ (IntKind.i64.wrap (less2 - 1)) < (x20n : Int) ∧
 (∃ (x21a : Option Addr) (x21n x21c : Nat), w21.cell? ((p6.add (((IntKind.i64.wrap (less2 - 1))).toNat * 4)).add 3) = some (.slice x21a x21n x21c) ∧
 (Cl Tryz.prog 59 #[.slice x21a x21n x21c, .agg #[.int .u64 id, .int .i64 more2]] w21 fun v12 w22 => ∃ (x22a : Option Addr) (x22n x22c : Nat), v12 = .slice x22a x22n x22c ∧
 (∃ p7 : Addr, x20a = some p7 ∧ 0 ≤ (IntKind.i64.wrap (less2 - 1)) ∧ (IntKind.i64.wrap (less2 - 1)) < (x20n : Int) ∧ ((w22.cell? ((p7.add (((IntKind.i64.wrap (less2 - 1))).toNat * 4)).add 3)).isSome = true ∧ w22.frozen? ((p7.add (((IntKind.i64.wrap (less2 - 1))).toNat * 4)).add 3) = false ∧
 (∀ w23 : World, w23 = w22.setCell ((p7.add (((IntKind.i64.wrap (less2 - 1))).toNat * 4)).add 3) (.slice x22a x22n x22c) →
 (∃ p8 : Addr, x20a = some p8 ∧ 0 ≤ (IntKind.i64.wrap (more2 - 1)) ∧ (IntKind.i64.wrap (more2 - 1)) < (x20n : Int) ∧
 (∃ (x23a : Option Addr) (x23n x23c : Nat), w23.cell? ((p8.add (((IntKind.i64.wrap (more2 - 1))).toNat * 4)).add 2) = some (.slice x23a x23n x23c) ∧
 (Cl Tryz.prog 59 #[.slice x23a x23n x23c, .agg #[.int .u64 id, .int .i64 less2]] w23 fun v13 w24 => ∃ (x24a : Option Addr) (x24n x24c : Nat), v13 = .slice x24a x24n x24c ∧
 (∃ p9 : Addr, x20a = some p9 ∧ 0 ≤ (IntKind.i64.wrap (more2 - 1)) ∧ (IntKind.i64.wrap (more2 - 1)) < (x20n : Int) ∧ ((w24.cell? ((p9.add (((IntKind.i64.wrap (more2 - 1))).toNat * 4)).add 2)).isSome = true ∧ w24.frozen? ((p9.add (((IntKind.i64.wrap (more2 - 1))).toNat * 4)).add 2) = false ∧
 (∀ w25 : World, w25 = w24.setCell ((p9.add (((IntKind.i64.wrap (more2 - 1))).toNat * 4)).add 2) (.slice x24a x24n x24c) → (R (.tuple #[.slice x20a x20n x20c, .int .i64 x18, .int .i64 0]) w25))))))))))))))))))))))
 (cond (!plus)
 (cond (!x3) (R (.tuple #[.slice none 0 0, .int .i64 0, .int .i64 4]) w3)
 (Cl Tryz.prog 57 #[.slice x2a x2n x2c, .int .u64 id] w3 fun v14 w26 => ∃ (x25a : Option Addr) (x25n x25c : Nat), v14 = .slice x25a x25n x25c ∧
 (∃ (Jm5 : Option Addr → Nat → Nat → World → Prop), (cond plus
 (Cl Tryz.prog 58 #[.slice x2a x2n x2c, .int .u64 id] w26 fun v15 w27 => ∃ (x26a : Option Addr) (x26n x26c : Nat), v15 = .slice x26a x26n x26c ∧ (Jm5 x26a x26n x26c w27)) (Jm5 x25a x25n x25c w26)) ∧ ∀ (jk_5 : Nat → Value) (w28 : World), ∀ (to3a : Option Addr) (to3n to3c : Nat), Jm5 to3a to3n to3c w28 →
 (Cl Tryz.prog 13 #[.slice la ln lc, .slice to3a to3n to3c] w28 fun v16 w29 => ∃ (x27a : Option Addr) (x27n x27c : Nat) (x28 x29 : Int), v16 = .tuple #[.slice x27a x27n x27c, .int .i64 x28, .int .i64 x29] ∧
 (cond (x29 != 0) (R (.tuple #[.slice none 0 0, .int .i64 0, .int .i64 x29]) w29) (∀ (b3 : Nat) (w30 : World), b3 = w29.heap.size → w30 = w29.alloc (.cells #[] 56) →
 (∃ (x30a : Option Addr) (x30n x30c : Nat) (w31 : World), Sem.run Tryz.prog (Builtin.append_ #[22, 22] 22 #[.slice (some (Addr.mk b3 0 none)) 0 0, .slice x27a x27n x27c]) w30 = .ok (.slice x30a x30n x30c) w31 ∧
 (∃ (Jm6 : Int → Int → World → Prop), (cond plus (Jm6 x28 n w31) (Jm6 n x28 w31)) ∧ ∀ (jk_6 : Nat → Value) (w32 : World), ∀ (less3 more3 : Int), Jm6 less3 more3 w32 →
 (∃ p10 : Addr, x30a = some p10 ∧ 0 ≤ (IntKind.i64.wrap (less3 - 1)) ∧ (IntKind.i64.wrap (less3 - 1)) < (x30n : Int) ∧
 (∃ (x31a : Option Addr) (x31n x31c : Nat), w32.cell? ((p10.add (((IntKind.i64.wrap (less3 - 1))).toNat * 4)).add 3) = some (.slice x31a x31n x31c) ∧
 (Cl Tryz.prog 59 #[.slice x31a x31n x31c, .agg #[.int .u64 id, .int .i64 more3]] w32 fun v17 w33 => ∃ (x32a : Option Addr) (x32n x32c : Nat), v17 = .slice x32a x32n x32c ∧
 (∃ p11 : Addr, x30a = some p11 ∧ 0 ≤ (IntKind.i64.wrap (less3 - 1)) ∧ (IntKind.i64.wrap (less3 - 1)) < (x30n : Int) ∧ ((w33.cell? ((p11.add (((IntKind.i64.wrap (less3 - 1))).toNat * 4)).add 3)).isSome = true ∧ w33.frozen? ((p11.add (((IntKind.i64.wrap (less3 - 1))).toNat * 4)).add 3) = false ∧
 (∀ w34 : World, w34 = w33.setCell ((p11.add (((IntKind.i64.wrap (less3 - 1))).toNat * 4)).add 3) (.slice x32a x32n x32c) →
 (∃ p12 : Addr, x30a = some p12 ∧ 0 ≤ (IntKind.i64.wrap (more3 - 1)) ∧ (IntKind.i64.wrap (more3 - 1)) < (x30n : Int) ∧
 (∃ (x33a : Option Addr) (x33n x33c : Nat), w34.cell? ((p12.add (((IntKind.i64.wrap (more3 - 1))).toNat * 4)).add 2) = some (.slice x33a x33n x33c) ∧
 (Cl Tryz.prog 59 #[.slice x33a x33n x33c, .agg #[.int .u64 id, .int .i64 less3]] w34 fun v18 w35 => ∃ (x34a : Option Addr) (x34n x34c : Nat), v18 = .slice x34a x34n x34c ∧
 (∃ p13 : Addr, x30a = some p13 ∧ 0 ≤ (IntKind.i64.wrap (more3 - 1)) ∧ (IntKind.i64.wrap (more3 - 1)) < (x30n : Int) ∧ ((w35.cell? ((p13.add (((IntKind.i64.wrap (more3 - 1))).toNat * 4)).add 2)).isSome = true ∧ w35.frozen? ((p13.add (((IntKind.i64.wrap (more3 - 1))).toNat * 4)).add 2) = false ∧
 (∀ w36 : World, w36 = w35.setCell ((p13.add (((IntKind.i64.wrap (more3 - 1))).toNat * 4)).add 2) (.slice x34a x34n x34c) → (R (.tuple #[.slice x30a x30n x30c, .int .i64 x28, .int .i64 0]) w36)))))))))))))))))))))
 (Cl Tryz.prog 57 #[.slice x2a x2n x2c, .int .u64 id] w3 fun v19 w37 => ∃ (x35a : Option Addr) (x35n x35c : Nat), v19 = .slice x35a x35n x35c ∧
 (∃ (Jm7 : Option Addr → Nat → Nat → World → Prop), (cond plus
 (Cl Tryz.prog 58 #[.slice x2a x2n x2c, .int .u64 id] w37 fun v20 w38 => ∃ (x36a : Option Addr) (x36n x36c : Nat), v20 = .slice x36a x36n x36c ∧ (Jm7 x36a x36n x36c w38)) (Jm7 x35a x35n x35c w37)) ∧ ∀ (jk_7 : Nat → Value) (w39 : World), ∀ (to4a : Option Addr) (to4n to4c : Nat), Jm7 to4a to4n to4c w39 →
 (Cl Tryz.prog 13 #[.slice la ln lc, .slice to4a to4n to4c] w39 fun v21 w40 => ∃ (x37a : Option Addr) (x37n x37c : Nat) (x38 x39 : Int), v21 = .tuple #[.slice x37a x37n x37c, .int .i64 x38, .int .i64 x39] ∧
 (cond (x39 != 0) (R (.tuple #[.slice none 0 0, .int .i64 0, .int .i64 x39]) w40) (∀ (b4 : Nat) (w41 : World), b4 = w40.heap.size → w41 = w40.alloc (.cells #[] 56) →
 (∃ (x40a : Option Addr) (x40n x40c : Nat) (w42 : World), Sem.run Tryz.prog (Builtin.append_ #[22, 22] 22 #[.slice (some (Addr.mk b4 0 none)) 0 0, .slice x37a x37n x37c]) w41 = .ok (.slice x40a x40n x40c) w42 ∧
 (∃ (Jm8 : Int → Int → World → Prop), (cond plus (Jm8 x38 n w42) (Jm8 n x38 w42)) ∧ ∀ (jk_8 : Nat → Value) (w43 : World), ∀ (less4 more4 : Int), Jm8 less4 more4 w43 →
 (∃ p14 : Addr, x40a = some p14 ∧ 0 ≤ (IntKind.i64.wrap (less4 - 1)) ∧ (IntKind.i64.wrap (less4 - 1)) < (x40n : Int) ∧
 (∃ (x41a : Option Addr) (x41n x41c : Nat), w43.cell? ((p14.add (((IntKind.i64.wrap (less4 - 1))).toNat * 4)).add 3) = some (.slice x41a x41n x41c) ∧
 (Cl Tryz.prog 59 #[.slice x41a x41n x41c, .agg #[.int .u64 id, .int .i64 more4]] w43 fun v22 w44 => ∃ (x42a : Option Addr) (x42n x42c : Nat), v22 = .slice x42a x42n x42c ∧
 (∃ p15 : Addr, x40a = some p15 ∧ 0 ≤ (IntKind.i64.wrap (less4 - 1)) ∧ (IntKind.i64.wrap (less4 - 1)) < (x40n : Int) ∧ ((w44.cell? ((p15.add (((IntKind.i64.wrap (less4 - 1))).toNat * 4)).add 3)).isSome = true ∧ w44.frozen? ((p15.add (((IntKind.i64.wrap (less4 - 1))).toNat * 4)).add 3) = false ∧
 (∀ w45 : World, w45 = w44.setCell ((p15.add (((IntKind.i64.wrap (less4 - 1))).toNat * 4)).add 3) (.slice x42a x42n x42c) →
 (∃ p16 : Addr, x40a = some p16 ∧ 0 ≤ (IntKind.i64.wrap (more4 - 1)) ∧ (IntKind.i64.wrap (more4 - 1)) < (x40n : Int) ∧
 (∃ (x43a : Option Addr) (x43n x43c : Nat), w45.cell? ((p16.add (((IntKind.i64.wrap (more4 - 1))).toNat * 4)).add 2) = some (.slice x43a x43n x43c) ∧
 (Cl Tryz.prog 59 #[.slice x43a x43n x43c, .agg #[.int .u64 id, .int .i64 less4]] w45 fun v23 w46 => ∃ (x44a : Option Addr) (x44n x44c : Nat), v23 = .slice x44a x44n x44c ∧
 (∃ p17 : Addr, x40a = some p17 ∧ 0 ≤ (IntKind.i64.wrap (more4 - 1)) ∧ (IntKind.i64.wrap (more4 - 1)) < (x40n : Int) ∧ ((w46.cell? ((p17.add (((IntKind.i64.wrap (more4 - 1))).toNat * 4)).add 2)).isSome = true ∧ w46.frozen? ((p17.add (((IntKind.i64.wrap (more4 - 1))).toNat * 4)).add 2) = false ∧
 (∀ w47 : World, w47 = w46.setCell ((p17.add (((IntKind.i64.wrap (more4 - 1))).toNat * 4)).add 2) (.slice x44a x44n x44c) → (R (.tuple #[.slice x40a x40n x40c, .int .i64 x38, .int .i64 0]) w47)))))))))))))))))))))))
 (cond plus (cond ((x2n : Int) == 12) (R (.tuple #[.slice none 0 0, .int .i64 0, .int .i64 6]) w3)
 (cond (!plus)
 (cond (!x3) (R (.tuple #[.slice none 0 0, .int .i64 0, .int .i64 4]) w3)
 (Cl Tryz.prog 57 #[.slice x2a x2n x2c, .int .u64 id] w3 fun v24 w48 => ∃ (x45a : Option Addr) (x45n x45c : Nat), v24 = .slice x45a x45n x45c ∧
 (∃ (Jm9 : Option Addr → Nat → Nat → World → Prop), (cond plus
 (Cl Tryz.prog 58 #[.slice x2a x2n x2c, .int .u64 id] w48 fun v25 w49 => ∃ (x46a : Option Addr) (x46n x46c : Nat), v25 = .slice x46a x46n x46c ∧ (Jm9 x46a x46n x46c w49)) (Jm9 x45a x45n x45c w48)) ∧ ∀ (jk_9 : Nat → Value) (w50 : World), ∀ (to5a : Option Addr) (to5n to5c : Nat), Jm9 to5a to5n to5c w50 →
 (Cl Tryz.prog 13 #[.slice la ln lc, .slice to5a to5n to5c] w50 fun v26 w51 => ∃ (x47a : Option Addr) (x47n x47c : Nat) (x48 x49 : Int), v26 = .tuple #[.slice x47a x47n x47c, .int .i64 x48, .int .i64 x49] ∧
 (cond (x49 != 0) (R (.tuple #[.slice none 0 0, .int .i64 0, .int .i64 x49]) w51) (∀ (b5 : Nat) (w52 : World), b5 = w51.heap.size → w52 = w51.alloc (.cells #[] 56) →
 (∃ (x50a : Option Addr) (x50n x50c : Nat) (w53 : World), Sem.run Tryz.prog (Builtin.append_ #[22, 22] 22 #[.slice (some (Addr.mk b5 0 none)) 0 0, .slice x47a x47n x47c]) w52 = .ok (.slice x50a x50n x50c) w53 ∧
 (∃ (Jm10 : Int → Int → World → Prop), (cond plus (Jm10 x48 n w53) (Jm10 n x48 w53)) ∧ ∀ (jk_10 : Nat → Value) (w54 : World), ∀ (less5 more5 : Int), Jm10 less5 more5 w54 →
 (∃ p18 : Addr, x50a = some p18 ∧ 0 ≤ (IntKind.i64.wrap (less5 - 1)) ∧ (IntKind.i64.wrap (less5 - 1)) < (x50n : Int) ∧
 (∃ (x51a : Option Addr) (x51n x51c : Nat), w54.cell? ((p18.add (((IntKind.i64.wrap (less5 - 1))).toNat * 4)).add 3) = some (.slice x51a x51n x51c) ∧
 (Cl Tryz.prog 59 #[.slice x51a x51n x51c, .agg #[.int .u64 id, .int .i64 more5]] w54 fun v27 w55 => ∃ (x52a : Option Addr) (x52n x52c : Nat), v27 = .slice x52a x52n x52c ∧
 (∃ p19 : Addr, x50a = some p19 ∧ 0 ≤ (IntKind.i64.wrap (less5 - 1)) ∧ (IntKind.i64.wrap (less5 - 1)) < (x50n : Int) ∧ ((w55.cell? ((p19.add (((IntKind.i64.wrap (less5 - 1))).toNat * 4)).add 3)).isSome = true ∧ w55.frozen? ((p19.add (((IntKind.i64.wrap (less5 - 1))).toNat * 4)).add 3) = false ∧
 (∀ w56 : World, w56 = w55.setCell ((p19.add (((IntKind.i64.wrap (less5 - 1))).toNat * 4)).add 3) (.slice x52a x52n x52c) →
 (∃ p20 : Addr, x50a = some p20 ∧ 0 ≤ (IntKind.i64.wrap (more5 - 1)) ∧ (IntKind.i64.wrap (more5 - 1)) < (x50n : Int) ∧
 (∃ (x53a : Option Addr) (x53n x53c : Nat), w56.cell? ((p20.add (((IntKind.i64.wrap (more5 - 1))).toNat * 4)).add 2) = some (.slice x53a x53n x53c) ∧
 (Cl Tryz.prog 59 #[.slice x53a x53n x53c, .agg #[.int .u64 id, .int .i64 less5]] w56 fun v28 w57 => ∃ (x54a : Option Addr) (x54n x54c : Nat), v28 = .slice x54a x54n x54c ∧
 (∃ p21 : Addr, x50a = some p21 ∧ 0 ≤ (IntKind.i64.wrap (more5 - 1)) ∧ (IntKind.i64.wrap (more5 - 1)) < (x50n : Int) ∧ ((w57.cell? ((p21.add (((IntKind.i64.wrap (more5 - 1))).toNat * 4)).add 2)).isSome = true ∧ w57.frozen? ((p21.add (((IntKind.i64.wrap (more5 - 1))).toNat * 4)).add 2) = false ∧
 (∀ w58 : World, w58 = w57.setCell ((p21.add (((IntKind.i64.wrap (more5 - 1))).toNat * 4)).add 2) (.slice x54a x54n x54c) → (R (.tuple #[.slice x50a x50n x50c, .int .i64 x48, .int .i64 0]) w58)))))))))))))))))))))
 (Cl Tryz.prog 57 #[.slice x2a x2n x2c, .int .u64 id] w3 fun v29 w59 => ∃ (x55a : Option Addr) (x55n x55c : Nat), v29 = .slice x55a x55n x55c ∧
 (∃ (Jm11 : Option Addr → Nat → Nat → World → Prop), (cond plus
 (Cl Tryz.prog 58 #[.slice x2a x2n x2c, .int .u64 id] w59 fun v30 w60 => ∃ (x56a : Option Addr) (x56n x56c : Nat), v30 = .slice x56a x56n x56c ∧ (Jm11 x56a x56n x56c w60)) (Jm11 x55a x55n x55c w59)) ∧ ∀ (jk_11 : Nat → Value) (w61 : World), ∀ (to6a : Option Addr) (to6n to6c : Nat), Jm11 to6a to6n to6c w61 →
 (Cl Tryz.prog 13 #[.slice la ln lc, .slice to6a to6n to6c] w61 fun v31 w62 => ∃ (x57a : Option Addr) (x57n x57c : Nat) (x58 x59 : Int), v31 = .tuple #[.slice x57a x57n x57c, .int .i64 x58, .int .i64 x59] ∧
 (cond (x59 != 0) (R (.tuple #[.slice none 0 0, .int .i64 0, .int .i64 x59]) w62) (∀ (b6 : Nat) (w63 : World), b6 = w62.heap.size → w63 = w62.alloc (.cells #[] 56) →
 (∃ (x60a : Option Addr) (x60n x60c : Nat) (w64 : World), Sem.run Tryz.prog (Builtin.append_ #[22, 22] 22 #[.slice (some (Addr.mk b6 0 none)) 0 0, .slice x57a x57n x57c]) w63 = .ok (.slice x60a x60n x60c) w64 ∧
 (∃ (Jm12 : Int → Int → World → Prop), (cond plus (Jm12 x58 n w64) (Jm12 n x58 w64)) ∧ ∀ (jk_12 : Nat → Value) (w65 : World), ∀ (less6 more6 : Int), Jm12 less6 more6 w65 →
 (∃ p22 : Addr, x60a = some p22 ∧ 0 ≤ (IntKind.i64.wrap (less6 - 1)) ∧ (IntKind.i64.wrap (less6 - 1)) < (x60n : Int) ∧
 (∃ (x61a : Option Addr) (x61n x61c : Nat), w65.cell? ((p22.add (((IntKind.i64.wrap (less6 - 1))).toNat * 4)).add 3) = some (.slice x61a x61n x61c) ∧
 (Cl Tryz.prog 59 #[.slice x61a x61n x61c, .agg #[.int .u64 id, .int .i64 more6]] w65 fun v32 w66 => ∃ (x62a : Option Addr) (x62n x62c : Nat), v32 = .slice x62a x62n x62c ∧
 (∃ p23 : Addr, x60a = some p23 ∧ 0 ≤ (IntKind.i64.wrap (less6 - 1)) ∧ (IntKind.i64.wrap (less6 - 1)) < (x60n : Int) ∧ ((w66.cell? ((p23.add (((IntKind.i64.wrap (less6 - 1))).toNat * 4)).add 3)).isSome = true ∧ w66.frozen? ((p23.add (((IntKind.i64.wrap (less6 - 1))).toNat * 4)).add 3) = false ∧
 (∀ w67 : World, w67 = w66.setCell ((p23.add (((IntKind.i64.wrap (less6 - 1))).toNat * 4)).add 3) (.slice x62a x62n x62c) →
 (∃ p24 : Addr, x60a = some p24 ∧ 0 ≤ (IntKind.i64.wrap (more6 - 1)) ∧ (IntKind.i64.wrap (more6 - 1)) < (x60n : Int) ∧
 (∃ (x63a : Option Addr) (x63n x63c : Nat), w67.cell? ((p24.add (((IntKind.i64.wrap (more6 - 1))).toNat * 4)).add 2) = some (.slice x63a x63n x63c) ∧
 (Cl Tryz.prog 59 #[.slice x63a x63n x63c, .agg #[.int .u64 id, .int .i64 less6]] w67 fun v33 w68 => ∃ (x64a : Option Addr) (x64n x64c : Nat), v33 = .slice x64a x64n x64c ∧
 (∃ p25 : Addr, x60a = some p25 ∧ 0 ≤ (IntKind.i64.wrap (more6 - 1)) ∧ (IntKind.i64.wrap (more6 - 1)) < (x60n : Int) ∧ ((w68.cell? ((p25.add (((IntKind.i64.wrap (more6 - 1))).toNat * 4)).add 2)).isSome = true ∧ w68.frozen? ((p25.add (((IntKind.i64.wrap (more6 - 1))).toNat * 4)).add 2) = false ∧
 (∀ w69 : World, w69 = w68.setCell ((p25.add (((IntKind.i64.wrap (more6 - 1))).toNat * 4)).add 2) (.slice x64a x64n x64c) → (R (.tuple #[.slice x60a x60n x60c, .int .i64 x58, .int .i64 0]) w69))))))))))))))))))))))
 (cond (!plus)
 (cond (!x3) (R (.tuple #[.slice none 0 0, .int .i64 0, .int .i64 4]) w3)
 (Cl Tryz.prog 57 #[.slice x2a x2n x2c, .int .u64 id] w3 fun v34 w70 => ∃ (x65a : Option Addr) (x65n x65c : Nat), v34 = .slice x65a x65n x65c ∧
 (∃ (Jm13 : Option Addr → Nat → Nat → World → Prop), (cond plus
 (Cl Tryz.prog 58 #[.slice x2a x2n x2c, .int .u64 id] w70 fun v35 w71 => ∃ (x66a : Option Addr) (x66n x66c : Nat), v35 = .slice x66a x66n x66c ∧ (Jm13 x66a x66n x66c w71)) (Jm13 x65a x65n x65c w70)) ∧ ∀ (jk_13 : Nat → Value) (w72 : World), ∀ (to7a : Option Addr) (to7n to7c : Nat), Jm13 to7a to7n to7c w72 →
 (Cl Tryz.prog 13 #[.slice la ln lc, .slice to7a to7n to7c] w72 fun v36 w73 => ∃ (x67a : Option Addr) (x67n x67c : Nat) (x68 x69 : Int), v36 = .tuple #[.slice x67a x67n x67c, .int .i64 x68, .int .i64 x69] ∧
 (cond (x69 != 0) (R (.tuple #[.slice none 0 0, .int .i64 0, .int .i64 x69]) w73) (∀ (b7 : Nat) (w74 : World), b7 = w73.heap.size → w74 = w73.alloc (.cells #[] 56) →
 (∃ (x70a : Option Addr) (x70n x70c : Nat) (w75 : World), Sem.run Tryz.prog (Builtin.append_ #[22, 22] 22 #[.slice (some (Addr.mk b7 0 none)) 0 0, .slice x67a x67n x67c]) w74 = .ok (.slice x70a x70n x70c) w75 ∧
 (∃ (Jm14 : Int → Int → World → Prop), (cond plus (Jm14 x68 n w75) (Jm14 n x68 w75)) ∧ ∀ (jk_14 : Nat → Value) (w76 : World), ∀ (less7 more7 : Int), Jm14 less7 more7 w76 →
 (∃ p26 : Addr, x70a = some p26 ∧ 0 ≤ (IntKind.i64.wrap (less7 - 1)) ∧ (IntKind.i64.wrap (less7 - 1)) < (x70n : Int) ∧
 (∃ (x71a : Option Addr) (x71n x71c : Nat), w76.cell? ((p26.add (((IntKind.i64.wrap (less7 - 1))).toNat * 4)).add 3) = some (.slice x71a x71n x71c) ∧
 (Cl Tryz.prog 59 #[.slice x71a x71n x71c, .agg #[.int .u64 id, .int .i64 more7]] w76 fun v37 w77 => ∃ (x72a : Option Addr) (x72n x72c : Nat), v37 = .slice x72a x72n x72c ∧
 (∃ p27 : Addr, x70a = some p27 ∧ 0 ≤ (IntKind.i64.wrap (less7 - 1)) ∧ (IntKind.i64.wrap (less7 - 1)) < (x70n : Int) ∧ ((w77.cell? ((p27.add (((IntKind.i64.wrap (less7 - 1))).toNat * 4)).add 3)).isSome = true ∧ w77.frozen? ((p27.add (((IntKind.i64.wrap (less7 - 1))).toNat * 4)).add 3) = false ∧
 (∀ w78 : World, w78 = w77.setCell ((p27.add (((IntKind.i64.wrap (less7 - 1))).toNat * 4)).add 3) (.slice x72a x72n x72c) →
 (∃ p28 : Addr, x70a = some p28 ∧ 0 ≤ (IntKind.i64.wrap (more7 - 1)) ∧ (IntKind.i64.wrap (more7 - 1)) < (x70n : Int) ∧
 (∃ (x73a : Option Addr) (x73n x73c : Nat), w78.cell? ((p28.add (((IntKind.i64.wrap (more7 - 1))).toNat * 4)).add 2) = some (.slice x73a x73n x73c) ∧
 (Cl Tryz.prog 59 #[.slice x73a x73n x73c, .agg #[.int .u64 id, .int .i64 less7]] w78 fun v38 w79 => ∃ (x74a : Option Addr) (x74n x74c : Nat), v38 = .slice x74a x74n x74c ∧
 (∃ p29 : Addr, x70a = some p29 ∧ 0 ≤ (IntKind.i64.wrap (more7 - 1)) ∧ (IntKind.i64.wrap (more7 - 1)) < (x70n : Int) ∧ ((w79.cell? ((p29.add (((IntKind.i64.wrap (more7 - 1))).toNat * 4)).add 2)).isSome = true ∧ w79.frozen? ((p29.add (((IntKind.i64.wrap (more7 - 1))).toNat * 4)).add 2) = false ∧
 (∀ w80 : World, w80 = w79.setCell ((p29.add (((IntKind.i64.wrap (more7 - 1))).toNat * 4)).add 2) (.slice x74a x74n x74c) → (R (.tuple #[.slice x70a x70n x70c, .int .i64 x68, .int .i64 0]) w80)))))))))))))))))))))
 (Cl Tryz.prog 57 #[.slice x2a x2n x2c, .int .u64 id] w3 fun v39 w81 => ∃ (x75a : Option Addr) (x75n x75c : Nat), v39 = .slice x75a x75n x75c ∧
 (∃ (Jm15 : Option Addr → Nat → Nat → World → Prop), (cond plus
 (Cl Tryz.prog 58 #[.slice x2a x2n x2c, .int .u64 id] w81 fun v40 w82 => ∃ (x76a : Option Addr) (x76n x76c : Nat), v40 = .slice x76a x76n x76c ∧ (Jm15 x76a x76n x76c w82)) (Jm15 x75a x75n x75c w81)) ∧ ∀ (jk_15 : Nat → Value) (w83 : World), ∀ (to8a : Option Addr) (to8n to8c : Nat), Jm15 to8a to8n to8c w83 →
 (Cl Tryz.prog 13 #[.slice la ln lc, .slice to8a to8n to8c] w83 fun v41 w84 => ∃ (x77a : Option Addr) (x77n x77c : Nat) (x78 x79 : Int), v41 = .tuple #[.slice x77a x77n x77c, .int .i64 x78, .int .i64 x79] ∧
 (cond (x79 != 0) (R (.tuple #[.slice none 0 0, .int .i64 0, .int .i64 x79]) w84) (∀ (b8 : Nat) (w85 : World), b8 = w84.heap.size → w85 = w84.alloc (.cells #[] 56) →
 (∃ (x80a : Option Addr) (x80n x80c : Nat) (w86 : World), Sem.run Tryz.prog (Builtin.append_ #[22, 22] 22 #[.slice (some (Addr.mk b8 0 none)) 0 0, .slice x77a x77n x77c]) w85 = .ok (.slice x80a x80n x80c) w86 ∧
 (∃ (Jm16 : Int → Int → World → Prop), (cond plus (Jm16 x78 n w86) (Jm16 n x78 w86)) ∧ ∀ (jk_16 : Nat → Value) (w87 : World), ∀ (less8 more8 : Int), Jm16 less8 more8 w87 →
 (∃ p30 : Addr, x80a = some p30 ∧ 0 ≤ (IntKind.i64.wrap (less8 - 1)) ∧ (IntKind.i64.wrap (less8 - 1)) < (x80n : Int) ∧
 (∃ (x81a : Option Addr) (x81n x81c : Nat), w87.cell? ((p30.add (((IntKind.i64.wrap (less8 - 1))).toNat * 4)).add 3) = some (.slice x81a x81n x81c) ∧
 (Cl Tryz.prog 59 #[.slice x81a x81n x81c, .agg #[.int .u64 id, .int .i64 more8]] w87 fun v42 w88 => ∃ (x82a : Option Addr) (x82n x82c : Nat), v42 = .slice x82a x82n x82c ∧
 (∃ p31 : Addr, x80a = some p31 ∧ 0 ≤ (IntKind.i64.wrap (less8 - 1)) ∧ (IntKind.i64.wrap (less8 - 1)) < (x80n : Int) ∧ ((w88.cell? ((p31.add (((IntKind.i64.wrap (less8 - 1))).toNat * 4)).add 3)).isSome = true ∧ w88.frozen? ((p31.add (((IntKind.i64.wrap (less8 - 1))).toNat * 4)).add 3) = false ∧
 (∀ w89 : World, w89 = w88.setCell ((p31.add (((IntKind.i64.wrap (less8 - 1))).toNat * 4)).add 3) (.slice x82a x82n x82c) →
 (∃ p32 : Addr, x80a = some p32 ∧ 0 ≤ (IntKind.i64.wrap (more8 - 1)) ∧ (IntKind.i64.wrap (more8 - 1)) < (x80n : Int) ∧
 (∃ (x83a : Option Addr) (x83n x83c : Nat), w89.cell? ((p32.add (((IntKind.i64.wrap (more8 - 1))).toNat * 4)).add 2) = some (.slice x83a x83n x83c) ∧
 (Cl Tryz.prog 59 #[.slice x83a x83n x83c, .agg #[.int .u64 id, .int .i64 less8]] w89 fun v43 w90 => ∃ (x84a : Option Addr) (x84n x84c : Nat), v43 = .slice x84a x84n x84c ∧
 (∃ p33 : Addr, x80a = some p33 ∧ 0 ≤ (IntKind.i64.wrap (more8 - 1)) ∧ (IntKind.i64.wrap (more8 - 1)) < (x80n : Int) ∧ ((w90.cell? ((p33.add (((IntKind.i64.wrap (more8 - 1))).toNat * 4)).add 2)).isSome = true ∧ w90.frozen? ((p33.add (((IntKind.i64.wrap (more8 - 1))).toNat * 4)).add 2) = false ∧
 (∀ w91 : World, w91 = w90.setCell ((p33.add (((IntKind.i64.wrap (more8 - 1))).toNat * 4)).add 2) (.slice x84a x84n x84c) → (R (.tuple #[.slice x80a x80n x80c, .int .i64 x78, .int .i64 0]) w91)))))))))))))))))))))))))
 (cond plus (cond x3 (R (.tuple #[.slice la ln lc, .int .i64 n, .int .i64 0]) w2)
 (cond plus (cond ((x2n : Int) == 12) (R (.tuple #[.slice none 0 0, .int .i64 0, .int .i64 6]) w2)
 (cond (!plus)
 (cond (!x3) (R (.tuple #[.slice none 0 0, .int .i64 0, .int .i64 4]) w2)
 (Cl Tryz.prog 57 #[.slice x2a x2n x2c, .int .u64 id] w2 fun v44 w92 => ∃ (x85a : Option Addr) (x85n x85c : Nat), v44 = .slice x85a x85n x85c ∧
 (∃ (Jm17 : Option Addr → Nat → Nat → World → Prop), (cond plus
 (Cl Tryz.prog 58 #[.slice x2a x2n x2c, .int .u64 id] w92 fun v45 w93 => ∃ (x86a : Option Addr) (x86n x86c : Nat), v45 = .slice x86a x86n x86c ∧ (Jm17 x86a x86n x86c w93)) (Jm17 x85a x85n x85c w92)) ∧ ∀ (jk_17 : Nat → Value) (w94 : World), ∀ (to9a : Option Addr) (to9n to9c : Nat), Jm17 to9a to9n to9c w94 →
 (Cl Tryz.prog 13 #[.slice la ln lc, .slice to9a to9n to9c] w94 fun v46 w95 => ∃ (x87a : Option Addr) (x87n x87c : Nat) (x88 x89 : Int), v46 = .tuple #[.slice x87a x87n x87c, .int .i64 x88, .int .i64 x89] ∧
 (cond (x89 != 0) (R (.tuple #[.slice none 0 0, .int .i64 0, .int .i64 x89]) w95) (∀ (b9 : Nat) (w96 : World), b9 = w95.heap.size → w96 = w95.alloc (.cells #[] 56) →
 (∃ (x90a : Option Addr) (x90n x90c : Nat) (w97 : World), Sem.run Tryz.prog (Builtin.append_ #[22, 22] 22 #[.slice (some (Addr.mk b9 0 none)) 0 0, .slice x87a x87n x87c]) w96 = .ok (.slice x90a x90n x90c) w97 ∧
 (∃ (Jm18 : Int → Int → World → Prop), (cond plus (Jm18 x88 n w97) (Jm18 n x88 w97)) ∧ ∀ (jk_18 : Nat → Value) (w98 : World), ∀ (less9 more9 : Int), Jm18 less9 more9 w98 →
 (∃ p34 : Addr, x90a = some p34 ∧ 0 ≤ (IntKind.i64.wrap (less9 - 1)) ∧ (IntKind.i64.wrap (less9 - 1)) < (x90n : Int) ∧
 (∃ (x91a : Option Addr) (x91n x91c : Nat), w98.cell? ((p34.add (((IntKind.i64.wrap (less9 - 1))).toNat * 4)).add 3) = some (.slice x91a x91n x91c) ∧
 (Cl Tryz.prog 59 #[.slice x91a x91n x91c, .agg #[.int .u64 id, .int .i64 more9]] w98 fun v47 w99 => ∃ (x92a : Option Addr) (x92n x92c : Nat), v47 = .slice x92a x92n x92c ∧
 (∃ p35 : Addr, x90a = some p35 ∧ 0 ≤ (IntKind.i64.wrap (less9 - 1)) ∧ (IntKind.i64.wrap (less9 - 1)) < (x90n : Int) ∧ ((w99.cell? ((p35.add (((IntKind.i64.wrap (less9 - 1))).toNat * 4)).add 3)).isSome = true ∧ w99.frozen? ((p35.add (((IntKind.i64.wrap (less9 - 1))).toNat * 4)).add 3) = false ∧
 (∀ w100 : World, w100 = w99.setCell ((p35.add (((IntKind.i64.wrap (less9 - 1))).toNat * 4)).add 3) (.slice x92a x92n x92c) →
 (∃ p36 : Addr, x90a = some p36 ∧ 0 ≤ (IntKind.i64.wrap (more9 - 1)) ∧ (IntKind.i64.wrap (more9 - 1)) < (x90n : Int) ∧
 (∃ (x93a : Option Addr) (x93n x93c : Nat), w100.cell? ((p36.add (((IntKind.i64.wrap (more9 - 1))).toNat * 4)).add 2) = some (.slice x93a x93n x93c) ∧
 (Cl Tryz.prog 59 #[.slice x93a x93n x93c, .agg #[.int .u64 id, .int .i64 less9]] w100 fun v48 w101 => ∃ (x94a : Option Addr) (x94n x94c : Nat), v48 = .slice x94a x94n x94c ∧
 (∃ p37 : Addr, x90a = some p37 ∧ 0 ≤ (IntKind.i64.wrap (more9 - 1)) ∧ (IntKind.i64.wrap (more9 - 1)) < (x90n : Int) ∧ ((w101.cell? ((p37.add (((IntKind.i64.wrap (more9 - 1))).toNat * 4)).add 2)).isSome = true ∧ w101.frozen? ((p37.add (((IntKind.i64.wrap (more9 - 1))).toNat * 4)).add 2) = false ∧
 (∀ w102 : World, w102 = w101.setCell ((p37.add (((IntKind.i64.wrap (more9 - 1))).toNat * 4)).add 2) (.slice x94a x94n x94c) → (R (.tuple #[.slice x90a x90n x90c, .int .i64 x88, .int .i64 0]) w102)))))))))))))))))))))
 (Cl Tryz.prog 57 #[.slice x2a x2n x2c, .int .u64 id] w2 fun v49 w103 => ∃ (x95a : Option Addr) (x95n x95c : Nat), v49 = .slice x95a x95n x95c ∧
 (∃ (Jm19 : Option Addr → Nat → Nat → World → Prop), (cond plus
 (Cl Tryz.prog 58 #[.slice x2a x2n x2c, .int .u64 id] w103 fun v50 w104 => ∃ (x96a : Option Addr) (x96n x96c : Nat), v50 = .slice x96a x96n x96c ∧ (Jm19 x96a x96n x96c w104)) (Jm19 x95a x95n x95c w103)) ∧ ∀ (jk_19 : Nat → Value) (w105 : World), ∀ (to10a : Option Addr) (to10n to10c : Nat), Jm19 to10a to10n to10c w105 →
 (Cl Tryz.prog 13 #[.slice la ln lc, .slice to10a to10n to10c] w105 fun v51 w106 => ∃ (x97a : Option Addr) (x97n x97c : Nat) (x98 x99 : Int), v51 = .tuple #[.slice x97a x97n x97c, .int .i64 x98, .int .i64 x99] ∧
 (cond (x99 != 0) (R (.tuple #[.slice none 0 0, .int .i64 0, .int .i64 x99]) w106) (∀ (b10 : Nat) (w107 : World), b10 = w106.heap.size → w107 = w106.alloc (.cells #[] 56) →
 (∃ (x100a : Option Addr) (x100n x100c : Nat) (w108 : World), Sem.run Tryz.prog (Builtin.append_ #[22, 22] 22 #[.slice (some (Addr.mk b10 0 none)) 0 0, .slice x97a x97n x97c]) w107 = .ok (.slice x100a x100n x100c) w108 ∧
 (∃ (Jm20 : Int → Int → World → Prop), (cond plus (Jm20 x98 n w108) (Jm20 n x98 w108)) ∧ ∀ (jk_20 : Nat → Value) (w109 : World), ∀ (less10 more10 : Int), Jm20 less10 more10 w109 →
 (∃ p38 : Addr, x100a = some p38 ∧ 0 ≤ (IntKind.i64.wrap (less10 - 1)) ∧ (IntKind.i64.wrap (less10 - 1)) < (x100n : Int) ∧
 (∃ (x101a : Option Addr) (x101n x101c : Nat), w109.cell? ((p38.add (((IntKind.i64.wrap (less10 - 1))).toNat * 4)).add 3) = some (.slice x101a x101n x101c) ∧
 (Cl Tryz.prog 59 #[.slice x101a x101n x101c, .agg #[.int .u64 id, .int .i64 more10]] w109 fun v52 w110 => ∃ (x102a : Option Addr) (x102n x102c : Nat), v52 = .slice x102a x102n x102c ∧
 (∃ p39 : Addr, x100a = some p39 ∧ 0 ≤ (IntKind.i64.wrap (less10 - 1)) ∧ (IntKind.i64.wrap (less10 - 1)) < (x100n : Int) ∧ ((w110.cell? ((p39.add (((IntKind.i64.wrap (less10 - 1))).toNat * 4)).add 3)).isSome = true ∧ w110.frozen? ((p39.add (((IntKind.i64.wrap (less10 - 1))).toNat * 4)).add 3) = false ∧
 (∀ w111 : World, w111 = w110.setCell ((p39.add (((IntKind.i64.wrap (less10 - 1))).toNat * 4)).add 3) (.slice x102a x102n x102c) →
 (∃ p40 : Addr, x100a = some p40 ∧ 0 ≤ (IntKind.i64.wrap (more10 - 1)) ∧ (IntKind.i64.wrap (more10 - 1)) < (x100n : Int) ∧
 (∃ (x103a : Option Addr) (x103n x103c : Nat), w111.cell? ((p40.add (((IntKind.i64.wrap (more10 - 1))).toNat * 4)).add 2) = some (.slice x103a x103n x103c) ∧
 (Cl Tryz.prog 59 #[.slice x103a x103n x103c, .agg #[.int .u64 id, .int .i64 less10]] w111 fun v53 w112 => ∃ (x104a : Option Addr) (x104n x104c : Nat), v53 = .slice x104a x104n x104c ∧
 (∃ p41 : Addr, x100a = some p41 ∧ 0 ≤ (IntKind.i64.wrap (more10 - 1)) ∧ (IntKind.i64.wrap (more10 - 1)) < (x100n : Int) ∧ ((w112.cell? ((p41.add (((IntKind.i64.wrap (more10 - 1))).toNat * 4)).add 2)).isSome = true ∧ w112.frozen? ((p41.add (((IntKind.i64.wrap (more10 - 1))).toNat * 4)).add 2) = false ∧
 (∀ w113 : World, w113 = w112.setCell ((p41.add (((IntKind.i64.wrap (more10 - 1))).toNat * 4)).add 2) (.slice x104a x104n x104c) → (R (.tuple #[.slice x100a x100n x100c, .int .i64 x98, .int .i64 0]) w113))))))))))))))))))))))
 (cond (!plus)
 (cond (!x3) (R (.tuple #[.slice none 0 0, .int .i64 0, .int .i64 4]) w2)
 (Cl Tryz.prog 57 #[.slice x2a x2n x2c, .int .u64 id] w2 fun v54 w114 => ∃ (x105a : Option Addr) (x105n x105c : Nat), v54 = .slice x105a x105n x105c ∧
 (∃ (Jm21 : Option Addr → Nat → Nat → World → Prop), (cond plus
 (Cl Tryz.prog 58 #[.slice x2a x2n x2c, .int .u64 id] w114 fun v55 w115 => ∃ (x106a : Option Addr) (x106n x106c : Nat), v55 = .slice x106a x106n x106c ∧ (Jm21 x106a x106n x106c w115)) (Jm21 x105a x105n x105c w114)) ∧ ∀ (jk_21 : Nat → Value) (w116 : World), ∀ (to11a : Option Addr) (to11n to11c : Nat), Jm21 to11a to11n to11c w116 →
 (Cl Tryz.prog 13 #[.slice la ln lc, .slice to11a to11n to11c] w116 fun v56 w117 => ∃ (x107a : Option Addr) (x107n x107c : Nat) (x108 x109 : Int), v56 = .tuple #[.slice x107a x107n x107c, .int .i64 x108, .int .i64 x109] ∧
 (cond (x109 != 0) (R (.tuple #[.slice none 0 0, .int .i64 0, .int .i64 x109]) w117) (∀ (b11 : Nat) (w118 : World), b11 = w117.heap.size → w118 = w117.alloc (.cells #[] 56) →
 (∃ (x110a : Option Addr) (x110n x110c : Nat) (w119 : World), Sem.run Tryz.prog (Builtin.append_ #[22, 22] 22 #[.slice (some (Addr.mk b11 0 none)) 0 0, .slice x107a x107n x107c]) w118 = .ok (.slice x110a x110n x110c) w119 ∧
 (∃ (Jm22 : Int → Int → World → Prop), (cond plus (Jm22 x108 n w119) (Jm22 n x108 w119)) ∧ ∀ (jk_22 : Nat → Value) (w120 : World), ∀ (less11 more11 : Int), Jm22 less11 more11 w120 →
 (∃ p42 : Addr, x110a = some p42 ∧ 0 ≤ (IntKind.i64.wrap (less11 - 1)) ∧ (IntKind.i64.wrap (less11 - 1)) < (x110n : Int) ∧
 (∃ (x111a : Option Addr) (x111n x111c : Nat), w120.cell? ((p42.add (((IntKind.i64.wrap (less11 - 1))).toNat * 4)).add 3) = some (.slice x111a x111n x111c) ∧
 (Cl Tryz.prog 59 #[.slice x111a x111n x111c, .agg #[.int .u64 id, .int .i64 more11]] w120 fun v57 w121 => ∃ (x112a : Option Addr) (x112n x112c : Nat), v57 = .slice x112a x112n x112c ∧
 (∃ p43 : Addr, x110a = some p43 ∧ 0 ≤ (IntKind.i64.wrap (less11 - 1)) ∧ (IntKind.i64.wrap (less11 - 1)) < (x110n : Int) ∧ ((w121.cell? ((p43.add (((IntKind.i64.wrap (less11 - 1))).toNat * 4)).add 3)).isSome = true ∧ w121.frozen? ((p43.add (((IntKind.i64.wrap (less11 - 1))).toNat * 4)).add 3) = false ∧
 (∀ w122 : World, w122 = w121.setCell ((p43.add (((IntKind.i64.wrap (less11 - 1))).toNat * 4)).add 3) (.slice x112a x112n x112c) →
 (∃ p44 : Addr, x110a = some p44 ∧ 0 ≤ (IntKind.i64.wrap (more11 - 1)) ∧ (IntKind.i64.wrap (more11 - 1)) < (x110n : Int) ∧
 (∃ (x113a : Option Addr) (x113n x113c : Nat), w122.cell? ((p44.add (((IntKind.i64.wrap (more11 - 1))).toNat * 4)).add 2) = some (.slice x113a x113n x113c) ∧
 (Cl Tryz.prog 59 #[.slice x113a x113n x113c, .agg #[.int .u64 id, .int .i64 less11]] w122 fun v58 w123 => ∃ (x114a : Option Addr) (x114n x114c : Nat), v58 = .slice x114a x114n x114c ∧
 (∃ p45 : Addr, x110a = some p45 ∧ 0 ≤ (IntKind.i64.wrap (more11 - 1)) ∧ (IntKind.i64.wrap (more11 - 1)) < (x110n : Int) ∧ ((w123.cell? ((p45.add (((IntKind.i64.wrap (more11 - 1))).toNat * 4)).add 2)).isSome = true ∧ w123.frozen? ((p45.add (((IntKind.i64.wrap (more11 - 1))).toNat * 4)).add 2) = false ∧
 (∀ w124 : World, w124 = w123.setCell ((p45.add (((IntKind.i64.wrap (more11 - 1))).toNat * 4)).add 2) (.slice x114a x114n x114c) → (R (.tuple #[.slice x110a x110n x110c, .int .i64 x108, .int .i64 0]) w124)))))))))))))))))))))
 (Cl Tryz.prog 57 #[.slice x2a x2n x2c, .int .u64 id] w2 fun v59 w125 => ∃ (x115a : Option Addr) (x115n x115c : Nat), v59 = .slice x115a x115n x115c ∧
 (∃ (Jm23 : Option Addr → Nat → Nat → World → Prop), (cond plus
 (Cl Tryz.prog 58 #[.slice x2a x2n x2c, .int .u64 id] w125 fun v60 w126 => ∃ (x116a : Option Addr) (x116n x116c : Nat), v60 = .slice x116a x116n x116c ∧ (Jm23 x116a x116n x116c w126)) (Jm23 x115a x115n x115c w125)) ∧ ∀ (jk_23 : Nat → Value) (w127 : World), ∀ (to12a : Option Addr) (to12n to12c : Nat), Jm23 to12a to12n to12c w127 →
 (Cl Tryz.prog 13 #[.slice la ln lc, .slice to12a to12n to12c] w127 fun v61 w128 => ∃ (x117a : Option Addr) (x117n x117c : Nat) (x118 x119 : Int), v61 = .tuple #[.slice x117a x117n x117c, .int .i64 x118, .int .i64 x119] ∧
 (cond (x119 != 0) (R (.tuple #[.slice none 0 0, .int .i64 0, .int .i64 x119]) w128) (∀ (b12 : Nat) (w129 : World), b12 = w128.heap.size → w129 = w128.alloc (.cells #[] 56) →
 (∃ (x120a : Option Addr) (x120n x120c : Nat) (w130 : World), Sem.run Tryz.prog (Builtin.append_ #[22, 22] 22 #[.slice (some (Addr.mk b12 0 none)) 0 0, .slice x117a x117n x117c]) w129 = .ok (.slice x120a x120n x120c) w130 ∧
 (∃ (Jm24 : Int → Int → World → Prop), (cond plus (Jm24 x118 n w130) (Jm24 n x118 w130)) ∧ ∀ (jk_24 : Nat → Value) (w131 : World), ∀ (less12 more12 : Int), Jm24 less12 more12 w131 →
 (∃ p46 : Addr, x120a = some p46 ∧ 0 ≤ (IntKind.i64.wrap (less12 - 1)) ∧ (IntKind.i64.wrap (less12 - 1)) < (x120n : Int) ∧
 (∃ (x121a : Option Addr) (x121n x121c : Nat), w131.cell? ((p46.add (((IntKind.i64.wrap (less12 - 1))).toNat * 4)).add 3) = some (.slice x121a x121n x121c) ∧
 (Cl Tryz.prog 59 #[.slice x121a x121n x121c, .agg #[.int .u64 id, .int .i64 more12]] w131 fun v62 w132 => ∃ (x122a : Option Addr) (x122n x122c : Nat), v62 = .slice x122a x122n x122c ∧
 (∃ p47 : Addr, x120a = some p47 ∧ 0 ≤ (IntKind.i64.wrap (less12 - 1)) ∧ (IntKind.i64.wrap (less12 - 1)) < (x120n : Int) ∧ ((w132.cell? ((p47.add (((IntKind.i64.wrap (less12 - 1))).toNat * 4)).add 3)).isSome = true ∧ w132.frozen? ((p47.add (((IntKind.i64.wrap (less12 - 1))).toNat * 4)).add 3) = false ∧
 (∀ w133 : World, w133 = w132.setCell ((p47.add (((IntKind.i64.wrap (less12 - 1))).toNat * 4)).add 3) (.slice x122a x122n x122c) →
 (∃ p48 : Addr, x120a = some p48 ∧ 0 ≤ (IntKind.i64.wrap (more12 - 1)) ∧ (IntKind.i64.wrap (more12 - 1)) < (x120n : Int) ∧
 (∃ (x123a : Option Addr) (x123n x123c : Nat), w133.cell? ((p48.add (((IntKind.i64.wrap (more12 - 1))).toNat * 4)).add 2) = some (.slice x123a x123n x123c) ∧
 (Cl Tryz.prog 59 #[.slice x123a x123n x123c, .agg #[.int .u64 id, .int .i64 less12]] w133 fun v63 w134 => ∃ (x124a : Option Addr) (x124n x124c : Nat), v63 = .slice x124a x124n x124c ∧
 (∃ p49 : Addr, x120a = some p49 ∧ 0 ≤ (IntKind.i64.wrap (more12 - 1)) ∧ (IntKind.i64.wrap (more12 - 1)) < (x120n : Int) ∧ ((w134.cell? ((p49.add (((IntKind.i64.wrap (more12 - 1))).toNat * 4)).add 2)).isSome = true ∧ w134.frozen? ((p49.add (((IntKind.i64.wrap (more12 - 1))).toNat * 4)).add 2) = false ∧
 (∀ w135 : World, w135 = w134.setCell ((p49.add (((IntKind.i64.wrap (more12 - 1))).toNat * 4)).add 2) (.slice x124a x124n x124c) → (R (.tuple #[.slice x120a x120n x120c, .int .i64 x118, .int .i64 0]) w135)))))))))))))))))))))))
 (cond plus (cond ((x2n : Int) == 12) (R (.tuple #[.slice none 0 0, .int .i64 0, .int .i64 6]) w2)
 (cond (!plus)
 (cond (!x3) (R (.tuple #[.slice none 0 0, .int .i64 0, .int .i64 4]) w2)
 (Cl Tryz.prog 57 #[.slice x2a x2n x2c, .int .u64 id] w2 fun v64 w136 => ∃ (x125a : Option Addr) (x125n x125c : Nat), v64 = .slice x125a x125n x125c ∧
 (∃ (Jm25 : Option Addr → Nat → Nat → World → Prop), (cond plus
 (Cl Tryz.prog 58 #[.slice x2a x2n x2c, .int .u64 id] w136 fun v65 w137 => ∃ (x126a : Option Addr) (x126n x126c : Nat), v65 = .slice x126a x126n x126c ∧ (Jm25 x126a x126n x126c w137)) (Jm25 x125a x125n x125c w136)) ∧ ∀ (jk_25 : Nat → Value) (w138 : World), ∀ (to13a : Option Addr) (to13n to13c : Nat), Jm25 to13a to13n to13c w138 →
 (Cl Tryz.prog 13 #[.slice la ln lc, .slice to13a to13n to13c] w138 fun v66 w139 => ∃ (x127a : Option Addr) (x127n x127c : Nat) (x128 x129 : Int), v66 = .tuple #[.slice x127a x127n x127c, .int .i64 x128, .int .i64 x129] ∧
 (cond (x129 != 0) (R (.tuple #[.slice none 0 0, .int .i64 0, .int .i64 x129]) w139) (∀ (b13 : Nat) (w140 : World), b13 = w139.heap.size → w140 = w139.alloc (.cells #[] 56) →
 (∃ (x130a : Option Addr) (x130n x130c : Nat) (w141 : World), Sem.run Tryz.prog (Builtin.append_ #[22, 22] 22 #[.slice (some (Addr.mk b13 0 none)) 0 0, .slice x127a x127n x127c]) w140 = .ok (.slice x130a x130n x130c) w141 ∧
 (∃ (Jm26 : Int → Int → World → Prop), (cond plus (Jm26 x128 n w141) (Jm26 n x128 w141)) ∧ ∀ (jk_26 : Nat → Value) (w142 : World), ∀ (less13 more13 : Int), Jm26 less13 more13 w142 →
 (∃ p50 : Addr, x130a = some p50 ∧ 0 ≤ (IntKind.i64.wrap (less13 - 1)) ∧ (IntKind.i64.wrap (less13 - 1)) < (x130n : Int) ∧
 (∃ (x131a : Option Addr) (x131n x131c : Nat), w142.cell? ((p50.add (((IntKind.i64.wrap (less13 - 1))).toNat * 4)).add 3) = some (.slice x131a x131n x131c) ∧
 (Cl Tryz.prog 59 #[.slice x131a x131n x131c, .agg #[.int .u64 id, .int .i64 more13]] w142 fun v67 w143 => ∃ (x132a : Option Addr) (x132n x132c : Nat), v67 = .slice x132a x132n x132c ∧
 (∃ p51 : Addr, x130a = some p51 ∧ 0 ≤ (IntKind.i64.wrap (less13 - 1)) ∧ (IntKind.i64.wrap (less13 - 1)) < (x130n : Int) ∧ ((w143.cell? ((p51.add (((IntKind.i64.wrap (less13 - 1))).toNat * 4)).add 3)).isSome = true ∧ w143.frozen? ((p51.add (((IntKind.i64.wrap (less13 - 1))).toNat * 4)).add 3) = false ∧
 (∀ w144 : World, w144 = w143.setCell ((p51.add (((IntKind.i64.wrap (less13 - 1))).toNat * 4)).add 3) (.slice x132a x132n x132c) →
 (∃ p52 : Addr, x130a = some p52 ∧ 0 ≤ (IntKind.i64.wrap (more13 - 1)) ∧ (IntKind.i64.wrap (more13 - 1)) < (x130n : Int) ∧
 (∃ (x133a : Option Addr) (x133n x133c : Nat), w144.cell? ((p52.add (((IntKind.i64.wrap (more13 - 1))).toNat * 4)).add 2) = some (.slice x133a x133n x133c) ∧
 (Cl Tryz.prog 59 #[.slice x133a x133n x133c, .agg #[.int .u64 id, .int .i64 less13]] w144 fun v68 w145 => ∃ (x134a : Option Addr) (x134n x134c : Nat), v68 = .slice x134a x134n x134c ∧
 (∃ p53 : Addr, x130a = some p53 ∧ 0 ≤ (IntKind.i64.wrap (more13 - 1)) ∧ (IntKind.i64.wrap (more13 - 1)) < (x130n : Int) ∧ ((w145.cell? ((p53.add (((IntKind.i64.wrap (more13 - 1))).toNat * 4)).add 2)).isSome = true ∧ w145.frozen? ((p53.add (((IntKind.i64.wrap (more13 - 1))).toNat * 4)).add 2) = false ∧
 (∀ w146 : World, w146 = w145.setCell ((p53.add (((IntKind.i64.wrap (more13 - 1))).toNat * 4)).add 2) (.slice x134a x134n x134c) → (R (.tuple #[.slice x130a x130n x130c, .int .i64 x128, .int .i64 0]) w146)))))))))))))))))))))
 (Cl Tryz.prog 57 #[.slice x2a x2n x2c, .int .u64 id] w2 fun v69 w147 => ∃ (x135a : Option Addr) (x135n x135c : Nat), v69 = .slice x135a x135n x135c ∧
 (∃ (Jm27 : Option Addr → Nat → Nat → World → Prop), (cond plus
 (Cl Tryz.prog 58 #[.slice x2a x2n x2c, .int .u64 id] w147 fun v70 w148 => ∃ (x136a : Option Addr) (x136n x136c : Nat), v70 = .slice x136a x136n x136c ∧ (Jm27 x136a x136n x136c w148)) (Jm27 x135a x135n x135c w147)) ∧ ∀ (jk_27 : Nat → Value) (w149 : World), ∀ (to14a : Option Addr) (to14n to14c : Nat), Jm27 to14a to14n to14c w149 →
 (Cl Tryz.prog 13 #[.slice la ln lc, .slice to14a to14n to14c] w149 fun v71 w150 => ∃ (x137a : Option Addr) (x137n x137c : Nat) (x138 x139 : Int), v71 = .tuple #[.slice x137a x137n x137c, .int .i64 x138, .int .i64 x139] ∧
 (cond (x139 != 0) (R (.tuple #[.slice none 0 0, .int .i64 0, .int .i64 x139]) w150) (∀ (b14 : Nat) (w151 : World), b14 = w150.heap.size → w151 = w150.alloc (.cells #[] 56) →
 (∃ (x140a : Option Addr) (x140n x140c : Nat) (w152 : World), Sem.run Tryz.prog (Builtin.append_ #[22, 22] 22 #[.slice (some (Addr.mk b14 0 none)) 0 0, .slice x137a x137n x137c]) w151 = .ok (.slice x140a x140n x140c) w152 ∧
 (∃ (Jm28 : Int → Int → World → Prop), (cond plus (Jm28 x138 n w152) (Jm28 n x138 w152)) ∧ ∀ (jk_28 : Nat → Value) (w153 : World), ∀ (less14 more14 : Int), Jm28 less14 more14 w153 →
 (∃ p54 : Addr, x140a = some p54 ∧ 0 ≤ (IntKind.i64.wrap (less14 - 1)) ∧ (IntKind.i64.wrap (less14 - 1)) < (x140n : Int) ∧
 (∃ (x141a : Option Addr) (x141n x141c : Nat), w153.cell? ((p54.add (((IntKind.i64.wrap (less14 - 1))).toNat * 4)).add 3) = some (.slice x141a x141n x141c) ∧
 (Cl Tryz.prog 59 #[.slice x141a x141n x141c, .agg #[.int .u64 id, .int .i64 more14]] w153 fun v72 w154 => ∃ (x142a : Option Addr) (x142n x142c : Nat), v72 = .slice x142a x142n x142c ∧
 (∃ p55 : Addr, x140a = some p55 ∧ 0 ≤ (IntKind.i64.wrap (less14 - 1)) ∧ (IntKind.i64.wrap (less14 - 1)) < (x140n : Int) ∧ ((w154.cell? ((p55.add (((IntKind.i64.wrap (less14 - 1))).toNat * 4)).add 3)).isSome = true ∧ w154.frozen? ((p55.add (((IntKind.i64.wrap (less14 - 1))).toNat * 4)).add 3) = false ∧
 (∀ w155 : World, w155 = w154.setCell ((p55.add (((IntKind.i64.wrap (less14 - 1))).toNat * 4)).add 3) (.slice x142a x142n x142c) →
 (∃ p56 : Addr, x140a = some p56 ∧ 0 ≤ (IntKind.i64.wrap (more14 - 1)) ∧ (IntKind.i64.wrap (more14 - 1)) < (x140n : Int) ∧
 (∃ (x143a : Option Addr) (x143n x143c : Nat), w155.cell? ((p56.add (((IntKind.i64.wrap (more14 - 1))).toNat * 4)).add 2) = some (.slice x143a x143n x143c) ∧
 (Cl Tryz.prog 59 #[.slice x143a x143n x143c, .agg #[.int .u64 id, .int .i64 less14]] w155 fun v73 w156 => ∃ (x144a : Option Addr) (x144n x144c : Nat), v73 = .slice x144a x144n x144c ∧
 (∃ p57 : Addr, x140a = some p57 ∧ 0 ≤ (IntKind.i64.wrap (more14 - 1)) ∧ (IntKind.i64.wrap (more14 - 1)) < (x140n : Int) ∧ ((w156.cell? ((p57.add (((IntKind.i64.wrap (more14 - 1))).toNat * 4)).add 2)).isSome = true ∧ w156.frozen? ((p57.add (((IntKind.i64.wrap (more14 - 1))).toNat * 4)).add 2) = false ∧
 (∀ w157 : World, w157 = w156.setCell ((p57.add (((IntKind.i64.wrap (more14 - 1))).toNat * 4)).add 2) (.slice x144a x144n x144c) → (R (.tuple #[.slice x140a x140n x140c, .int .i64 x138, .int .i64 0]) w157))))))))))))))))))))))
 (cond (!plus)
 (cond (!x3) (R (.tuple #[.slice none 0 0, .int .i64 0, .int .i64 4]) w2)
 (Cl Tryz.prog 57 #[.slice x2a x2n x2c, .int .u64 id] w2 fun v74 w158 => ∃ (x145a : Option Addr) (x145n x145c : Nat), v74 = .slice x145a x145n x145c ∧
 (∃ (Jm29 : Option Addr → Nat → Nat → World → Prop), (cond plus
 (Cl Tryz.prog 58 #[.slice x2a x2n x2c, .int .u64 id] w158 fun v75 w159 => ∃ (x146a : Option Addr) (x146n x146c : Nat), v75 = .slice x146a x146n x146c ∧ (Jm29 x146a x146n x146c w159)) (Jm29 x145a x145n x145c w158)) ∧ ∀ (jk_29 : Nat → Value) (w160 : World), ∀ (to15a : Option Addr) (to15n to15c : Nat), Jm29 to15a to15n to15c w160 →
 (Cl Tryz.prog 13 #[.slice la ln lc, .slice to15a to15n to15c] w160 fun v76 w161 => ∃ (x147a : Option Addr) (x147n x147c : Nat) (x148 x149 : Int), v76 = .tuple #[.slice x147a x147n x147c, .int .i64 x148, .int .i64 x149] ∧
 (cond (x149 != 0) (R (.tuple #[.slice none 0 0, .int .i64 0, .int .i64 x149]) w161) (∀ (b15 : Nat) (w162 : World), b15 = w161.heap.size → w162 = w161.alloc (.cells #[] 56) →
 (∃ (x150a : Option Addr) (x150n x150c : Nat) (w163 : World), Sem.run Tryz.prog (Builtin.append_ #[22, 22] 22 #[.slice (some (Addr.mk b15 0 none)) 0 0, .slice x147a x147n x147c]) w162 = .ok (.slice x150a x150n x150c) w163 ∧
 (∃ (Jm30 : Int → Int → World → Prop), (cond plus (Jm30 x148 n w163) (Jm30 n x148 w163)) ∧ ∀ (jk_30 : Nat → Value) (w164 : World), ∀ (less15 more15 : Int), Jm30 less15 more15 w164 →
 (∃ p58 : Addr, x150a = some p58 ∧ 0 ≤ (IntKind.i64.wrap (less15 - 1)) ∧ (IntKind.i64.wrap (less15 - 1)) < (x150n : Int) ∧
 (∃ (x151a : Option Addr) (x151n x151c : Nat), w164.cell? ((p58.add (((IntKind.i64.wrap (less15 - 1))).toNat * 4)).add 3) = some (.slice x151a x151n x151c) ∧
 (Cl Tryz.prog 59 #[.slice x151a x151n x151c, .agg #[.int .u64 id, .int .i64 more15]] w164 fun v77 w165 => ∃ (x152a : Option Addr) (x152n x152c : Nat), v77 = .slice x152a x152n x152c ∧
 (∃ p59 : Addr, x150a = some p59 ∧ 0 ≤ (IntKind.i64.wrap (less15 - 1)) ∧ (IntKind.i64.wrap (less15 - 1)) < (x150n : Int) ∧ ((w165.cell? ((p59.add (((IntKind.i64.wrap (less15 - 1))).toNat * 4)).add 3)).isSome = true ∧ w165.frozen? ((p59.add (((IntKind.i64.wrap (less15 - 1))).toNat * 4)).add 3) = false ∧
 (∀ w166 : World, w166 = w165.setCell ((p59.add (((IntKind.i64.wrap (less15 - 1))).toNat * 4)).add 3) (.slice x152a x152n x152c) →
 (∃ p60 : Addr, x150a = some p60 ∧ 0 ≤ (IntKind.i64.wrap (more15 - 1)) ∧ (IntKind.i64.wrap (more15 - 1)) < (x150n : Int) ∧
 (∃ (x153a : Option Addr) (x153n x153c : Nat), w166.cell? ((p60.add (((IntKind.i64.wrap (more15 - 1))).toNat * 4)).add 2) = some (.slice x153a x153n x153c) ∧
 (Cl Tryz.prog 59 #[.slice x153a x153n x153c, .agg #[.int .u64 id, .int .i64 less15]] w166 fun v78 w167 => ∃ (x154a : Option Addr) (x154n x154c : Nat), v78 = .slice x154a x154n x154c ∧
 (∃ p61 : Addr, x150a = some p61 ∧ 0 ≤ (IntKind.i64.wrap (more15 - 1)) ∧ (IntKind.i64.wrap (more15 - 1)) < (x150n : Int) ∧ ((w167.cell? ((p61.add (((IntKind.i64.wrap (more15 - 1))).toNat * 4)).add 2)).isSome = true ∧ w167.frozen? ((p61.add (((IntKind.i64.wrap (more15 - 1))).toNat * 4)).add 2) = false ∧
 (∀ w168 : World, w168 = w167.setCell ((p61.add (((IntKind.i64.wrap (more15 - 1))).toNat * 4)).add 2) (.slice x154a x154n x154c) → (R (.tuple #[.slice x150a x150n x150c, .int .i64 x148, .int .i64 0]) w168)))))))))))))))))))))
 (Cl Tryz.prog 57 #[.slice x2a x2n x2c, .int .u64 id] w2 fun v79 w169 => ∃ (x155a : Option Addr) (x155n x155c : Nat), v79 = .slice x155a x155n x155c ∧
 (∃ (Jm31 : Option Addr → Nat → Nat → World → Prop), (cond plus
 (Cl Tryz.prog 58 #[.slice x2a x2n x2c, .int .u64 id] w169 fun v80 w170 => ∃ (x156a : Option Addr) (x156n x156c : Nat), v80 = .slice x156a x156n x156c ∧ (Jm31 x156a x156n x156c w170)) (Jm31 x155a x155n x155c w169)) ∧ ∀ (jk_31 : Nat → Value) (w171 : World), ∀ (to16a : Option Addr) (to16n to16c : Nat), Jm31 to16a to16n to16c w171 →
 (Cl Tryz.prog 13 #[.slice la ln lc, .slice to16a to16n to16c] w171 fun v81 w172 => ∃ (x157a : Option Addr) (x157n x157c : Nat) (x158 x159 : Int), v81 = .tuple #[.slice x157a x157n x157c, .int .i64 x158, .int .i64 x159] ∧
 (cond (x159 != 0) (R (.tuple #[.slice none 0 0, .int .i64 0, .int .i64 x159]) w172) (∀ (b16 : Nat) (w173 : World), b16 = w172.heap.size → w173 = w172.alloc (.cells #[] 56) →
 (∃ (x160a : Option Addr) (x160n x160c : Nat) (w174 : World), Sem.run Tryz.prog (Builtin.append_ #[22, 22] 22 #[.slice (some (Addr.mk b16 0 none)) 0 0, .slice x157a x157n x157c]) w173 = .ok (.slice x160a x160n x160c) w174 ∧
 (∃ (Jm32 : Int → Int → World → Prop), (cond plus (Jm32 x158 n w174) (Jm32 n x158 w174)) ∧ ∀ (jk_32 : Nat → Value) (w175 : World), ∀ (less16 more16 : Int), Jm32 less16 more16 w175 →
 (∃ p62 : Addr, x160a = some p62 ∧ 0 ≤ (IntKind.i64.wrap (less16 - 1)) ∧ (IntKind.i64.wrap (less16 - 1)) < (x160n : Int) ∧
 (∃ (x161a : Option Addr) (x161n x161c : Nat), w175.cell? ((p62.add (((IntKind.i64.wrap (less16 - 1))).toNat * 4)).add 3) = some (.slice x161a x161n x161c) ∧
 (Cl Tryz.prog 59 #[.slice x161a x161n x161c, .agg #[.int .u64 id, .int .i64 more16]] w175 fun v82 w176 => ∃ (x162a : Option Addr) (x162n x162c : Nat), v82 = .slice x162a x162n x162c ∧
 (∃ p63 : Addr, x160a = some p63 ∧ 0 ≤ (IntKind.i64.wrap (less16 - 1)) ∧ (IntKind.i64.wrap (less16 - 1)) < (x160n : Int) ∧ ((w176.cell? ((p63.add (((IntKind.i64.wrap (less16 - 1))).toNat * 4)).add 3)).isSome = true ∧ w176.frozen? ((p63.add (((IntKind.i64.wrap (less16 - 1))).toNat * 4)).add 3) = false ∧
 (∀ w177 : World, w177 = w176.setCell ((p63.add (((IntKind.i64.wrap (less16 - 1))).toNat * 4)).add 3) (.slice x162a x162n x162c) →
 (∃ p64 : Addr, x160a = some p64 ∧ 0 ≤ (IntKind.i64.wrap (more16 - 1)) ∧ (IntKind.i64.wrap (more16 - 1)) < (x160n : Int) ∧
 (∃ (x163a : Option Addr) (x163n x163c : Nat), w177.cell? ((p64.add (((IntKind.i64.wrap (more16 - 1))).toNat * 4)).add 2) = some (.slice x163a x163n x163c) ∧
 (Cl Tryz.prog 59 #[.slice x163a x163n x163c, .agg #[.int .u64 id, .int .i64 less16]] w177 fun v83 w178 => ∃ (x164a : Option Addr) (x164n x164c : Nat), v83 = .slice x164a x164n x164c ∧
 (∃ p65 : Addr, x160a = some p65 ∧ 0 ≤ (IntKind.i64.wrap (more16 - 1)) ∧ (IntKind.i64.wrap (more16 - 1)) < (x160n : Int) ∧ ((w178.cell? ((p65.add (((IntKind.i64.wrap (more16 - 1))).toNat * 4)).add 2)).isSome = true ∧ w178.frozen? ((p65.add (((IntKind.i64.wrap (more16 - 1))).toNat * 4)).add 2) = false ∧
 (∀ w179 : World, w179 = w178.setCell ((p65.add (((IntKind.i64.wrap (more16 - 1))).toNat * 4)).add 2) (.slice x164a x164n x164c) → (R (.tuple #[.slice x160a x160n x160c, .int .i64 x158, .int .i64 0]) w179))))))))))))))))))))))))))))
theorem c16 (la : Option Addr) (ln lc : Nat) (n id : Int) (plus : Bool) {w : World} {R : Value → World → Prop} (hV : V16 la ln lc n id plus w R) : Cl Tryz.prog 16 #[.slice la ln lc, .int .i64 n, .int .u64 id, .bool plus] w R :=
 fn_sound hmTryz (TT := []) (f := 16) Tryz.func16 (ent_of Tryz.func16 (by kernel_rfl) rfl) (Eq.mpr (by kernel_rfl) hV)
end Go.Eng
namespace Go.Eng
open Go Go.Proofs
set_option maxRecDepth 100000
set_option maxHeartbeats 4000000
/-- windrose/graph.Drop -/
def V17 (ga : Option Addr) (gn gc : Nat) (g2a : Option Addr) (g2n g2c : Nat) (n : Int) (w : World) (R : Value → World → Prop) : Prop :=
 ∀ (b : Nat) (w1 : World), b = w.heap.size → w1 = w.alloc (.cells #[.slice ga gn gc, .slice g2a g2n g2c] 27) →
 (∀ (b2 : Nat) (w2 : World), b2 = w1.heap.size → w2 = w1.alloc (.cells #[.int .i64 n] 3) →
 (∀ (b3 : Nat) (w3 : World), b3 = w2.heap.size → w3 = w2.alloc (.cells #[.slice none 0 0, .slice none 0 0] 27) →
 (∃ (x1a : Option Addr) (x1n x1c : Nat) (x2a : Option Addr) (x2n x2c : Nat), w3.cell? (Addr.mk b 0 none) = some (.slice x1a x1n x1c) ∧ w3.cell? ((Addr.mk b 0 none).add 1) = some (.slice x2a x2n x2c) ∧
 (Cl Tryz.prog 26 #[.agg #[.slice x1a x1n x1c, .slice x2a x2n x2c]] w3 fun v w4 => ∃ (x3 : Int), v = .int .i64 x3 ∧
 (cond (x3 != 0) ((w4.cell? (Addr.mk b3 0 none)).isSome = true ∧ w4.frozen? (Addr.mk b3 0 none) = false ∧ ((w4.cell? ((Addr.mk b3 0 none).add 1)).isSome = true ∧ w4.frozen? ((Addr.mk b3 0 none).add 1) = false ∧
 (∀ w5 : World, w5 = (w4.setCell (Addr.mk b3 0 none) (.slice none 0 0)).setCell ((Addr.mk b3 0 none).add 1) (.slice none 0 0) →
 (∃ (ra : Option Addr) (rn rc : Nat) (r2a : Option Addr) (r2n r2c : Nat), w5.cell? (Addr.mk b3 0 none) = some (.slice ra rn rc) ∧ w5.cell? ((Addr.mk b3 0 none).add 1) = some (.slice r2a r2n r2c) ∧ (R (.tuple #[.agg #[.slice ra rn rc, .slice r2a r2n r2c], .int .i64 x3]) w5))))) (∃ (x4a : Option Addr) (x4n x4c : Nat) (x5a : Option Addr) (x5n x5c : Nat), w4.cell? (Addr.mk b 0 none) = some (.slice x4a x4n x4c) ∧ w4.cell? ((Addr.mk b 0 none).add 1) = some (.slice x5a x5n x5c) ∧
 (∃ (x6 : Int), w4.cell? (Addr.mk b2 0 none) = some (.int .i64 x6) ∧
 (Cl Tryz.prog 60 #[.agg #[.slice x4a x4n x4c, .slice x5a x5n x5c], .int .i64 x6] w4 fun v2 w6 => ∃ (x7 : Bool), v2 = .bool x7 ∧
 (cond (!x7) ((w6.cell? (Addr.mk b3 0 none)).isSome = true ∧ w6.frozen? (Addr.mk b3 0 none) = false ∧ ((w6.cell? ((Addr.mk b3 0 none).add 1)).isSome = true ∧ w6.frozen? ((Addr.mk b3 0 none).add 1) = false ∧
 (∀ w7 : World, w7 = (w6.setCell (Addr.mk b3 0 none) (.slice none 0 0)).setCell ((Addr.mk b3 0 none).add 1) (.slice none 0 0) →
 (∃ (r3a : Option Addr) (r3n r3c : Nat) (r4a : Option Addr) (r4n r4c : Nat), w7.cell? (Addr.mk b3 0 none) = some (.slice r3a r3n r3c) ∧ w7.cell? ((Addr.mk b3 0 none).add 1) = some (.slice r4a r4n r4c) ∧ (R (.tuple #[.agg #[.slice r3a r3n r3c, .slice r4a r4n r4c], .int .i64 2]) w7))))) (∃ (x8 : Int), w6.cell? (Addr.mk b2 0 none) = some (.int .i64 x8) ∧
 (cond (x8 == 1) ((w6.cell? (Addr.mk b3 0 none)).isSome = true ∧ w6.frozen? (Addr.mk b3 0 none) = false ∧ ((w6.cell? ((Addr.mk b3 0 none).add 1)).isSome = true ∧ w6.frozen? ((Addr.mk b3 0 none).add 1) = false ∧
 (∀ w8 : World, w8 = (w6.setCell (Addr.mk b3 0 none) (.slice none 0 0)).setCell ((Addr.mk b3 0 none).add 1) (.slice none 0 0) →
 (∃ (r5a : Option Addr) (r5n r5c : Nat) (r6a : Option Addr) (r6n r6c : Nat), w8.cell? (Addr.mk b3 0 none) = some (.slice r5a r5n r5c) ∧ w8.cell? ((Addr.mk b3 0 none).add 1) = some (.slice r6a r6n r6c) ∧ (R (.tuple #[.agg #[.slice r5a r5n r5c, .slice r6a r6n r6c], .int .i64 2]) w8))))) (∀ w9 : World, w9 = w6.drew →
 (∃ (x9a : Option Addr) (x9n x9c : Nat), w9.cell? ((Addr.mk b 0 none).add 1) = some (.slice x9a x9n x9c) ∧
 (∃ (x10a : Option Addr) (x10n x10c : Nat), w9.cell? (Addr.mk b 0 none) = some (.slice x10a x10n x10c) ∧
 (∃ (x11 : Int), w9.cell? (Addr.mk b2 0 none) = some (.int .i64 x11) ∧
 (∃ p : Addr, x10a = some p ∧ 0 ≤ (IntKind.i64.wrap (x11 - 1)) ∧ (IntKind.i64.wrap (x11 - 1)) < (x10n : Int) ∧
 (∃ (x12a : Option Addr) (x12n x12c : Nat), w9.cell? ((p.add (((IntKind.i64.wrap (x11 - 1))).toNat * 4)).add 1) = some (.slice x12a x12n x12c) ∧
 (Cl Tryz.prog 61 #[.agg #[.slice x9a x9n x9c], .slice x12a x12n x12c] w9 fun v3 w10 => ∃ (x13a : Option Addr) (x13n x13c : Nat) (x14 : Int), v3 = .tuple #[.agg #[.slice x13a x13n x13c], .int .i64 x14] ∧
 (∀ (b4 : Nat) (w11 : World), b4 = w10.heap.size → w11 = w10.alloc (.cells #[.slice none 0 0] 25) → (w11.cell? ((p.add (((IntKind.i64.wrap (x11 - 1))).toNat * 4)).add 1) = some (.slice x12a x12n x12c) ∧ w11.cell? (Addr.mk b2 0 none) = some (.int .i64 x11) ∧ w11.cell? (Addr.mk b 0 none) = some (.slice x10a x10n x10c) ∧ w11.cell? ((Addr.mk b 0 none).add 1) = some (.slice x9a x9n x9c) ∧ ((w11.cell? (Addr.mk b4 0 none)).isSome = true ∧ w11.frozen? (Addr.mk b4 0 none) = false ∧
 (∀ w12 : World, w12 = w11.setCell (Addr.mk b4 0 none) (.slice x13a x13n x13c) →
 (cond (x14 != 0) ((w12.cell? (Addr.mk b3 0 none)).isSome = true ∧ w12.frozen? (Addr.mk b3 0 none) = false ∧ ((w12.cell? ((Addr.mk b3 0 none).add 1)).isSome = true ∧ w12.frozen? ((Addr.mk b3 0 none).add 1) = false ∧
 (∀ w13 : World, w13 = (w12.setCell (Addr.mk b3 0 none) (.slice none 0 0)).setCell ((Addr.mk b3 0 none).add 1) (.slice none 0 0) →
 (∃ (r7a : Option Addr) (r7n r7c : Nat) (r8a : Option Addr) (r8n r8c : Nat), w13.cell? (Addr.mk b3 0 none) = some (.slice r7a r7n r7c) ∧ w13.cell? ((Addr.mk b3 0 none).add 1) = some (.slice r8a r8n r8c) ∧ (R (.tuple #[.agg #[.slice r7a r7n r7c, .slice r8a r8n r8c], .int .i64 x14]) w13))))) (∃ (x15a : Option Addr) (x15n x15c : Nat), w12.cell? (Addr.mk b4 0 none) = some (.slice x15a x15n x15c) ∧ ((w12.cell? ((Addr.mk b 0 none).add 1)).isSome = true ∧ w12.frozen? ((Addr.mk b 0 none).add 1) = false ∧
 (∀ w14 : World, w14 = w12.setCell ((Addr.mk b 0 none).add 1) (.slice x15a x15n x15c) →
 (∃ (x16a : Option Addr) (x16n x16c : Nat) (x17a : Option Addr) (x17n x17c : Nat), w14.cell? (Addr.mk b 0 none) = some (.slice x16a x16n x16c) ∧ w14.cell? ((Addr.mk b 0 none).add 1) = some (.slice x17a x17n x17c) ∧
 (Cl Tryz.prog 62 #[.agg #[.slice x16a x16n x16c, .slice x17a x17n x17c]] w14 fun v4 w15 => ∃ (x18a : Option Addr) (x18n x18c : Nat) (x19a : Option Addr) (x19n x19c : Nat), v4 = .agg #[.slice x18a x18n x18c, .slice x19a x19n x19c] ∧ ((w15.cell? (Addr.mk b 0 none)).isSome = true ∧ w15.frozen? (Addr.mk b 0 none) = false ∧ ((w15.cell? ((Addr.mk b 0 none).add 1)).isSome = true ∧ w15.frozen? ((Addr.mk b 0 none).add 1) = false ∧
 (∀ w16 : World, w16 = (w15.setCell (Addr.mk b 0 none) (.slice x18a x18n x18c)).setCell ((Addr.mk b 0 none).add 1) (.slice x19a x19n x19c) →
 (∃ (x20a : Option Addr) (x20n x20c : Nat), w16.cell? (Addr.mk b 0 none) = some (.slice x20a x20n x20c) ∧
 (∃ (x21 : Int), w16.cell? (Addr.mk b2 0 none) = some (.int .i64 x21) ∧
 (∃ p2 : Addr, x20a = some p2 ∧ 0 ≤ (IntKind.i64.wrap (x21 - 1)) ∧ (IntKind.i64.wrap (x21 - 1)) < (x20n : Int) ∧ ((w16.cell? (p2.add (((IntKind.i64.wrap (x21 - 1))).toNat * 4))).isSome = true ∧ w16.frozen? (p2.add (((IntKind.i64.wrap (x21 - 1))).toNat * 4)) = false ∧ ((w16.cell? ((p2.add (((IntKind.i64.wrap (x21 - 1))).toNat * 4)).add 1)).isSome = true ∧ w16.frozen? ((p2.add (((IntKind.i64.wrap (x21 - 1))).toNat * 4)).add 1) = false ∧ ((w16.cell? ((p2.add (((IntKind.i64.wrap (x21 - 1))).toNat * 4)).add 2)).isSome = true ∧ w16.frozen? ((p2.add (((IntKind.i64.wrap (x21 - 1))).toNat * 4)).add 2) = false ∧ ((w16.cell? ((p2.add (((IntKind.i64.wrap (x21 - 1))).toNat * 4)).add 3)).isSome = true ∧ w16.frozen? ((p2.add (((IntKind.i64.wrap (x21 - 1))).toNat * 4)).add 3) = false ∧
 (∀ w17 : World, w17 = (((w16.setCell (p2.add (((IntKind.i64.wrap (x21 - 1))).toNat * 4)) (.bool false)).setCell ((p2.add (((IntKind.i64.wrap (x21 - 1))).toNat * 4)).add 1) (.slice none 0 0)).setCell ((p2.add (((IntKind.i64.wrap (x21 - 1))).toNat * 4)).add 2) (.slice none 0 0)).setCell ((p2.add (((IntKind.i64.wrap (x21 - 1))).toNat * 4)).add 3) (.slice none 0 0) →
 (∃ (x22a : Option Addr) (x22n x22c : Nat), w17.cell? (Addr.mk b 0 none) = some (.slice x22a x22n x22c) ∧
 (∃ (Jv : Int → World → Prop) (mu : Int → World → Nat), Jv 0 w17 ∧ ∀ (jk_ : Nat → Value) (w18 : World), ∀ (s58 : Int), Jv s58 w18 →
 (cond (decide (s58 < (x22n : Int))) (∀ w19 : World, w19 = w18.drew →
 (∃ (x23a : Option Addr) (x23n x23c : Nat), w19.cell? (Addr.mk b 0 none) = some (.slice x23a x23n x23c) ∧
 (∃ (x24a : Option Addr) (x24n x24c : Nat), w19.cell? (Addr.mk b 0 none) = some (.slice x24a x24n x24c) ∧
 (∃ (x25a : Option Addr) (x25n x25c : Nat), w19.cell? (Addr.mk b 0 none) = some (.slice x25a x25n x25c) ∧
 (∃ p3 : Addr, x25a = some p3 ∧ 0 ≤ s58 ∧ s58 < (x25n : Int) ∧
 (∃ (x26a : Option Addr) (x26n x26c : Nat), w19.cell? ((p3.add ((s58).toNat * 4)).add 2) = some (.slice x26a x26n x26c) ∧
 (∃ (x27a : Option Addr) (x27n x27c : Nat), w19.cell? (Addr.mk b 0 none) = some (.slice x27a x27n x27c) ∧
 (∃ p4 : Addr, x27a = some p4 ∧ 0 ≤ s58 ∧ s58 < (x27n : Int) ∧
 (∃ (x28a : Option Addr) (x28n x28c : Nat), w19.cell? ((p4.add ((s58).toNat * 4)).add 3) = some (.slice x28a x28n x28c) ∧
 (Cl Tryz.prog 64 #[.slice x26a x26n x26c, .func (.func 63) #[] #[.pointer (some (Addr.mk b2 0 none))]] w19 fun v5 w20 => ∃ (x29a : Option Addr) (x29n x29c : Nat), v5 = .slice x29a x29n x29c ∧ (w20.cell? ((p4.add ((s58).toNat * 4)).add 3) = some (.slice x28a x28n x28c) ∧ w20.cell? (Addr.mk b 0 none) = some (.slice x27a x27n x27c) ∧ w20.cell? (Addr.mk b 0 none) = some (.slice x24a x24n x24c) ∧ w20.cell? (Addr.mk b 0 none) = some (.slice x23a x23n x23c) ∧
 (Cl Tryz.prog 64 #[.slice x28a x28n x28c, .func (.func 63) #[] #[.pointer (some (Addr.mk b2 0 none))]] w20 fun v6 w21 => ∃ (x30a : Option Addr) (x30n x30c : Nat), v6 = .slice x30a x30n x30c ∧ (w21.cell? (Addr.mk b 0 none) = some (.slice x24a x24n x24c) ∧ w21.cell? (Addr.mk b 0 none) = some (.slice x23a x23n x23c) ∧
 (∃ p5 : Addr, x23a = some p5 ∧ 0 ≤ s58 ∧ s58 < (x23n : Int) ∧ ((w21.cell? ((p5.add ((s58).toNat * 4)).add 2)).isSome = true ∧ w21.frozen? ((p5.add ((s58).toNat * 4)).add 2) = false ∧
 (∀ w22 : World, w22 = w21.setCell ((p5.add ((s58).toNat * 4)).add 2) (.slice x29a x29n x29c) → (w22.cell? (Addr.mk b 0 none) = some (.slice x24a x24n x24c) ∧
 (∃ p6 : Addr, x24a = some p6 ∧ 0 ≤ s58 ∧ s58 < (x24n : Int) ∧ ((w22.cell? ((p6.add ((s58).toNat * 4)).add 3)).isSome = true ∧ w22.frozen? ((p6.add ((s58).toNat * 4)).add 3) = false ∧
 (∀ w23 : World, w23 = w22.setCell ((p6.add ((s58).toNat * 4)).add 3) (.slice x30a x30n x30c) → (Jv (IntKind.i64.wrap (s58 + 1)) w23 ∧ mu (IntKind.i64.wrap (s58 + 1)) w23 < mu s58 w18))))))))))))))))))))) (∃ (x31a : Option Addr) (x31n x31c : Nat), w18.cell? (Addr.mk b 0 none) = some (.slice x31a x31n x31c) ∧
 (∃ (Jv2 : Int → World → Prop) (mu2 : Int → World → Nat), Jv2 (x31n : Int) w18 ∧ ∀ (jk_2 : Nat → Value) (w24 : World), ∀ (last : Int), Jv2 last w24 →
 (∃ (x32a : Option Addr) (x32n x32c : Nat) (x33a : Option Addr) (x33n x33c : Nat), w24.cell? (Addr.mk b 0 none) = some (.slice x32a x32n x32c) ∧ w24.cell? ((Addr.mk b 0 none).add 1) = some (.slice x33a x33n x33c) ∧
 (Cl Tryz.prog 60 #[.agg #[.slice x32a x32n x32c, .slice x33a x33n x33c], .int .i64 last] w24 fun v7 w25 => ∃ (x34 : Bool), v7 = .bool x34 ∧
 (cond (!x34) (Jv2 (IntKind.i64.wrap (last - 1)) w25 ∧ mu2 (IntKind.i64.wrap (last - 1)) w25 < mu2 last w24) (∃ (x35a : Option Addr) (x35n x35c : Nat), w25.cell? (Addr.mk b 0 none) = some (.slice x35a x35n x35c) ∧ (0 ≤ last ∧ last ≤ (x35c : Int) ∧ (0 ≤ last ∧ last ≤ last ∧ ((w25.cell? (Addr.mk b 0 none)).isSome = true ∧ w25.frozen? (Addr.mk b 0 none) = false ∧
 (∀ w26 : World, w26 = w25.setCell (Addr.mk b 0 none) (.slice x35a ((last).toNat) ((last).toNat)) →
 (∃ (x36a : Option Addr) (x36n x36c : Nat) (x37a : Option Addr) (x37n x37c : Nat), w26.cell? (Addr.mk b 0 none) = some (.slice x36a x36n x36c) ∧ w26.cell? ((Addr.mk b 0 none).add 1) = some (.slice x37a x37n x37c) ∧ ((w26.cell? (Addr.mk b3 0 none)).isSome = true ∧ w26.frozen? (Addr.mk b3 0 none) = false ∧ ((w26.cell? ((Addr.mk b3 0 none).add 1)).isSome = true ∧ w26.frozen? ((Addr.mk b3 0 none).add 1) = false ∧
 (∀ w27 : World, w27 = (w26.setCell (Addr.mk b3 0 none) (.slice x36a x36n x36c)).setCell ((Addr.mk b3 0 none).add 1) (.slice x37a x37n x37c) →
 (∃ (r9a : Option Addr) (r9n r9c : Nat) (r10a : Option Addr) (r10n r10c : Nat), w27.cell? (Addr.mk b3 0 none) = some (.slice r9a r9n r9c) ∧ w27.cell? ((Addr.mk b3 0 none).add 1) = some (.slice r10a r10n r10c) ∧ (R (.tuple #[.agg #[.slice r9a r9n r9c, .slice r10a r10n r10c], .int .i64 0]) w27)))))))))))))))))))))))))))))))))))))))))))))) ∧
 (∃ (x38a : Option Addr) (x38n x38c : Nat), w9.cell? ((Addr.mk b 0 none).add 1) = some (.slice x38a x38n x38c) ∧
 (∃ (x39a : Option Addr) (x39n x39c : Nat), w9.cell? (Addr.mk b 0 none) = some (.slice x39a x39n x39c) ∧
 (∃ (x40 : Int), w9.cell? (Addr.mk b2 0 none) = some (.int .i64 x40) ∧
 (∃ p7 : Addr, x39a = some p7 ∧ 0 ≤ (IntKind.i64.wrap (x40 - 1)) ∧ (IntKind.i64.wrap (x40 - 1)) < (x39n : Int) ∧
 (∃ (x41a : Option Addr) (x41n x41c : Nat), w9.cell? ((p7.add (((IntKind.i64.wrap (x40 - 1))).toNat * 4)).add 1) = some (.slice x41a x41n x41c) ∧
 (∀ (b5 : Nat) (w28 : World), b5 = w9.heap.size → w28 = w9.alloc (.cells #[.slice none 0 0] 25) → (w28.cell? ((p7.add (((IntKind.i64.wrap (x40 - 1))).toNat * 4)).add 1) = some (.slice x41a x41n x41c) ∧ w28.cell? (Addr.mk b2 0 none) = some (.int .i64 x40) ∧ w28.cell? (Addr.mk b 0 none) = some (.slice x39a x39n x39c) ∧ w28.cell? ((Addr.mk b 0 none).add 1) = some (.slice x38a x38n x38c) ∧
 (Cl Tryz.prog 61 #[.agg #[.slice x38a x38n x38c], .slice x41a x41n x41c] w28 fun v8 w29 => ∃ (x42a : Option Addr) (x42n x42c : Nat) (x43 : Int), v8 = .tuple #[.agg #[.slice x42a x42n x42c], .int .i64 x43] ∧ ((w29.cell? (Addr.mk b5 0 none)).isSome = true ∧ w29.frozen? (Addr.mk b5 0 none) = false ∧
 (∀ w30 : World, w30 = w29.setCell (Addr.mk b5 0 none) (.slice x42a x42n x42c) →
 (cond (x43 != 0) ((w30.cell? (Addr.mk b3 0 none)).isSome = true ∧ w30.frozen? (Addr.mk b3 0 none) = false ∧ ((w30.cell? ((Addr.mk b3 0 none).add 1)).isSome = true ∧ w30.frozen? ((Addr.mk b3 0 none).add 1) = false ∧
 (∀ w31 : World, w31 = (w30.setCell (Addr.mk b3 0 none) (.slice none 0 0)).setCell ((Addr.mk b3 0 none).add 1) (.slice none 0 0) →
 (∃ (r11a : Option Addr) (r11n r11c : Nat) (r12a : Option Addr) (r12n r12c : Nat), w31.cell? (Addr.mk b3 0 none) = some (.slice r11a r11n r11c) ∧ w31.cell? ((Addr.mk b3 0 none).add 1) = some (.slice r12a r12n r12c) ∧ (R (.tuple #[.agg #[.slice r11a r11n r11c, .slice r12a r12n r12c], .int .i64 x43]) w31))))) (∃ (x44a : Option Addr) (x44n x44c : Nat), w30.cell? (Addr.mk b5 0 none) = some (.slice x44a x44n x44c) ∧ ((w30.cell? ((Addr.mk b 0 none).add 1)).isSome = true ∧ w30.frozen? ((Addr.mk b 0 none).add 1) = false ∧
 (∀ w32 : World, w32 = w30.setCell ((Addr.mk b 0 none).add 1) (.slice x44a x44n x44c) →
 (∃ (x45a : Option Addr) (x45n x45c : Nat) (x46a : Option Addr) (x46n x46c : Nat), w32.cell? (Addr.mk b 0 none) = some (.slice x45a x45n x45c) ∧ w32.cell? ((Addr.mk b 0 none).add 1) = some (.slice x46a x46n x46c) ∧
 (Cl Tryz.prog 62 #[.agg #[.slice x45a x45n x45c, .slice x46a x46n x46c]] w32 fun v9 w33 => ∃ (x47a : Option Addr) (x47n x47c : Nat) (x48a : Option Addr) (x48n x48c : Nat), v9 = .agg #[.slice x47a x47n x47c, .slice x48a x48n x48c] ∧ ((w33.cell? (Addr.mk b 0 none)).isSome = true ∧ w33.frozen? (Addr.mk b 0 none) = false ∧ ((w33.cell? ((Addr.mk b 0 none).add 1)).isSome = true ∧ w33.frozen? ((Addr.mk b 0 none).add 1) = false ∧
 (∀ w34 : World, w34 = (w33.setCell (Addr.mk b 0 none) (.slice x47a x47n x47c)).setCell ((Addr.mk b 0 none).add 1) (.slice x48a x48n x48c) →
 (∃ (x49a : Option Addr) (x49n x49c : Nat), w34.cell? (Addr.mk b 0 none) = some (.slice x49a x49n x49c) ∧
 (∃ (x50 : Int), w34.cell? (Addr.mk b2 0 none) = some (.int .i64 x50) ∧
 (∃ p8 : Addr, x49a = some p8 ∧ 0 ≤ (IntKind.i64.wrap (x50 - 1)) ∧ (IntKind.i64.wrap (x50 - 1)) < (x49n : Int) ∧ ((w34.cell? (p8.add (((IntKind.i64.wrap (x50 - 1))).toNat * 4))).isSome = true ∧ w34.frozen? (p8.add (((IntKind.i64.wrap (x50 - 1))).toNat * 4)) = false ∧ ((w34.cell? ((p8.add (((IntKind.i64.wrap (x50 - 1))).toNat * 4)).add 1)).isSome = true ∧ w34.frozen? ((p8.add (((IntKind.i64.wrap (x50 - 1))).toNat * 4)).add 1) = false ∧ ((w34.cell? ((p8.add (((IntKind.i64.wrap (x50 - 1))).toNat * 4)).add 2)).isSome = true ∧ w34.frozen? ((p8.add (((IntKind.i64.wrap (x50 - 1))).toNat * 4)).add 2) = false ∧ ((w34.cell? ((p8.add (((IntKind.i64.wrap (x50 - 1))).toNat * 4)).add 3)).isSome = true ∧ w34.frozen? ((p8.add (((IntKind.i64.wrap (x50 - 1))).toNat * 4)).add 3) = false ∧
 (∀ w35 : World, w35 = (((w34.setCell (p8.add (((IntKind.i64.wrap (x50 - 1))).toNat * 4)) (.bool false)).setCell ((p8.add (((IntKind.i64.wrap (x50 - 1))).toNat * 4)).add 1) (.slice none 0 0)).setCell ((p8.add (((IntKind.i64.wrap (x50 - 1))).toNat * 4)).add 2) (.slice none 0 0)).setCell ((p8.add (((IntKind.i64.wrap (x50 - 1))).toNat * 4)).add 3) (.slice none 0 0) →
 (∃ (x51a : Option Addr) (x51n x51c : Nat), w35.cell? (Addr.mk b 0 none) = some (.slice x51a x51n x51c) ∧
 (∃ (Jv3 : Int → World → Prop) (mu3 : Int → World → Nat), Jv3 0 w35 ∧ ∀ (jk_3 : Nat → Value) (w36 : World), ∀ (s582 : Int), Jv3 s582 w36 →
 (cond (decide (s582 < (x51n : Int))) (∀ w37 : World, w37 = w36.drew →
 (∃ (x52a : Option Addr) (x52n x52c : Nat), w37.cell? (Addr.mk b 0 none) = some (.slice x52a x52n x52c) ∧
 (∃ (x53a : Option Addr) (x53n x53c : Nat), w37.cell? (Addr.mk b 0 none) = some (.slice x53a x53n x53c) ∧
 (∃ (x54a : Option Addr) (x54n x54c : Nat), w37.cell? (Addr.mk b 0 none) = some (.slice x54a x54n x54c) ∧
 (∃ p9 : Addr, x54a = some p9 ∧ 0 ≤ s582 ∧ s582 < (x54n : Int) ∧
 (∃ (x55a : Option Addr) (x55n x55c : Nat), w37.cell? ((p9.add ((s582).toNat * 4)).add 2) = some (.slice x55a x55n x55c) ∧
 (∃ (x56a : Option Addr) (x56n x56c : Nat), w37.cell? (Addr.mk b 0 none) = some (.slice x56a x56n x56c) ∧
 (∃ p10 : Addr, x56a = some p10 ∧ 0 ≤ s582 ∧ s582 < (x56n : Int) ∧
 (∃ (x57a : Option Addr) (x57n x57c : Nat), w37.cell? ((p10.add ((s582).toNat * 4)).add 3) = some (.slice x57a x57n x57c) ∧
 (Cl Tryz.prog 64 #[.slice x55a x55n x55c, .func (.func 63) #[] #[.pointer (some (Addr.mk b2 0 none))]] w37 fun v10 w38 => ∃ (x58a : Option Addr) (x58n x58c : Nat), v10 = .slice x58a x58n x58c ∧ (w38.cell? ((p10.add ((s582).toNat * 4)).add 3) = some (.slice x57a x57n x57c) ∧ w38.cell? (Addr.mk b 0 none) = some (.slice x56a x56n x56c) ∧ w38.cell? (Addr.mk b 0 none) = some (.slice x53a x53n x53c) ∧ w38.cell? (Addr.mk b 0 none) = some (.slice x52a x52n x52c) ∧
 (Cl Tryz.prog 64 #[.slice x57a x57n x57c, .func (.func 63) #[] #[.pointer (some (Addr.mk b2 0 none))]] w38 fun v11 w39 => ∃ (x59a : Option Addr) (x59n x59c : Nat), v11 = .slice x59a x59n x59c ∧ (w39.cell? (Addr.mk b 0 none) = some (.slice x53a x53n x53c) ∧ w39.cell? (Addr.mk b 0 none) = some (.slice x52a x52n x52c) ∧
 (∃ p11 : Addr, x52a = some p11 ∧ 0 ≤ s582 ∧ s582 < (x52n : Int) ∧ ((w39.cell? ((p11.add ((s582).toNat * 4)).add 2)).isSome = true ∧ w39.frozen? ((p11.add ((s582).toNat * 4)).add 2) = false ∧
 (∀ w40 : World, w40 = w39.setCell ((p11.add ((s582).toNat * 4)).add 2) (.slice x58a x58n x58c) → (w40.cell? (Addr.mk b 0 none) = some (.slice x53a x53n x53c) ∧
 (∃ p12 : Addr, x53a = some p12 ∧ 0 ≤ s582 ∧ s582 < (x53n : Int) ∧ ((w40.cell? ((p12.add ((s582).toNat * 4)).add 3)).isSome = true ∧ w40.frozen? ((p12.add ((s582).toNat * 4)).add 3) = false ∧
 (∀ w41 : World, w41 = w40.setCell ((p12.add ((s582).toNat * 4)).add 3) (.slice x59a x59n x59c) → (Jv3 (IntKind.i64.wrap (s582 + 1)) w41 ∧ mu3 (IntKind.i64.wrap (s582 + 1)) w41 < mu3 s582 w36))))))))))))))))))))) (∃ (x60a : Option Addr) (x60n x60c : Nat), w36.cell? (Addr.mk b 0 none) = some (.slice x60a x60n x60c) ∧
 (∃ (Jv4 : Int → World → Prop) (mu4 : Int → World → Nat), Jv4 (x60n : Int) w36 ∧ ∀ (jk_4 : Nat → Value) (w42 : World), ∀ (last2 : Int), Jv4 last2 w42 →
 (∃ (x61a : Option Addr) (x61n x61c : Nat) (x62a : Option Addr) (x62n x62c : Nat), w42.cell? (Addr.mk b 0 none) = some (.slice x61a x61n x61c) ∧ w42.cell? ((Addr.mk b 0 none).add 1) = some (.slice x62a x62n x62c) ∧
 (Cl Tryz.prog 60 #[.agg #[.slice x61a x61n x61c, .slice x62a x62n x62c], .int .i64 last2] w42 fun v12 w43 => ∃ (x63 : Bool), v12 = .bool x63 ∧
 (cond (!x63) (Jv4 (IntKind.i64.wrap (last2 - 1)) w43 ∧ mu4 (IntKind.i64.wrap (last2 - 1)) w43 < mu4 last2 w42) (∃ (x64a : Option Addr) (x64n x64c : Nat), w43.cell? (Addr.mk b 0 none) = some (.slice x64a x64n x64c) ∧ (0 ≤ last2 ∧ last2 ≤ (x64c : Int) ∧ (0 ≤ last2 ∧ last2 ≤ last2 ∧ ((w43.cell? (Addr.mk b 0 none)).isSome = true ∧ w43.frozen? (Addr.mk b 0 none) = false ∧
 (∀ w44 : World, w44 = w43.setCell (Addr.mk b 0 none) (.slice x64a ((last2).toNat) ((last2).toNat)) →
 (∃ (x65a : Option Addr) (x65n x65c : Nat) (x66a : Option Addr) (x66n x66c : Nat), w44.cell? (Addr.mk b 0 none) = some (.slice x65a x65n x65c) ∧ w44.cell? ((Addr.mk b 0 none).add 1) = some (.slice x66a x66n x66c) ∧ ((w44.cell? (Addr.mk b3 0 none)).isSome = true ∧ w44.frozen? (Addr.mk b3 0 none) = false ∧ ((w44.cell? ((Addr.mk b3 0 none).add 1)).isSome = true ∧ w44.frozen? ((Addr.mk b3 0 none).add 1) = false ∧
 (∀ w45 : World, w45 = (w44.setCell (Addr.mk b3 0 none) (.slice x65a x65n x65c)).setCell ((Addr.mk b3 0 none).add 1) (.slice x66a x66n x66c) →
 (∃ (r13a : Option Addr) (r13n r13c : Nat) (r14a : Option Addr) (r14n r14c : Nat), w45.cell? (Addr.mk b3 0 none) = some (.slice r13a r13n r13c) ∧ w45.cell? ((Addr.mk b3 0 none).add 1) = some (.slice r14a r14n r14c) ∧ (R (.tuple #[.agg #[.slice r13a r13n r13c, .slice r14a r14n r14c], .int .i64 0]) w45))))))))))))))))))))))))))))))))))))))))))))))))))))))))))
theorem c17 (ga : Option Addr) (gn gc : Nat) (g2a : Option Addr) (g2n g2c : Nat) (n : Int) {w : World} {R : Value → World → Prop} (hV : V17 ga gn gc g2a g2n g2c n w R) : Cl Tryz.prog 17 #[.agg #[.slice ga gn gc, .slice g2a g2n g2c], .int .i64 n] w R :=
 fn_sound hmTryz (TT := []) (f := 17) Tryz.func17 (ent_of Tryz.func17 (by kernel_rfl) rfl) (Eq.mpr (by kernel_rfl) hV)
/-- windrose/windroseref12.Drop -/
def V18 (la : Option Addr) (ln lc : Nat) (n : Int) (w : World) (R : Value → World → Prop) : Prop :=
 Cl Tryz.prog 36 #[.slice la ln lc, .int .i64 n] w fun v w1 => ∃ (x1 : Bool), v = .bool x1 ∧
 (cond (!x1) (R (.tuple #[.slice none 0 0, .int .i64 2]) w1)
 (cond (n == 1) (R (.tuple #[.slice none 0 0, .int .i64 2]) w1) (∃ (Jv : Option Addr → Nat → Nat → Int → World → Prop) (mu : Option Addr → Nat → Nat → Int → World → Nat), Jv none 0 0 0 w1 ∧ ∀ (jk_ : Nat → Value) (w2 : World), ∀ (outa : Option Addr) (outn outc : Nat) (s19 : Int), Jv outa outn outc s19 w2 →
 (cond (decide (s19 < (ln : Int))) (∃ p : Addr, la = some p ∧ 0 ≤ s19 ∧ s19 < (ln : Int) ∧
 (∃ (x2 : Bool) (x3a : Option Addr) (x3n x3c : Nat) (x4a : Option Addr) (x4n x4c : Nat) (x5a : Option Addr) (x5n x5c : Nat), w2.cell? (p.add ((s19).toNat * 4)) = some (.bool x2) ∧ w2.cell? ((p.add ((s19).toNat * 4)).add 1) = some (.slice x3a x3n x3c) ∧ w2.cell? ((p.add ((s19).toNat * 4)).add 2) = some (.slice x4a x4n x4c) ∧ w2.cell? ((p.add ((s19).toNat * 4)).add 3) = some (.slice x5a x5n x5c) ∧
 (∀ (b : Nat) (w3 : World), b = w2.heap.size → w3 = w2.alloc (.cells #[.bool false, .slice none 0 0, .slice none 0 0, .slice none 0 0] 56) → ((w3.cell? (Addr.mk b 0 none)).isSome = true ∧ w3.frozen? (Addr.mk b 0 none) = false ∧ ((w3.cell? ((Addr.mk b 0 none).add 1)).isSome = true ∧ w3.frozen? ((Addr.mk b 0 none).add 1) = false ∧ ((w3.cell? ((Addr.mk b 0 none).add 2)).isSome = true ∧ w3.frozen? ((Addr.mk b 0 none).add 2) = false ∧ ((w3.cell? ((Addr.mk b 0 none).add 3)).isSome = true ∧ w3.frozen? ((Addr.mk b 0 none).add 3) = false ∧
 (∀ w4 : World, w4 = (((w3.setCell (Addr.mk b 0 none) (.bool x2)).setCell ((Addr.mk b 0 none).add 1) (.slice x3a x3n x3c)).setCell ((Addr.mk b 0 none).add 2) (.slice x4a x4n x4c)).setCell ((Addr.mk b 0 none).add 3) (.slice x5a x5n x5c) →
 (cond ((IntKind.i64.wrap (s19 + 1)) == n) ((w4.cell? (Addr.mk b 0 none)).isSome = true ∧ w4.frozen? (Addr.mk b 0 none) = false ∧ ((w4.cell? ((Addr.mk b 0 none).add 1)).isSome = true ∧ w4.frozen? ((Addr.mk b 0 none).add 1) = false ∧ ((w4.cell? ((Addr.mk b 0 none).add 2)).isSome = true ∧ w4.frozen? ((Addr.mk b 0 none).add 2) = false ∧ ((w4.cell? ((Addr.mk b 0 none).add 3)).isSome = true ∧ w4.frozen? ((Addr.mk b 0 none).add 3) = false ∧
 (∀ w5 : World, w5 = (((w4.setCell (Addr.mk b 0 none) (.bool false)).setCell ((Addr.mk b 0 none).add 1) (.slice none 0 0)).setCell ((Addr.mk b 0 none).add 2) (.slice none 0 0)).setCell ((Addr.mk b 0 none).add 3) (.slice none 0 0) →
 (∀ w6 : World, w6 = w5.drew →
 (∃ (x6a : Option Addr) (x6n x6c : Nat), w6.cell? ((Addr.mk b 0 none).add 2) = some (.slice x6a x6n x6c) ∧
 (∃ (x7a : Option Addr) (x7n x7c : Nat), w6.cell? ((Addr.mk b 0 none).add 3) = some (.slice x7a x7n x7c) ∧
 (Cl Tryz.prog 65 #[.slice x6a x6n x6c, .int .i64 n] w6 fun v2 w7 => ∃ (x8a : Option Addr) (x8n x8c : Nat), v2 = .slice x8a x8n x8c ∧ (w7.cell? ((Addr.mk b 0 none).add 3) = some (.slice x7a x7n x7c) ∧
 (Cl Tryz.prog 65 #[.slice x7a x7n x7c, .int .i64 n] w7 fun v3 w8 => ∃ (x9a : Option Addr) (x9n x9c : Nat), v3 = .slice x9a x9n x9c ∧ ((w8.cell? ((Addr.mk b 0 none).add 2)).isSome = true ∧ w8.frozen? ((Addr.mk b 0 none).add 2) = false ∧
 (∀ w9 : World, w9 = w8.setCell ((Addr.mk b 0 none).add 2) (.slice x8a x8n x8c) → ((w9.cell? ((Addr.mk b 0 none).add 3)).isSome = true ∧ w9.frozen? ((Addr.mk b 0 none).add 3) = false ∧
 (∀ w10 : World, w10 = w9.setCell ((Addr.mk b 0 none).add 3) (.slice x9a x9n x9c) →
 (∃ (x10 : Bool) (x11a : Option Addr) (x11n x11c : Nat) (x12a : Option Addr) (x12n x12c : Nat) (x13a : Option Addr) (x13n x13c : Nat), w10.cell? (Addr.mk b 0 none) = some (.bool x10) ∧ w10.cell? ((Addr.mk b 0 none).add 1) = some (.slice x11a x11n x11c) ∧ w10.cell? ((Addr.mk b 0 none).add 2) = some (.slice x12a x12n x12c) ∧ w10.cell? ((Addr.mk b 0 none).add 3) = some (.slice x13a x13n x13c) ∧
 (∀ (b2 : Nat) (w11 : World), b2 = w10.heap.size → w11 = w10.alloc (.cells #[.bool x10, .slice x11a x11n x11c, .slice x12a x12n x12c, .slice x13a x13n x13c] 56) →
 (∃ (x14a : Option Addr) (x14n x14c : Nat) (w12 : World), Sem.run Tryz.prog (Builtin.append_ #[22, 22] 22 #[.slice outa outn outc, .slice (some (Addr.mk b2 0 none)) 1 1]) w11 = .ok (.slice x14a x14n x14c) w12 ∧ (Jv x14a x14n x14c (IntKind.i64.wrap (s19 + 1)) w12 ∧ mu x14a x14n x14c (IntKind.i64.wrap (s19 + 1)) w12 < mu outa outn outc s19 w2))))))))))))))))))) (∀ w13 : World, w13 = w4.drew →
 (∃ (x15a : Option Addr) (x15n x15c : Nat), w13.cell? ((Addr.mk b 0 none).add 2) = some (.slice x15a x15n x15c) ∧
 (∃ (x16a : Option Addr) (x16n x16c : Nat), w13.cell? ((Addr.mk b 0 none).add 3) = some (.slice x16a x16n x16c) ∧
 (Cl Tryz.prog 65 #[.slice x15a x15n x15c, .int .i64 n] w13 fun v4 w14 => ∃ (x17a : Option Addr) (x17n x17c : Nat), v4 = .slice x17a x17n x17c ∧ (w14.cell? ((Addr.mk b 0 none).add 3) = some (.slice x16a x16n x16c) ∧
 (Cl Tryz.prog 65 #[.slice x16a x16n x16c, .int .i64 n] w14 fun v5 w15 => ∃ (x18a : Option Addr) (x18n x18c : Nat), v5 = .slice x18a x18n x18c ∧ ((w15.cell? ((Addr.mk b 0 none).add 2)).isSome = true ∧ w15.frozen? ((Addr.mk b 0 none).add 2) = false ∧
 (∀ w16 : World, w16 = w15.setCell ((Addr.mk b 0 none).add 2) (.slice x17a x17n x17c) → ((w16.cell? ((Addr.mk b 0 none).add 3)).isSome = true ∧ w16.frozen? ((Addr.mk b 0 none).add 3) = false ∧
 (∀ w17 : World, w17 = w16.setCell ((Addr.mk b 0 none).add 3) (.slice x18a x18n x18c) →
 (∃ (x19 : Bool) (x20a : Option Addr) (x20n x20c : Nat) (x21a : Option Addr) (x21n x21c : Nat) (x22a : Option Addr) (x22n x22c : Nat), w17.cell? (Addr.mk b 0 none) = some (.bool x19) ∧ w17.cell? ((Addr.mk b 0 none).add 1) = some (.slice x20a x20n x20c) ∧ w17.cell? ((Addr.mk b 0 none).add 2) = some (.slice x21a x21n x21c) ∧ w17.cell? ((Addr.mk b 0 none).add 3) = some (.slice x22a x22n x22c) ∧
 (∀ (b3 : Nat) (w18 : World), b3 = w17.heap.size → w18 = w17.alloc (.cells #[.bool x19, .slice x20a x20n x20c, .slice x21a x21n x21c, .slice x22a x22n x22c] 56) →
 (∃ (x23a : Option Addr) (x23n x23c : Nat) (w19 : World), Sem.run Tryz.prog (Builtin.append_ #[22, 22] 22 #[.slice outa outn outc, .slice (some (Addr.mk b3 0 none)) 1 1]) w18 = .ok (.slice x23a x23n x23c) w19 ∧ (Jv x23a x23n x23c (IntKind.i64.wrap (s19 + 1)) w19 ∧ mu x23a x23n x23c (IntKind.i64.wrap (s19 + 1)) w19 < mu outa outn outc s19 w2))))))))))))))))))))))) (∃ (Jv2 : Option Addr → Nat → Nat → World → Prop) (mu2 : Option Addr → Nat → Nat → World → Nat), Jv2 outa outn outc w2 ∧ ∀ (jk_2 : Nat → Value) (w20 : World), ∀ (out2a : Option Addr) (out2n out2c : Nat), Jv2 out2a out2n out2c w20 →
 (∃ p2 : Addr, out2a = some p2 ∧ 0 ≤ (IntKind.i64.wrap ((out2n : Int) - 1)) ∧ (IntKind.i64.wrap ((out2n : Int) - 1)) < (out2n : Int) ∧
 (∃ (x24 : Bool), w20.cell? (p2.add (((IntKind.i64.wrap ((out2n : Int) - 1))).toNat * 4)) = some (.bool x24) ∧
 (cond (!x24) (0 ≤ (IntKind.i64.wrap ((out2n : Int) - 1)) ∧ (IntKind.i64.wrap ((out2n : Int) - 1)) ≤ (out2c : Int) ∧ (Jv2 out2a ((IntKind.i64.wrap ((out2n : Int) - 1)).toNat) (((out2c : Int)).toNat) w20 ∧ mu2 out2a ((IntKind.i64.wrap ((out2n : Int) - 1)).toNat) (((out2c : Int)).toNat) w20 < mu2 out2a out2n out2c w20)) (R (.tuple #[.slice out2a out2n out2c, .int .i64 0]) w20)))))))))
theorem c18 (la : Option Addr) (ln lc : Nat) (n : Int) {w : World} {R : Value → World → Prop} (hV : V18 la ln lc n w R) : Cl Tryz.prog 18 #[.slice la ln lc, .int .i64 n] w R :=
 fn_sound hmTryz (TT := []) (f := 18) Tryz.func18 (ent_of Tryz.func18 (by kernel_rfl) rfl) (Eq.mpr (by kernel_rfl) hV)
/-- windrose/windroselaw12.says -/
def V19 (ga : Option Addr) (gn gc : Nat) (g2a : Option Addr) (g2n g2c : Nat) (la : Option Addr) (ln lc : Nat) (w : World) (R : Value → World → Prop) : Prop :=
 ∀ (b : Nat) (w1 : World), b = w.heap.size → w1 = w.alloc (.cells #[.slice ga gn gc, .slice g2a g2n g2c] 27) →
 (∃ (x1a : Option Addr) (x1n x1c : Nat), w1.cell? (Addr.mk b 0 none) = some (.slice x1a x1n x1c) ∧
 (Cl Tryz.prog 66 #[.slice x1a x1n x1c, .slice la ln lc] w1 fun v w2 => ∃ (x2 : Bool), v = .bool x2 ∧
 (cond (!x2) (R (.bool false) w2)
 (cond ((ln : Int) == 0) (∃ (x3a : Option Addr) (x3n x3c : Nat), w2.cell? ((Addr.mk b 0 none).add 1) = some (.slice x3a x3n x3c) ∧ (R (.bool ((x3n : Int) == 0)) w2)) (∃ (x4a : Option Addr) (x4n x4c : Nat), w2.cell? ((Addr.mk b 0 none).add 1) = some (.slice x4a x4n x4c) ∧
 (Cl Tryz.prog 48 #[.agg #[.slice x4a x4n x4c]] w2 fun v2 w3 => ∃ (x5 : Bool), v2 = .bool x5 ∧
 (cond x5 (∃ (x6a : Option Addr) (x6n x6c : Nat), w3.cell? ((Addr.mk b 0 none).add 1) = some (.slice x6a x6n x6c) ∧
 (Cl Tryz.prog 50 #[.agg #[.slice x6a x6n x6c]] w3 fun v3 w4 => ∃ (x7a : Option Addr) (x7n x7c : Nat), v3 = .slice x7a x7n x7c ∧
 (Cl Tryz.prog 51 #[.slice la ln lc] w4 fun v4 w5 => ∃ (x8a : Option Addr) (x8n x8c : Nat), v4 = .slice x8a x8n x8c ∧
 (Cl Tryz.prog 49 #[.slice x7a x7n x7c, .slice x8a x8n x8c] w5 fun v5 w6 => ∃ (x9 : Bool), v5 = .bool x9 ∧ (R (.bool x9) w6))))) (R (.bool false) w3))))))))
theorem c19 (ga : Option Addr) (gn gc : Nat) (g2a : Option Addr) (g2n g2c : Nat) (la : Option Addr) (ln lc : Nat) {w : World} {R : Value → World → Prop} (hV : V19 ga gn gc g2a g2n g2c la ln lc w R) : Cl Tryz.prog 19 #[.agg #[.slice ga gn gc, .slice g2a g2n g2c], .slice la ln lc] w R :=
 fn_sound hmTryz (TT := []) (f := 19) Tryz.func19 (ent_of Tryz.func19 (by kernel_rfl) rfl) (Eq.mpr (by kernel_rfl) hV)
/-- windrose/windroselaw12.same -/
def V20 (aa : Option Addr) (an ac : Nat) (a2a : Option Addr) (a2n a2c : Nat) (ba : Option Addr) (bn bc : Nat) (b2a : Option Addr) (b2n b2c : Nat) (w : World) (R : Value → World → Prop) : Prop :=
 ∀ (b3 : Nat) (w1 : World), b3 = w.heap.size → w1 = w.alloc (.cells #[.slice aa an ac, .slice a2a a2n a2c] 27) →
 (∀ (b4 : Nat) (w2 : World), b4 = w1.heap.size → w2 = w1.alloc (.cells #[.slice ba bn bc, .slice b2a b2n b2c] 27) →
 (∃ (x1a : Option Addr) (x1n x1c : Nat), w2.cell? (Addr.mk b3 0 none) = some (.slice x1a x1n x1c) ∧
 (∃ (x2a : Option Addr) (x2n x2c : Nat), w2.cell? (Addr.mk b4 0 none) = some (.slice x2a x2n x2c) ∧
 (Cl Tryz.prog 66 #[.slice x1a x1n x1c, .slice x2a x2n x2c] w2 fun v w3 => ∃ (x3 : Bool), v = .bool x3 ∧
 (cond x3 (∃ (x4a : Option Addr) (x4n x4c : Nat), w3.cell? ((Addr.mk b3 0 none).add 1) = some (.slice x4a x4n x4c) ∧
 (∃ (x5a : Option Addr) (x5n x5c : Nat), w3.cell? ((Addr.mk b4 0 none).add 1) = some (.slice x5a x5n x5c) ∧
 (Cl Tryz.prog 67 #[.slice x4a x4n x4c, .slice x5a x5n x5c, .func (.func 68) #[] #[]] w3 fun v2 w4 => ∃ (x6 : Bool), v2 = .bool x6 ∧ (R (.bool x6) w4)))) (R (.bool false) w3))))))
theorem c20 (aa : Option Addr) (an ac : Nat) (a2a : Option Addr) (a2n a2c : Nat) (ba : Option Addr) (bn bc : Nat) (b2a : Option Addr) (b2n b2c : Nat) {w : World} {R : Value → World → Prop} (hV : V20 aa an ac a2a a2n a2c ba bn bc b2a b2n b2c w R) : Cl Tryz.prog 20 #[.agg #[.slice aa an ac, .slice a2a a2n a2c], .agg #[.slice ba bn bc, .slice b2a b2n b2c]] w R :=
 fn_sound hmTryz (TT := []) (f := 20) Tryz.func20 (ent_of Tryz.func20 (by kernel_rfl) rfl) (Eq.mpr (by kernel_rfl) hV)
end Go.Eng
namespace Go.Eng
open Go Go.Proofs
set_option maxRecDepth 100000
set_option maxHeartbeats 4000000
/-- windrose/windroselaw12.spoil -/
def V21 (ga : Option Addr) (gn gc : Nat) (g2a : Option Addr) (g2n g2c : Nat) (w : World) (R : Value → World → Prop) : Prop :=
 ∀ (b : Nat) (w1 : World), b = w.heap.size → w1 = w.alloc (.cells #[.slice ga gn gc, .slice g2a g2n g2c] 27) →
 (∃ (x1a : Option Addr) (x1n x1c : Nat), w1.cell? (Addr.mk b 0 none) = some (.slice x1a x1n x1c) ∧
 (∃ (Jv : Int → World → Prop) (mu : Int → World → Nat), Jv 0 w1 ∧ ∀ (jk_ : Nat → Value) (w2 : World), ∀ (s10 : Int), Jv s10 w2 →
 (cond (decide (s10 < (x1n : Int))) (∃ (x2a : Option Addr) (x2n x2c : Nat), w2.cell? (Addr.mk b 0 none) = some (.slice x2a x2n x2c) ∧
 (∃ p : Addr, x2a = some p ∧ 0 ≤ s10 ∧ s10 < (x2n : Int) ∧
 (∃ (x3a : Option Addr) (x3n x3c : Nat), w2.cell? ((p.add ((s10).toNat * 4)).add 1) = some (.slice x3a x3n x3c) ∧
 (∃ (Jm : Int → World → Prop), (∃ (Jv2 : Int → World → Prop) (mu2 : Int → World → Nat), Jv2 0 w2 ∧ ∀ (jk_3 : Nat → Value) (w3 : World), ∀ (s202 : Int), Jv2 s202 w3 →
 (cond (decide (s202 < (x3n : Int))) (∃ (x4a : Option Addr) (x4n x4c : Nat), w3.cell? (Addr.mk b 0 none) = some (.slice x4a x4n x4c) ∧
 (∃ p2 : Addr, x4a = some p2 ∧ 0 ≤ s10 ∧ s10 < (x4n : Int) ∧
 (∃ (x5a : Option Addr) (x5n x5c : Nat), w3.cell? ((p2.add ((s10).toNat * 4)).add 1) = some (.slice x5a x5n x5c) ∧
 (∃ p3 : Addr, x5a = some p3 ∧ 0 ≤ s202 ∧ s202 < (x5n : Int) ∧ ((w3.cell? (p3.add ((s202).toNat * 1))).isSome = true ∧ w3.frozen? (p3.add ((s202).toNat * 1)) = false ∧
 (∀ w4 : World, w4 = w3.setCell (p3.add ((s202).toNat * 1)) (.int .u64 0) → (Jv2 (IntKind.i64.wrap (s202 + 1)) w4 ∧ mu2 (IntKind.i64.wrap (s202 + 1)) w4 < mu2 s202 w3))))))) (Jm s202 w3))) ∧ ∀ (jk_2 : Nat → Value) (w5 : World), ∀ (s20 : Int), Jm s20 w5 →
 (∃ (x6a : Option Addr) (x6n x6c : Nat), w5.cell? (Addr.mk b 0 none) = some (.slice x6a x6n x6c) ∧
 (∃ p4 : Addr, x6a = some p4 ∧ 0 ≤ s10 ∧ s10 < (x6n : Int) ∧
 (∃ (x7a : Option Addr) (x7n x7c : Nat), w5.cell? ((p4.add ((s10).toNat * 4)).add 2) = some (.slice x7a x7n x7c) ∧
 (∃ (Jm2 : Int → World → Prop), (∃ (Jv3 : Int → World → Prop) (mu3 : Int → World → Nat), Jv3 0 w5 ∧ ∀ (jk_5 : Nat → Value) (w6 : World), ∀ (s392 : Int), Jv3 s392 w6 →
 (cond (decide (s392 < (x7n : Int))) (∃ (x8a : Option Addr) (x8n x8c : Nat), w6.cell? (Addr.mk b 0 none) = some (.slice x8a x8n x8c) ∧
 (∃ p5 : Addr, x8a = some p5 ∧ 0 ≤ s10 ∧ s10 < (x8n : Int) ∧
 (∃ (x9a : Option Addr) (x9n x9c : Nat), w6.cell? ((p5.add ((s10).toNat * 4)).add 2) = some (.slice x9a x9n x9c) ∧
 (∃ p6 : Addr, x9a = some p6 ∧ 0 ≤ s392 ∧ s392 < (x9n : Int) ∧ ((w6.cell? ((p6.add ((s392).toNat * 2)).add 1)).isSome = true ∧ w6.frozen? ((p6.add ((s392).toNat * 2)).add 1) = false ∧
 (∀ w7 : World, w7 = w6.setCell ((p6.add ((s392).toNat * 2)).add 1) (.int .i64 0) → (Jv3 (IntKind.i64.wrap (s392 + 1)) w7 ∧ mu3 (IntKind.i64.wrap (s392 + 1)) w7 < mu3 s392 w6))))))) (Jm2 s392 w6))) ∧ ∀ (jk_4 : Nat → Value) (w8 : World), ∀ (s39 : Int), Jm2 s39 w8 →
 (∃ (x10a : Option Addr) (x10n x10c : Nat), w8.cell? (Addr.mk b 0 none) = some (.slice x10a x10n x10c) ∧
 (∃ p7 : Addr, x10a = some p7 ∧ 0 ≤ s10 ∧ s10 < (x10n : Int) ∧
 (∃ (x11a : Option Addr) (x11n x11c : Nat), w8.cell? ((p7.add ((s10).toNat * 4)).add 3) = some (.slice x11a x11n x11c) ∧
 (∃ (Jv4 : Int → World → Prop) (mu4 : Int → World → Nat), Jv4 0 w8 ∧ ∀ (jk_6 : Nat → Value) (w9 : World), ∀ (s59 : Int), Jv4 s59 w9 →
 (cond (decide (s59 < (x11n : Int))) (∃ (x12a : Option Addr) (x12n x12c : Nat), w9.cell? (Addr.mk b 0 none) = some (.slice x12a x12n x12c) ∧
 (∃ p8 : Addr, x12a = some p8 ∧ 0 ≤ s10 ∧ s10 < (x12n : Int) ∧
 (∃ (x13a : Option Addr) (x13n x13c : Nat), w9.cell? ((p8.add ((s10).toNat * 4)).add 3) = some (.slice x13a x13n x13c) ∧
 (∃ p9 : Addr, x13a = some p9 ∧ 0 ≤ s59 ∧ s59 < (x13n : Int) ∧ ((w9.cell? ((p9.add ((s59).toNat * 2)).add 1)).isSome = true ∧ w9.frozen? ((p9.add ((s59).toNat * 2)).add 1) = false ∧
 (∀ w10 : World, w10 = w9.setCell ((p9.add ((s59).toNat * 2)).add 1) (.int .i64 0) → (Jv4 (IntKind.i64.wrap (s59 + 1)) w10 ∧ mu4 (IntKind.i64.wrap (s59 + 1)) w10 < mu4 s59 w9))))))) (Jv (IntKind.i64.wrap (s10 + 1)) w9 ∧ mu (IntKind.i64.wrap (s10 + 1)) w9 < mu s10 w2)))))))))))))) (∃ (x14a : Option Addr) (x14n x14c : Nat), w2.cell? ((Addr.mk b 0 none).add 1) = some (.slice x14a x14n x14c) ∧
 (∃ (Jv5 : Int → World → Prop) (mu5 : Int → World → Nat), Jv5 0 w2 ∧ ∀ (jk_7 : Nat → Value) (w11 : World), ∀ (s77 : Int), Jv5 s77 w11 →
 (cond (decide (s77 < (x14n : Int))) (∃ (x15a : Option Addr) (x15n x15c : Nat), w11.cell? ((Addr.mk b 0 none).add 1) = some (.slice x15a x15n x15c) ∧
 (∃ p10 : Addr, x15a = some p10 ∧ 0 ≤ s77 ∧ s77 < (x15n : Int) ∧ ((w11.cell? ((p10.add ((s77).toNat * 3)).add 2)).isSome = true ∧ w11.frozen? ((p10.add ((s77).toNat * 3)).add 2) = false ∧
 (∀ w12 : World, w12 = w11.setCell ((p10.add ((s77).toNat * 3)).add 2) (.int .i64 99) → (Jv5 (IntKind.i64.wrap (s77 + 1)) w12 ∧ mu5 (IntKind.i64.wrap (s77 + 1)) w12 < mu5 s77 w11))))) (R (.tuple #[]) w11)))))))
theorem c21 (ga : Option Addr) (gn gc : Nat) (g2a : Option Addr) (g2n g2c : Nat) {w : World} {R : Value → World → Prop} (hV : V21 ga gn gc g2a g2n g2c w R) : Cl Tryz.prog 21 #[.agg #[.slice ga gn gc, .slice g2a g2n g2c]] w R :=
 fn_sound hmTryz (TT := []) (f := 21) Tryz.func21 (ent_of Tryz.func21 (by kernel_rfl) rfl) (Eq.mpr (by kernel_rfl) hV)
/-- slices.Equal[[]windrose/api.Id,windrose/api.Id] -/
def V22 (s1a : Option Addr) (s1n s1c : Nat) (s2a : Option Addr) (s2n s2c : Nat) (w : World) (R : Value → World → Prop) : Prop :=
 cond ((s1n : Int) != (s2n : Int)) (R (.bool false) w) (∃ (Jv : Bool → Int → World → Prop) (mu : Bool → Int → World → Nat), Jv false 0 w ∧ ∀ (jk_ : Nat → Value) (w1 : World), ∀ (s4 : Bool) (s13 : Int), Jv s4 s13 w1 →
 (cond (decide (s13 < (s1n : Int))) (∀ w2 : World, w2 = w1.drew →
 (∃ p : Addr, s1a = some p ∧ 0 ≤ s13 ∧ s13 < (s1n : Int) ∧
 (∃ (x1 : Int), w2.cell? (p.add ((s13).toNat * 1)) = some (.int .u64 x1) ∧
 (∃ p2 : Addr, s2a = some p2 ∧ 0 ≤ s13 ∧ s13 < (s2n : Int) ∧
 (∃ (x2 : Int), w2.cell? (p2.add ((s13).toNat * 1)) = some (.int .u64 x2) ∧
 (cond (x1 != x2) (R (.bool false) w2) (Jv s4 (IntKind.i64.wrap (s13 + 1)) w2 ∧ mu s4 (IntKind.i64.wrap (s13 + 1)) w2 < mu s4 s13 w1))))))) (R (.bool true) w1)))
theorem c22 (s1a : Option Addr) (s1n s1c : Nat) (s2a : Option Addr) (s2n s2c : Nat) {w : World} {R : Value → World → Prop} (hV : V22 s1a s1n s1c s2a s2n s2c w R) : Cl Tryz.prog 22 #[.slice s1a s1n s1c, .slice s2a s2n s2c] w R :=
 fn_sound hmTryz (TT := []) (f := 22) Tryz.func22 (ent_of Tryz.func22 (by kernel_rfl) rfl) (Eq.mpr (by kernel_rfl) hV)
/-- windrose/windroseref03.Right -/
def V23 (la : Option Addr) (ln lc : Nat) (w : World) (R : Value → World → Prop) : Prop :=
 ∃ (Jv : Bool → Int → World → Prop) (mu : Bool → Int → World → Nat), Jv false 0 w ∧ ∀ (jk_ : Nat → Value) (w1 : World), ∀ (s2 : Bool) (s7 : Int), Jv s2 s7 w1 →
 (cond (decide (s7 < (ln : Int))) (∃ p : Addr, la = some p ∧ 0 ≤ s7 ∧ s7 < (ln : Int) ∧
 (∃ (x1 : Int), w1.cell? (p.add ((s7).toNat * 1)) = some (.int .u64 x1) ∧
 (Cl Tryz.prog 56 #[.int .u64 x1] w1 fun v w2 => ∃ (x2 : Bool), v = .bool x2 ∧
 (cond (!x2) (R (.bool false) w2)
 (cond (decide (0 < s7)) (∃ p2 : Addr, la = some p2 ∧ 0 ≤ (IntKind.i64.wrap (s7 - 1)) ∧ (IntKind.i64.wrap (s7 - 1)) < (ln : Int) ∧
 (∃ (x3 : Int), w2.cell? (p2.add (((IntKind.i64.wrap (s7 - 1))).toNat * 1)) = some (.int .u64 x3) ∧
 (cond (decide (x1 ≤ x3)) (R (.bool false) w2) (Jv s2 (IntKind.i64.wrap (s7 + 1)) w2 ∧ mu s2 (IntKind.i64.wrap (s7 + 1)) w2 < mu s2 s7 w1)))) (Jv s2 (IntKind.i64.wrap (s7 + 1)) w2 ∧ mu s2 (IntKind.i64.wrap (s7 + 1)) w2 < mu s2 s7 w1)))))) (R (.bool (decide ((ln : Int) ≤ 12))) w1))
theorem c23 (la : Option Addr) (ln lc : Nat) {w : World} {R : Value → World → Prop} (hV : V23 la ln lc w R) : Cl Tryz.prog 23 #[.slice la ln lc] w R :=
 fn_sound hmTryz (TT := []) (f := 23) Tryz.func23 (ent_of Tryz.func23 (by kernel_rfl) rfl) (Eq.mpr (by kernel_rfl) hV)
/-- windrose/types.With -/
def V25 (la : Option Addr) (ln lc : Nat) (id : Int) (w : World) (R : Value → World → Prop) : Prop :=
 Cl Tryz.prog 39 #[.slice la ln lc] w fun v w1 => ∃ (x1 : Int), v = .int .i64 x1 ∧
 (cond (x1 != 0) (R (.tuple #[.slice none 0 0, .int .i64 130]) w1)
 (Cl Tryz.prog 70 #[.int .u64 id] w1 fun v2 w2 => ∃ (x2 : Bool), v2 = .bool x2 ∧
 (cond (!x2) (R (.tuple #[.slice none 0 0, .int .i64 2]) w2)
 (Cl Tryz.prog 72 #[.slice la ln lc, .int .u64 id] w2 fun v3 w3 => ∃ (x3a : Option Addr) (x3n x3c : Nat), v3 = .slice x3a x3n x3c ∧
 (Cl Tryz.prog 71 #[.slice x3a x3n x3c] w3 fun v4 w4 => ∃ (x4a : Option Addr) (x4n x4c : Nat), v4 = .slice x4a x4n x4c ∧
 (cond (decide (12 < (x4n : Int))) (R (.tuple #[.slice none 0 0, .int .i64 6]) w4) (R (.tuple #[.slice x4a x4n x4c, .int .i64 0]) w4)))))))
theorem c25 (la : Option Addr) (ln lc : Nat) (id : Int) {w : World} {R : Value → World → Prop} (hV : V25 la ln lc id w R) : Cl Tryz.prog 25 #[.slice la ln lc, .int .u64 id] w R :=
 fn_sound hmTryz (TT := []) (f := 25) Tryz.func25 (ent_of Tryz.func25 (by kernel_rfl) rfl) (Eq.mpr (by kernel_rfl) hV)
/-- windrose/graph.Check -/
def V26 (ga : Option Addr) (gn gc : Nat) (g2a : Option Addr) (g2n g2c : Nat) (w : World) (R : Value → World → Prop) : Prop :=
 ∀ (b : Nat) (w1 : World), b = w.heap.size → w1 = w.alloc (.cells #[.slice ga gn gc, .slice g2a g2n g2c] 27) →
 (∃ (x1a : Option Addr) (x1n x1c : Nat), w1.cell? (Addr.mk b 0 none) = some (.slice x1a x1n x1c) ∧
 (cond ((x1n : Int) == 0) (R (.int .i64 220) w1) (∃ (x2a : Option Addr) (x2n x2c : Nat) (x3a : Option Addr) (x3n x3c : Nat), w1.cell? (Addr.mk b 0 none) = some (.slice x2a x2n x2c) ∧ w1.cell? ((Addr.mk b 0 none).add 1) = some (.slice x3a x3n x3c) ∧
 (Cl Tryz.prog 60 #[.agg #[.slice x2a x2n x2c, .slice x3a x3n x3c], .int .i64 (x1n : Int)] w1 fun v w2 => ∃ (x4 : Bool), v = .bool x4 ∧
 (cond (!x4) (R (.int .i64 220) w2) (∃ (x5a : Option Addr) (x5n x5c : Nat) (x6a : Option Addr) (x6n x6c : Nat), w2.cell? (Addr.mk b 0 none) = some (.slice x5a x5n x5c) ∧ w2.cell? ((Addr.mk b 0 none).add 1) = some (.slice x6a x6n x6c) ∧
 (Cl Tryz.prog 60 #[.agg #[.slice x5a x5n x5c, .slice x6a x6n x6c], .int .i64 1] w2 fun v2 w3 => ∃ (x7 : Bool), v2 = .bool x7 ∧
 (cond (!x7) (R (.int .i64 220) w3) (∃ (x8a : Option Addr) (x8n x8c : Nat), w3.cell? (Addr.mk b 0 none) = some (.slice x8a x8n x8c) ∧
 (∃ p : Addr, x8a = some p ∧ 0 ≤ (0 : Int) ∧ (0 : Int) < (x8n : Int) ∧
 (∃ (x9a : Option Addr) (x9n x9c : Nat), w3.cell? ((p.add (((0 : Int)).toNat * 4)).add 1) = some (.slice x9a x9n x9c) ∧
 (cond (decide (0 < (x9n : Int))) (R (.int .i64 220) w3) (∃ (x10a : Option Addr) (x10n x10c : Nat), w3.cell? ((Addr.mk b 0 none).add 1) = some (.slice x10a x10n x10c) ∧
 (Cl Tryz.prog 73 #[.agg #[.slice x10a x10n x10c]] w3 fun v3 w4 => ∃ (x11 : Int), v3 = .int .i64 x11 ∧
 (cond (x11 != 0) (R (.int .i64 220) w4) (∃ (x12a : Option Addr) (x12n x12c : Nat), w4.cell? (Addr.mk b 0 none) = some (.slice x12a x12n x12c) ∧
 (∃ (Jv : Int → Int → Int → World → Prop) (mu : Int → Int → Int → World → Nat), Jv 0 0 0 w4 ∧ ∀ (jk_ : Nat → Value) (w5 : World), ∀ (s2 many s43 : Int), Jv s2 many s43 w5 →
 (cond (decide (s43 < (x12n : Int))) (∃ p2 : Addr, x12a = some p2 ∧ 0 ≤ s43 ∧ s43 < (x12n : Int) ∧
 (∃ (x13 : Bool) (x14a : Option Addr) (x14n x14c : Nat) (x15a : Option Addr) (x15n x15c : Nat) (x16a : Option Addr) (x16n x16c : Nat), w5.cell? (p2.add ((s43).toNat * 4)) = some (.bool x13) ∧ w5.cell? ((p2.add ((s43).toNat * 4)).add 1) = some (.slice x14a x14n x14c) ∧ w5.cell? ((p2.add ((s43).toNat * 4)).add 2) = some (.slice x15a x15n x15c) ∧ w5.cell? ((p2.add ((s43).toNat * 4)).add 3) = some (.slice x16a x16n x16c) ∧
 (∀ (b2 : Nat) (w6 : World), b2 = w5.heap.size → w6 = w5.alloc (.cells #[.bool false, .slice none 0 0, .slice none 0 0, .slice none 0 0] 56) → ((w6.cell? (Addr.mk b2 0 none)).isSome = true ∧ w6.frozen? (Addr.mk b2 0 none) = false ∧ ((w6.cell? ((Addr.mk b2 0 none).add 1)).isSome = true ∧ w6.frozen? ((Addr.mk b2 0 none).add 1) = false ∧ ((w6.cell? ((Addr.mk b2 0 none).add 2)).isSome = true ∧ w6.frozen? ((Addr.mk b2 0 none).add 2) = false ∧ ((w6.cell? ((Addr.mk b2 0 none).add 3)).isSome = true ∧ w6.frozen? ((Addr.mk b2 0 none).add 3) = false ∧
 (∀ w7 : World, w7 = (((w6.setCell (Addr.mk b2 0 none) (.bool x13)).setCell ((Addr.mk b2 0 none).add 1) (.slice x14a x14n x14c)).setCell ((Addr.mk b2 0 none).add 2) (.slice x15a x15n x15c)).setCell ((Addr.mk b2 0 none).add 3) (.slice x16a x16n x16c) →
 (∃ (x17 : Bool), w7.cell? (Addr.mk b2 0 none) = some (.bool x17) ∧
 (cond (!x17) (∃ (x18a : Option Addr) (x18n x18c : Nat), w7.cell? ((Addr.mk b2 0 none).add 1) = some (.slice x18a x18n x18c) ∧
 (∃ (x19a : Option Addr) (x19n x19c : Nat), w7.cell? ((Addr.mk b2 0 none).add 2) = some (.slice x19a x19n x19c) ∧
 (∃ (x20a : Option Addr) (x20n x20c : Nat), w7.cell? ((Addr.mk b2 0 none).add 3) = some (.slice x20a x20n x20c) ∧
 (cond (decide (0 < (IntKind.i64.wrap ((IntKind.i64.wrap ((x18n : Int) + (x19n : Int))) + (x20n : Int))))) (R (.int .i64 220) w7) (Jv s2 many (IntKind.i64.wrap (s43 + 1)) w7 ∧ mu s2 many (IntKind.i64.wrap (s43 + 1)) w7 < mu s2 many s43 w5))))) (∃ (x21a : Option Addr) (x21n x21c : Nat), w7.cell? ((Addr.mk b 0 none).add 1) = some (.slice x21a x21n x21c) ∧
 (∃ (x22a : Option Addr) (x22n x22c : Nat), w7.cell? ((Addr.mk b2 0 none).add 1) = some (.slice x22a x22n x22c) ∧
 (Cl Tryz.prog 74 #[.agg #[.slice x21a x21n x21c], .slice x22a x22n x22c] w7 fun v4 w8 => ∃ (x23 : Int) (x24 : Bool), v4 = .tuple #[.int .i64 x23, .bool x24] ∧
 (∃ (x25a : Option Addr) (x25n x25c : Nat), w8.cell? ((Addr.mk b2 0 none).add 1) = some (.slice x25a x25n x25c) ∧
 (Cl Tryz.prog 39 #[.slice x25a x25n x25c] w8 fun v5 w9 => ∃ (x26 : Int), v5 = .int .i64 x26 ∧
 (cond (x26 != 0) (R (.int .i64 220) w9)
 (cond (!x24) (R (.int .i64 220) w9)
 (cond (x23 != (IntKind.i64.wrap (s43 + 1))) (R (.int .i64 220) w9) (∃ (x27a : Option Addr) (x27n x27c : Nat) (x28a : Option Addr) (x28n x28c : Nat), w9.cell? (Addr.mk b 0 none) = some (.slice x27a x27n x27c) ∧ w9.cell? ((Addr.mk b 0 none).add 1) = some (.slice x28a x28n x28c) ∧
 (∃ (x29a : Option Addr) (x29n x29c : Nat), w9.cell? ((Addr.mk b2 0 none).add 2) = some (.slice x29a x29n x29c) ∧
 (Cl Tryz.prog 75 #[.agg #[.slice x27a x27n x27c, .slice x28a x28n x28c], .int .i64 (IntKind.i64.wrap (s43 + 1)), .slice x29a x29n x29c, .bool true] w9 fun v6 w10 => ∃ (x30 : Bool), v6 = .bool x30 ∧
 (cond (!x30) (R (.int .i64 220) w10) (∃ (x31a : Option Addr) (x31n x31c : Nat) (x32a : Option Addr) (x32n x32c : Nat), w10.cell? (Addr.mk b 0 none) = some (.slice x31a x31n x31c) ∧ w10.cell? ((Addr.mk b 0 none).add 1) = some (.slice x32a x32n x32c) ∧
 (∃ (x33a : Option Addr) (x33n x33c : Nat), w10.cell? ((Addr.mk b2 0 none).add 3) = some (.slice x33a x33n x33c) ∧
 (Cl Tryz.prog 75 #[.agg #[.slice x31a x31n x31c, .slice x32a x32n x32c], .int .i64 (IntKind.i64.wrap (s43 + 1)), .slice x33a x33n x33c, .bool false] w10 fun v7 w11 => ∃ (x34 : Bool), v7 = .bool x34 ∧
 (cond (!x34) (R (.int .i64 220) w11) (Jv s2 (IntKind.i64.wrap (many + 1)) (IntKind.i64.wrap (s43 + 1)) w11 ∧ mu s2 (IntKind.i64.wrap (many + 1)) (IntKind.i64.wrap (s43 + 1)) w11 < mu s2 many s43 w5))))))))))))))))))))))))))) (∃ (x35a : Option Addr) (x35n x35c : Nat), w5.cell? ((Addr.mk b 0 none).add 1) = some (.slice x35a x35n x35c) ∧
 (Cl Tryz.prog 76 #[.agg #[.slice x35a x35n x35c]] w5 fun v8 w12 => ∃ (x36 : Int), v8 = .int .i64 x36 ∧
 (cond (many != x36) (R (.int .i64 220) w12) (R (.int .i64 0) w12))))))))))))))))))))))
theorem c26 (ga : Option Addr) (gn gc : Nat) (g2a : Option Addr) (g2n g2c : Nat) {w : World} {R : Value → World → Prop} (hV : V26 ga gn gc g2a g2n g2c w R) : Cl Tryz.prog 26 #[.agg #[.slice ga gn gc, .slice g2a g2n g2c]] w R :=
 fn_sound hmTryz (TT := []) (f := 26) Tryz.func26 (ent_of Tryz.func26 (by kernel_rfl) rfl) (Eq.mpr (by kernel_rfl) hV)
/-- windrose/types.Has -/
def V27 (la : Option Addr) (ln lc : Nat) (id : Int) (w : World) (R : Value → World → Prop) : Prop :=
 ∀ (b : Nat) (w1 : World), b = w.heap.size → w1 = w.alloc (.cells #[.int .u64 id] 32) →
 (∀ (b2 : Nat) (w2 : World), b2 = w1.heap.size → w2 = w1.alloc (.cells #[.bool false] 4) →
 (Cl Tryz.prog 77 #[.slice la ln lc, .func (.func 78) #[] #[.pointer (some (Addr.mk b 0 none))]] w2 fun v w3 => ∃ (x1f : FuncId) (x1c : List Value), v = .func (.func x1f) #[] x1c.toArray ∧
 (∃ (xs : List (List Value)) (Kp : World → World → Prop) (I : List (List Value) → World → Prop) (Ix : Option Nat → List (List Value) → World → Prop), (Enters Tryz.prog x1f ∧ Seqs Tryz.prog x1f x1c xs Kp w3 ∧
 (∀ vs ∈ xs, hasT Tryz.prog [32] vs) ∧ KeepOk w3 Kp ∧ OwnFrom w3.heap.size I ∧
 (∀ e, OwnFrom w3.heap.size (Ix e)) ∧ I [] w3) ∧
 (∀ (pre : List (List Value)) (w4 : World), ∀ (e : Int), [.int .u64 e] ∈ xs → pre.length < xs.length → I pre w4 → ((w4.cell? (Addr.mk b2 0 none)).isSome = true ∧ w4.frozen? (Addr.mk b2 0 none) = false ∧
 (∀ w5 : World, w5 = w4.setCell (Addr.mk b2 0 none) (.bool true) → (KeepsFrom w3.heap.size w4 w5 ∧ Ix none (pre ++ [[.int .u64 e]]) w5)))) ∧
 (∀ (d : Nat) (w6 : World), w3.heap.size ≤ d → I xs w6 → w6.heap[d]? = some (.deferred (some [])) → ((w6.cell? (Addr.mk b2 0 none)).isSome = true ∧ w6.frozen? (Addr.mk b2 0 none) = false ∧
 (∀ w7 : World, w7 = w6.setCell (Addr.mk b2 0 none) (.bool false) → (w7.heap[d]? = some (.deferred (some [])) ∧ ∀ w8 : World, w8 = w7.putObj d (.deferred none) →
 (∃ (r : Bool), w8.cell? (Addr.mk b2 0 none) = some (.bool r) ∧ (R (.bool r) w8)))))) ∧
 (∀ (d : Nat) (pre : List (List Value)) (w6 : World), w3.heap.size ≤ d → pre <+: xs → Ix none pre w6 → w6.heap[d]? = some (.deferred (some [])) → (w6.heap[d]? = some (.deferred (some [])) ∧ ∀ w9 : World, w9 = w6.putObj d (.deferred none) →
 (∃ (r2 : Bool), w9.cell? (Addr.mk b2 0 none) = some (.bool r2) ∧ (R (.bool r2) w9)))) ∧ (True))))
theorem c27 (la : Option Addr) (ln lc : Nat) (id : Int) {w : World} {R : Value → World → Prop} (hV : V27 la ln lc id w R) : Cl Tryz.prog 27 #[.slice la ln lc, .int .u64 id] w R :=
 fn_sound hmTryz (TT := [(8, 32)]) (f := 27) Tryz.func27 (ent_of Tryz.func27 (by kernel_rfl) rfl) (Eq.mpr (by kernel_rfl) hV)
/-- slices.Equal[[]int,int] -/
def V28 (s1a : Option Addr) (s1n s1c : Nat) (s2a : Option Addr) (s2n s2c : Nat) (w : World) (R : Value → World → Prop) : Prop :=
 cond ((s1n : Int) != (s2n : Int)) (R (.bool false) w) (∃ (Jv : Bool → Int → World → Prop) (mu : Bool → Int → World → Nat), Jv false 0 w ∧ ∀ (jk_ : Nat → Value) (w1 : World), ∀ (s4 : Bool) (s13 : Int), Jv s4 s13 w1 →
 (cond (decide (s13 < (s1n : Int))) (∀ w2 : World, w2 = w1.drew →
 (∃ p : Addr, s1a = some p ∧ 0 ≤ s13 ∧ s13 < (s1n : Int) ∧
 (∃ (x1 : Int), w2.cell? (p.add ((s13).toNat * 1)) = some (.int .i64 x1) ∧
 (∃ p2 : Addr, s2a = some p2 ∧ 0 ≤ s13 ∧ s13 < (s2n : Int) ∧
 (∃ (x2 : Int), w2.cell? (p2.add ((s13).toNat * 1)) = some (.int .i64 x2) ∧
 (cond (x1 != x2) (R (.bool false) w2) (Jv s4 (IntKind.i64.wrap (s13 + 1)) w2 ∧ mu s4 (IntKind.i64.wrap (s13 + 1)) w2 < mu s4 s13 w1))))))) (R (.bool true) w1)))
theorem c28 (s1a : Option Addr) (s1n s1c : Nat) (s2a : Option Addr) (s2n s2c : Nat) {w : World} {R : Value → World → Prop} (hV : V28 s1a s1n s1c s2a s2n s2c w R) : Cl Tryz.prog 28 #[.slice s1a s1n s1c, .slice s2a s2n s2c] w R :=
 fn_sound hmTryz (TT := []) (f := 28) Tryz.func28 (ent_of Tryz.func28 (by kernel_rfl) rfl) (Eq.mpr (by kernel_rfl) hV)
/-- windrose/graph.Used -/
def V29 (ga : Option Addr) (gn gc : Nat) (g2a : Option Addr) (g2n g2c : Nat) (w : World) (R : Value → World → Prop) : Prop :=
 ∀ (b : Nat) (w1 : World), b = w.heap.size → w1 = w.alloc (.cells #[.slice ga gn gc, .slice g2a g2n g2c] 27) →
 (∃ (x1a : Option Addr) (x1n x1c : Nat) (x2a : Option Addr) (x2n x2c : Nat), w1.cell? (Addr.mk b 0 none) = some (.slice x1a x1n x1c) ∧ w1.cell? ((Addr.mk b 0 none).add 1) = some (.slice x2a x2n x2c) ∧
 (Cl Tryz.prog 26 #[.agg #[.slice x1a x1n x1c, .slice x2a x2n x2c]] w1 fun v w2 => ∃ (x3 : Int), v = .int .i64 x3 ∧
 (cond (x3 != 0) (R (.slice none 0 0) w2) (∀ (b2 : Nat) (w3 : World), b2 = w2.heap.size → w3 = w2.alloc (.cells #[.slice none 0 0] 64) →
 (∃ (x4a : Option Addr) (x4n x4c : Nat) (x5a : Option Addr) (x5n x5c : Nat), w3.cell? (Addr.mk b 0 none) = some (.slice x4a x4n x4c) ∧ w3.cell? ((Addr.mk b 0 none).add 1) = some (.slice x5a x5n x5c) ∧
 (Cl Tryz.prog 79 #[.agg #[.slice x4a x4n x4c, .slice x5a x5n x5c]] w3 fun v2 w4 => ∃ (x6f : FuncId) (x6c : List Value), v2 = .func (.func x6f) #[] x6c.toArray ∧
 (∃ (xs : List (List Value)) (Kp : World → World → Prop) (I : List (List Value) → World → Prop) (Ix : Option Nat → List (List Value) → World → Prop), (Enters Tryz.prog x6f ∧ Seqs Tryz.prog x6f x6c xs Kp w4 ∧
 (∀ vs ∈ xs, hasT Tryz.prog [3, 56] vs) ∧ KeepOk w4 Kp ∧ OwnFrom w4.heap.size I ∧
 (∀ e, OwnFrom w4.heap.size (Ix e)) ∧ I [] w4) ∧
 (∀ (pre : List (List Value)) (w5 : World), ∀ (e : Int) (e2 : Bool) (e3a : Option Addr) (e3n e3c : Nat) (e4a : Option Addr) (e4n e4c : Nat) (e5a : Option Addr) (e5n e5c : Nat), [.int .i64 e, .agg #[.bool e2, .slice e3a e3n e3c, .slice e4a e4n e4c, .slice e5a e5n e5c]] ∈ xs → pre.length < xs.length → I pre w5 →
 (∃ (x7a : Option Addr) (x7n x7c : Nat), w5.cell? (Addr.mk b2 0 none) = some (.slice x7a x7n x7c) ∧
 (∀ (b3 : Nat) (w6 : World), b3 = w5.heap.size → w6 = w5.alloc (.cells #[.int .i64 e] 3) →
 (∃ (x8a : Option Addr) (x8n x8c : Nat) (w7 : World), Sem.run Tryz.prog (Builtin.append_ #[64, 64] 64 #[.slice x7a x7n x7c, .slice (some (Addr.mk b3 0 none)) 1 1]) w6 = .ok (.slice x8a x8n x8c) w7 ∧ ((w7.cell? (Addr.mk b2 0 none)).isSome = true ∧ w7.frozen? (Addr.mk b2 0 none) = false ∧
 (∀ w8 : World, w8 = w7.setCell (Addr.mk b2 0 none) (.slice x8a x8n x8c) → (KeepsFrom w4.heap.size w5 w8 ∧ Kp w5 w8 ∧ I (pre ++ [[.int .i64 e, .agg #[.bool e2, .slice e3a e3n e3c, .slice e4a e4n e4c, .slice e5a e5n e5c]]]) w8))))))) ∧
 (∀ (d : Nat) (w9 : World), w4.heap.size ≤ d → I xs w9 → w9.heap[d]? = some (.deferred (some [])) →
 (∃ (x9a : Option Addr) (x9n x9c : Nat), w9.cell? (Addr.mk b2 0 none) = some (.slice x9a x9n x9c) ∧ (w9.heap[d]? = some (.deferred (some [])) ∧ ∀ w10 : World, w10 = w9.putObj d (.deferred none) → (R (.slice x9a x9n x9c) w10)))) ∧
 (∀ (d : Nat) (pre : List (List Value)) (w9 : World), w4.heap.size ≤ d → pre <+: xs → Ix none pre w9 → w9.heap[d]? = some (.deferred (some [])) → (w9.heap[d]? = some (.deferred (some [])) ∧ ∀ w11 : World, w11 = w9.putObj d (.deferred none) → (R (.slice none 0 0) w11))) ∧ (True))))))))
theorem c29 (ga : Option Addr) (gn gc : Nat) (g2a : Option Addr) (g2n g2c : Nat) {w : World} {R : Value → World → Prop} (hV : V29 ga gn gc g2a g2n g2c w R) : Cl Tryz.prog 29 #[.agg #[.slice ga gn gc, .slice g2a g2n g2c]] w R :=
 fn_sound hmTryz (TT := [(10, 3), (11, 56)]) (f := 29) Tryz.func29 (ent_of Tryz.func29 (by kernel_rfl) rfl) (Eq.mpr (by kernel_rfl) hV)
/-- windrose/graph.New -/
def V34  (w : World) (R : Value → World → Prop) : Prop :=
 ∀ (b : Nat) (w1 : World), b = w.heap.size → w1 = w.alloc (.cells #[.slice none 0 0, .slice none 0 0] 27) →
 (Cl Tryz.prog 88 #[] w1 fun v w2 => ∃ (x1a : Option Addr) (x1n x1c : Nat), v = .agg #[.slice x1a x1n x1c] ∧
 (Cl Tryz.prog 87 #[.agg #[.slice x1a x1n x1c], .slice none 0 0, .int .i64 1] w2 fun v2 w3 => ∃ (x2a : Option Addr) (x2n x2c : Nat) (x3 : Int), v2 = .tuple #[.agg #[.slice x2a x2n x2c], .int .i64 x3] ∧
 (∀ (b2 : Nat) (w4 : World), b2 = w3.heap.size → w4 = w3.alloc (.cells #[.slice none 0 0] 25) → ((w4.cell? (Addr.mk b2 0 none)).isSome = true ∧ w4.frozen? (Addr.mk b2 0 none) = false ∧
 (∀ w5 : World, w5 = w4.setCell (Addr.mk b2 0 none) (.slice x2a x2n x2c) →
 (∀ (b3 : Nat) (w6 : World), b3 = w5.heap.size → w6 = w5.alloc (.cells #[.bool true, .slice none 0 0, .slice none 0 0, .slice none 0 0] 56) →
 (∃ (x4a : Option Addr) (x4n x4c : Nat), w6.cell? (Addr.mk b2 0 none) = some (.slice x4a x4n x4c) ∧ ((w6.cell? (Addr.mk b 0 none)).isSome = true ∧ w6.frozen? (Addr.mk b 0 none) = false ∧ ((w6.cell? ((Addr.mk b 0 none).add 1)).isSome = true ∧ w6.frozen? ((Addr.mk b 0 none).add 1) = false ∧
 (∀ w7 : World, w7 = (w6.setCell (Addr.mk b 0 none) (.slice (some (Addr.mk b3 0 none)) 1 1)).setCell ((Addr.mk b 0 none).add 1) (.slice x4a x4n x4c) →
 (∃ (ra : Option Addr) (rn rc : Nat) (r2a : Option Addr) (r2n r2c : Nat), w7.cell? (Addr.mk b 0 none) = some (.slice ra rn rc) ∧ w7.cell? ((Addr.mk b 0 none).add 1) = some (.slice r2a r2n r2c) ∧ (R (.agg #[.slice ra rn rc, .slice r2a r2n r2c]) w7))))))))))))
theorem c34  {w : World} {R : Value → World → Prop} (hV : V34  w R) : Cl Tryz.prog 34 #[] w R :=
 fn_sound hmTryz (TT := []) (f := 34) Tryz.func34 (ent_of Tryz.func34 (by kernel_rfl) rfl) (Eq.mpr (by kernel_rfl) hV)
/-- windrose/windroseref12.Is -/
def V36 (la : Option Addr) (ln lc : Nat) (n : Int) (w : World) (R : Value → World → Prop) : Prop :=
 cond (decide (1 ≤ n))
 (cond (decide (n ≤ (ln : Int))) (∃ p : Addr, la = some p ∧ 0 ≤ (IntKind.i64.wrap (n - 1)) ∧ (IntKind.i64.wrap (n - 1)) < (ln : Int) ∧
 (∃ (x1 : Bool), w.cell? (p.add (((IntKind.i64.wrap (n - 1))).toNat * 4)) = some (.bool x1) ∧ (R (.bool x1) w))) (R (.bool false) w)) (R (.bool false) w)
theorem c36 (la : Option Addr) (ln lc : Nat) (n : Int) {w : World} {R : Value → World → Prop} (hV : V36 la ln lc n w R) : Cl Tryz.prog 36 #[.slice la ln lc, .int .i64 n] w R :=
 fn_sound hmTryz (TT := []) (f := 36) Tryz.func36 (ent_of Tryz.func36 (by kernel_rfl) rfl) (Eq.mpr (by kernel_rfl) hV)
end Go.Eng
