/- Part 2 of the proof of GraphOrderSaid. What is proved: what a call of each function leaves. Conditions: those that each theorem names. -/
import Derived.Test.YtfcnkaignjdpgaaGreatA1
set_option linter.unusedVariables false
set_option linter.unusedSimpArgs false
set_option linter.unusedSectionVars false
namespace Go.Eng
open Go Go.Proofs
set_option maxRecDepth 100000
set_option maxHeartbeats 4000000
/-- windrose/graph.Drop -/
def V17 (ga : Option Addr) (gn gc : Nat) (g2a : Option Addr) (g2n g2c : Nat) (n : Int) (w : World) (R : Value → World → Prop) : Prop :=
 ∀ (b : Nat) (w1 : World), b = w.heap.size → w1 = w.alloc (.cells #[.slice ga gn gc, .slice g2a g2n g2c] 27) →
 (∀ (b2 : Nat) (w2 : World), b2 = w1.heap.size → w2 = w1.alloc (.cells #[.int .i64 n] 3) →
 (∀ (b3 : Nat) (w3 : World), b3 = w2.heap.size → w3 = w2.alloc (.cells #[.slice none 0 0, .slice none 0 0] 27) →
 (∃ (x1a : Option Addr) (x1n x1c : Nat) (x2a : Option Addr) (x2n x2c : Nat), w3.cell? (Addr.mk b 0 none) = some (.slice x1a x1n x1c) ∧ w3.cell? ((Addr.mk b 0 none).add 1) = some (.slice x2a x2n x2c) ∧
 (Cl Tryz.prog 26 #[.agg #[.slice x1a x1n x1c, .slice x2a x2n x2c]] w3 fun v w4 => ∃ (x3 : Int), v = .int .i64 x3 ∧
 (cond (x3 != 0) ((w4.cell? (Addr.mk b3 0 none)).isSome = true ∧ w4.frozen? (Addr.mk b3 0 none) = false ∧ ((w4.cell? ((Addr.mk b3 0 none).add 1)).isSome = true ∧ w4.frozen? ((Addr.mk b3 0 none).add 1) = false ∧
 (∀ w5 : World, w5 = (w4.setCell (Addr.mk b3 0 none) (.slice none 0 0)).setCell ((Addr.mk b3 0 none).add 1) (.slice none 0 0) →
 (∃ (ra : Option Addr) (rn rc : Nat) (r2a : Option Addr) (r2n r2c : Nat), w5.cell? (Addr.mk b3 0 none) = some (.slice ra rn rc) ∧ w5.cell? ((Addr.mk b3 0 none).add 1) = some (.slice r2a r2n r2c) ∧ (R (.tuple #[.agg #[.slice ra rn rc, .slice r2a r2n r2c], .int .i64 x3]) w5))))) (∃ (x4a : Option Addr) (x4n x4c : Nat) (x5a : Option Addr) (x5n x5c : Nat), w4.cell? (Addr.mk b 0 none) = some (.slice x4a x4n x4c) ∧ w4.cell? ((Addr.mk b 0 none).add 1) = some (.slice x5a x5n x5c) ∧
 (∃ (x6 : Int), w4.cell? (Addr.mk b2 0 none) = some (.int .i64 x6) ∧
 (Cl Tryz.prog 60 #[.agg #[.slice x4a x4n x4c, .slice x5a x5n x5c], .int .i64 x6] w4 fun v2 w6 => ∃ (x7 : Bool), v2 = .bool x7 ∧
 (cond (!x7) ((w6.cell? (Addr.mk b3 0 none)).isSome = true ∧ w6.frozen? (Addr.mk b3 0 none) = false ∧ ((w6.cell? ((Addr.mk b3 0 none).add 1)).isSome = true ∧ w6.frozen? ((Addr.mk b3 0 none).add 1) = false ∧
 (∀ w7 : World, w7 = (w6.setCell (Addr.mk b3 0 none) (.slice none 0 0)).setCell ((Addr.mk b3 0 none).add 1) (.slice none 0 0) →
 (∃ (r3a : Option Addr) (r3n r3c : Nat) (r4a : Option Addr) (r4n r4c : Nat), w7.cell? (Addr.mk b3 0 none) = some (.slice r3a r3n r3c) ∧ w7.cell? ((Addr.mk b3 0 none).add 1) = some (.slice r4a r4n r4c) ∧ (R (.tuple #[.agg #[.slice r3a r3n r3c, .slice r4a r4n r4c], .int .i64 2]) w7))))) (∃ (x8 : Int), w6.cell? (Addr.mk b2 0 none) = some (.int .i64 x8) ∧
 (cond (x8 == 1) ((w6.cell? (Addr.mk b3 0 none)).isSome = true ∧ w6.frozen? (Addr.mk b3 0 none) = false ∧ ((w6.cell? ((Addr.mk b3 0 none).add 1)).isSome = true ∧ w6.frozen? ((Addr.mk b3 0 none).add 1) = false ∧
 (∀ w8 : World, w8 = (w6.setCell (Addr.mk b3 0 none) (.slice none 0 0)).setCell ((Addr.mk b3 0 none).add 1) (.slice none 0 0) →
 (∃ (r5a : Option Addr) (r5n r5c : Nat) (r6a : Option Addr) (r6n r6c : Nat), w8.cell? (Addr.mk b3 0 none) = some (.slice r5a r5n r5c) ∧ w8.cell? ((Addr.mk b3 0 none).add 1) = some (.slice r6a r6n r6c) ∧ (R (.tuple #[.agg #[.slice r5a r5n r5c, .slice r6a r6n r6c], .int .i64 2]) w8))))) (∀ w9 : World, w9 = w6.drew →
 (∃ (x9a : Option Addr) (x9n x9c : Nat), w9.cell? ((Addr.mk b 0 none).add 1) = some (.slice x9a x9n x9c) ∧
 (∃ (x10a : Option Addr) (x10n x10c : Nat), w9.cell? (Addr.mk b 0 none) = some (.slice x10a x10n x10c) ∧
 (∃ (x11 : Int), w9.cell? (Addr.mk b2 0 none) = some (.int .i64 x11) ∧
 (∃ p : Addr, x10a = some p ∧ 0 ≤ (IntKind.i64.wrap (x11 - 1)) ∧ (IntKind.i64.wrap (x11 - 1)) < (x10n : Int) ∧
 (∃ (x12a : Option Addr) (x12n x12c : Nat), w9.cell? ((p.add (((IntKind.i64.wrap (x11 - 1))).toNat * 4)).add 1) = some (.slice x12a x12n x12c) ∧
 (Cl Tryz.prog 61 #[.agg #[.slice x9a x9n x9c], .slice x12a x12n x12c] w9 fun v3 w10 => ∃ (x13a : Option Addr) (x13n x13c : Nat) (x14 : Int), v3 = .tuple #[.agg #[.slice x13a x13n x13c], .int .i64 x14] ∧
 (∀ (b4 : Nat) (w11 : World), b4 = w10.heap.size → w11 = w10.alloc (.cells #[.slice none 0 0] 25) → (w11.cell? ((p.add (((IntKind.i64.wrap (x11 - 1))).toNat * 4)).add 1) = some (.slice x12a x12n x12c) ∧ w11.cell? (Addr.mk b2 0 none) = some (.int .i64 x11) ∧ w11.cell? (Addr.mk b 0 none) = some (.slice x10a x10n x10c) ∧ w11.cell? ((Addr.mk b 0 none).add 1) = some (.slice x9a x9n x9c) ∧ ((w11.cell? (Addr.mk b4 0 none)).isSome = true ∧ w11.frozen? (Addr.mk b4 0 none) = false ∧
 (∀ w12 : World, w12 = w11.setCell (Addr.mk b4 0 none) (.slice x13a x13n x13c) →
 (cond (x14 != 0) ((w12.cell? (Addr.mk b3 0 none)).isSome = true ∧ w12.frozen? (Addr.mk b3 0 none) = false ∧ ((w12.cell? ((Addr.mk b3 0 none).add 1)).isSome = true ∧ w12.frozen? ((Addr.mk b3 0 none).add 1) = false ∧
 (∀ w13 : World, w13 = (w12.setCell (Addr.mk b3 0 none) (.slice none 0 0)).setCell ((Addr.mk b3 0 none).add 1) (.slice none 0 0) →
 (∃ (r7a : Option Addr) (r7n r7c : Nat) (r8a : Option Addr) (r8n r8c : Nat), w13.cell? (Addr.mk b3 0 none) = some (.slice r7a r7n r7c) ∧ w13.cell? ((Addr.mk b3 0 none).add 1) = some (.slice r8a r8n r8c) ∧ (R (.tuple #[.agg #[.slice r7a r7n r7c, .slice r8a r8n r8c], .int .i64 x14]) w13))))) (∃ (x15a : Option Addr) (x15n x15c : Nat), w12.cell? (Addr.mk b4 0 none) = some (.slice x15a x15n x15c) ∧ ((w12.cell? ((Addr.mk b 0 none).add 1)).isSome = true ∧ w12.frozen? ((Addr.mk b 0 none).add 1) = false ∧
 (∀ w14 : World, w14 = w12.setCell ((Addr.mk b 0 none).add 1) (.slice x15a x15n x15c) →
 (∃ (x16a : Option Addr) (x16n x16c : Nat) (x17a : Option Addr) (x17n x17c : Nat), w14.cell? (Addr.mk b 0 none) = some (.slice x16a x16n x16c) ∧ w14.cell? ((Addr.mk b 0 none).add 1) = some (.slice x17a x17n x17c) ∧
 (Cl Tryz.prog 62 #[.agg #[.slice x16a x16n x16c, .slice x17a x17n x17c]] w14 fun v4 w15 => ∃ (x18a : Option Addr) (x18n x18c : Nat) (x19a : Option Addr) (x19n x19c : Nat), v4 = .agg #[.slice x18a x18n x18c, .slice x19a x19n x19c] ∧ ((w15.cell? (Addr.mk b 0 none)).isSome = true ∧ w15.frozen? (Addr.mk b 0 none) = false ∧ ((w15.cell? ((Addr.mk b 0 none).add 1)).isSome = true ∧ w15.frozen? ((Addr.mk b 0 none).add 1) = false ∧
 (∀ w16 : World, w16 = (w15.setCell (Addr.mk b 0 none) (.slice x18a x18n x18c)).setCell ((Addr.mk b 0 none).add 1) (.slice x19a x19n x19c) →
 (∃ (x20a : Option Addr) (x20n x20c : Nat), w16.cell? (Addr.mk b 0 none) = some (.slice x20a x20n x20c) ∧
 (∃ (x21 : Int), w16.cell? (Addr.mk b2 0 none) = some (.int .i64 x21) ∧
 (∃ p2 : Addr, x20a = some p2 ∧ 0 ≤ (IntKind.i64.wrap (x21 - 1)) ∧ (IntKind.i64.wrap (x21 - 1)) < (x20n : Int) ∧ ((w16.cell? (p2.add (((IntKind.i64.wrap (x21 - 1))).toNat * 4))).isSome = true ∧ w16.frozen? (p2.add (((IntKind.i64.wrap (x21 - 1))).toNat * 4)) = false ∧ ((w16.cell? ((p2.add (((IntKind.i64.wrap (x21 - 1))).toNat * 4)).add 1)).isSome = true ∧ w16.frozen? ((p2.add (((IntKind.i64.wrap (x21 - 1))).toNat * 4)).add 1) = false ∧ ((w16.cell? ((p2.add (((IntKind.i64.wrap (x21 - 1))).toNat * 4)).add 2)).isSome = true ∧ w16.frozen? ((p2.add (((IntKind.i64.wrap (x21 - 1))).toNat * 4)).add 2) = false ∧ ((w16.cell? ((p2.add (((IntKind.i64.wrap (x21 - 1))).toNat * 4)).add 3)).isSome = true ∧ w16.frozen? ((p2.add (((IntKind.i64.wrap (x21 - 1))).toNat * 4)).add 3) = false ∧
 (∀ w17 : World, w17 = (((w16.setCell (p2.add (((IntKind.i64.wrap (x21 - 1))).toNat * 4)) (.bool false)).setCell ((p2.add (((IntKind.i64.wrap (x21 - 1))).toNat * 4)).add 1) (.slice none 0 0)).setCell ((p2.add (((IntKind.i64.wrap (x21 - 1))).toNat * 4)).add 2) (.slice none 0 0)).setCell ((p2.add (((IntKind.i64.wrap (x21 - 1))).toNat * 4)).add 3) (.slice none 0 0) →
 (∃ (x22a : Option Addr) (x22n x22c : Nat), w17.cell? (Addr.mk b 0 none) = some (.slice x22a x22n x22c) ∧
 (∃ (Jv : Int → World → Prop) (mu : Int → World → Nat), Jv 0 w17 ∧ ∀ (jk_ : Nat → Value) (w18 : World), ∀ (s58 : Int), Jv s58 w18 →
 (cond (decide (s58 < (x22n : Int))) (∀ w19 : World, w19 = w18.drew →
 (∃ (x23a : Option Addr) (x23n x23c : Nat), w19.cell? (Addr.mk b 0 none) = some (.slice x23a x23n x23c) ∧
 (∃ (x24a : Option Addr) (x24n x24c : Nat), w19.cell? (Addr.mk b 0 none) = some (.slice x24a x24n x24c) ∧
 (∃ (x25a : Option Addr) (x25n x25c : Nat), w19.cell? (Addr.mk b 0 none) = some (.slice x25a x25n x25c) ∧
 (∃ p3 : Addr, x25a = some p3 ∧ 0 ≤ s58 ∧ s58 < (x25n : Int) ∧
 (∃ (x26a : Option Addr) (x26n x26c : Nat), w19.cell? ((p3.add ((s58).toNat * 4)).add 2) = some (.slice x26a x26n x26c) ∧
 (∃ (x27a : Option Addr) (x27n x27c : Nat), w19.cell? (Addr.mk b 0 none) = some (.slice x27a x27n x27c) ∧
 (∃ p4 : Addr, x27a = some p4 ∧ 0 ≤ s58 ∧ s58 < (x27n : Int) ∧
 (∃ (x28a : Option Addr) (x28n x28c : Nat), w19.cell? ((p4.add ((s58).toNat * 4)).add 3) = some (.slice x28a x28n x28c) ∧
 (Cl Tryz.prog 64 #[.slice x26a x26n x26c, .func (.func 63) #[] #[.pointer (some (Addr.mk b2 0 none))]] w19 fun v5 w20 => ∃ (x29a : Option Addr) (x29n x29c : Nat), v5 = .slice x29a x29n x29c ∧ (w20.cell? ((p4.add ((s58).toNat * 4)).add 3) = some (.slice x28a x28n x28c) ∧ w20.cell? (Addr.mk b 0 none) = some (.slice x27a x27n x27c) ∧ w20.cell? (Addr.mk b 0 none) = some (.slice x24a x24n x24c) ∧ w20.cell? (Addr.mk b 0 none) = some (.slice x23a x23n x23c) ∧
 (Cl Tryz.prog 64 #[.slice x28a x28n x28c, .func (.func 63) #[] #[.pointer (some (Addr.mk b2 0 none))]] w20 fun v6 w21 => ∃ (x30a : Option Addr) (x30n x30c : Nat), v6 = .slice x30a x30n x30c ∧ (w21.cell? (Addr.mk b 0 none) = some (.slice x24a x24n x24c) ∧ w21.cell? (Addr.mk b 0 none) = some (.slice x23a x23n x23c) ∧
 (∃ p5 : Addr, x23a = some p5 ∧ 0 ≤ s58 ∧ s58 < (x23n : Int) ∧ ((w21.cell? ((p5.add ((s58).toNat * 4)).add 2)).isSome = true ∧ w21.frozen? ((p5.add ((s58).toNat * 4)).add 2) = false ∧
 (∀ w22 : World, w22 = w21.setCell ((p5.add ((s58).toNat * 4)).add 2) (.slice x29a x29n x29c) → (w22.cell? (Addr.mk b 0 none) = some (.slice x24a x24n x24c) ∧
 (∃ p6 : Addr, x24a = some p6 ∧ 0 ≤ s58 ∧ s58 < (x24n : Int) ∧ ((w22.cell? ((p6.add ((s58).toNat * 4)).add 3)).isSome = true ∧ w22.frozen? ((p6.add ((s58).toNat * 4)).add 3) = false ∧
 (∀ w23 : World, w23 = w22.setCell ((p6.add ((s58).toNat * 4)).add 3) (.slice x30a x30n x30c) → (Jv (IntKind.i64.wrap (s58 + 1)) w23 ∧ mu (IntKind.i64.wrap (s58 + 1)) w23 < mu s58 w18))))))))))))))))))))) (∃ (x31a : Option Addr) (x31n x31c : Nat), w18.cell? (Addr.mk b 0 none) = some (.slice x31a x31n x31c) ∧
 (∃ (Jv2 : Int → World → Prop) (mu2 : Int → World → Nat), Jv2 (x31n : Int) w18 ∧ ∀ (jk_2 : Nat → Value) (w24 : World), ∀ (last : Int), Jv2 last w24 →
 (∃ (x32a : Option Addr) (x32n x32c : Nat) (x33a : Option Addr) (x33n x33c : Nat), w24.cell? (Addr.mk b 0 none) = some (.slice x32a x32n x32c) ∧ w24.cell? ((Addr.mk b 0 none).add 1) = some (.slice x33a x33n x33c) ∧
 (Cl Tryz.prog 60 #[.agg #[.slice x32a x32n x32c, .slice x33a x33n x33c], .int .i64 last] w24 fun v7 w25 => ∃ (x34 : Bool), v7 = .bool x34 ∧
 (cond (!x34) (Jv2 (IntKind.i64.wrap (last - 1)) w25 ∧ mu2 (IntKind.i64.wrap (last - 1)) w25 < mu2 last w24) (∃ (x35a : Option Addr) (x35n x35c : Nat), w25.cell? (Addr.mk b 0 none) = some (.slice x35a x35n x35c) ∧ (0 ≤ last ∧ last ≤ (x35c : Int) ∧ (0 ≤ last ∧ last ≤ last ∧ ((w25.cell? (Addr.mk b 0 none)).isSome = true ∧ w25.frozen? (Addr.mk b 0 none) = false ∧
 (∀ w26 : World, w26 = w25.setCell (Addr.mk b 0 none) (.slice x35a ((last).toNat) ((last).toNat)) →
 (∃ (x36a : Option Addr) (x36n x36c : Nat) (x37a : Option Addr) (x37n x37c : Nat), w26.cell? (Addr.mk b 0 none) = some (.slice x36a x36n x36c) ∧ w26.cell? ((Addr.mk b 0 none).add 1) = some (.slice x37a x37n x37c) ∧ ((w26.cell? (Addr.mk b3 0 none)).isSome = true ∧ w26.frozen? (Addr.mk b3 0 none) = false ∧ ((w26.cell? ((Addr.mk b3 0 none).add 1)).isSome = true ∧ w26.frozen? ((Addr.mk b3 0 none).add 1) = false ∧
 (∀ w27 : World, w27 = (w26.setCell (Addr.mk b3 0 none) (.slice x36a x36n x36c)).setCell ((Addr.mk b3 0 none).add 1) (.slice x37a x37n x37c) →
 (∃ (r9a : Option Addr) (r9n r9c : Nat) (r10a : Option Addr) (r10n r10c : Nat), w27.cell? (Addr.mk b3 0 none) = some (.slice r9a r9n r9c) ∧ w27.cell? ((Addr.mk b3 0 none).add 1) = some (.slice r10a r10n r10c) ∧ (R (.tuple #[.agg #[.slice r9a r9n r9c, .slice r10a r10n r10c], .int .i64 0]) w27)))))))))))))))))))))))))))))))))))))))))))))) ∧
 (∃ (x38a : Option Addr) (x38n x38c : Nat), w9.cell? ((Addr.mk b 0 none).add 1) = some (.slice x38a x38n x38c) ∧
 (∃ (x39a : Option Addr) (x39n x39c : Nat), w9.cell? (Addr.mk b 0 none) = some (.slice x39a x39n x39c) ∧
 (∃ (x40 : Int), w9.cell? (Addr.mk b2 0 none) = some (.int .i64 x40) ∧
 (∃ p7 : Addr, x39a = some p7 ∧ 0 ≤ (IntKind.i64.wrap (x40 - 1)) ∧ (IntKind.i64.wrap (x40 - 1)) < (x39n : Int) ∧
 (∃ (x41a : Option Addr) (x41n x41c : Nat), w9.cell? ((p7.add (((IntKind.i64.wrap (x40 - 1))).toNat * 4)).add 1) = some (.slice x41a x41n x41c) ∧
 (∀ (b5 : Nat) (w28 : World), b5 = w9.heap.size → w28 = w9.alloc (.cells #[.slice none 0 0] 25) → (w28.cell? ((p7.add (((IntKind.i64.wrap (x40 - 1))).toNat * 4)).add 1) = some (.slice x41a x41n x41c) ∧ w28.cell? (Addr.mk b2 0 none) = some (.int .i64 x40) ∧ w28.cell? (Addr.mk b 0 none) = some (.slice x39a x39n x39c) ∧ w28.cell? ((Addr.mk b 0 none).add 1) = some (.slice x38a x38n x38c) ∧
 (Cl Tryz.prog 61 #[.agg #[.slice x38a x38n x38c], .slice x41a x41n x41c] w28 fun v8 w29 => ∃ (x42a : Option Addr) (x42n x42c : Nat) (x43 : Int), v8 = .tuple #[.agg #[.slice x42a x42n x42c], .int .i64 x43] ∧ ((w29.cell? (Addr.mk b5 0 none)).isSome = true ∧ w29.frozen? (Addr.mk b5 0 none) = false ∧
 (∀ w30 : World, w30 = w29.setCell (Addr.mk b5 0 none) (.slice x42a x42n x42c) →
 (cond (x43 != 0) ((w30.cell? (Addr.mk b3 0 none)).isSome = true ∧ w30.frozen? (Addr.mk b3 0 none) = false ∧ ((w30.cell? ((Addr.mk b3 0 none).add 1)).isSome = true ∧ w30.frozen? ((Addr.mk b3 0 none).add 1) = false ∧
 (∀ w31 : World, w31 = (w30.setCell (Addr.mk b3 0 none) (.slice none 0 0)).setCell ((Addr.mk b3 0 none).add 1) (.slice none 0 0) →
 (∃ (r11a : Option Addr) (r11n r11c : Nat) (r12a : Option Addr) (r12n r12c : Nat), w31.cell? (Addr.mk b3 0 none) = some (.slice r11a r11n r11c) ∧ w31.cell? ((Addr.mk b3 0 none).add 1) = some (.slice r12a r12n r12c) ∧ (R (.tuple #[.agg #[.slice r11a r11n r11c, .slice r12a r12n r12c], .int .i64 x43]) w31))))) (∃ (x44a : Option Addr) (x44n x44c : Nat), w30.cell? (Addr.mk b5 0 none) = some (.slice x44a x44n x44c) ∧ ((w30.cell? ((Addr.mk b 0 none).add 1)).isSome = true ∧ w30.frozen? ((Addr.mk b 0 none).add 1) = false ∧
 (∀ w32 : World, w32 = w30.setCell ((Addr.mk b 0 none).add 1) (.slice x44a x44n x44c) →
 (∃ (x45a : Option Addr) (x45n x45c : Nat) (x46a : Option Addr) (x46n x46c : Nat), w32.cell? (Addr.mk b 0 none) = some (.slice x45a x45n x45c) ∧ w32.cell? ((Addr.mk b 0 none).add 1) = some (.slice x46a x46n x46c) ∧
 (Cl Tryz.prog 62 #[.agg #[.slice x45a x45n x45c, .slice x46a x46n x46c]] w32 fun v9 w33 => ∃ (x47a : Option Addr) (x47n x47c : Nat) (x48a : Option Addr) (x48n x48c : Nat), v9 = .agg #[.slice x47a x47n x47c, .slice x48a x48n x48c] ∧ ((w33.cell? (Addr.mk b 0 none)).isSome = true ∧ w33.frozen? (Addr.mk b 0 none) = false ∧ ((w33.cell? ((Addr.mk b 0 none).add 1)).isSome = true ∧ w33.frozen? ((Addr.mk b 0 none).add 1) = false ∧
 (∀ w34 : World, w34 = (w33.setCell (Addr.mk b 0 none) (.slice x47a x47n x47c)).setCell ((Addr.mk b 0 none).add 1) (.slice x48a x48n x48c) →
 (∃ (x49a : Option Addr) (x49n x49c : Nat), w34.cell? (Addr.mk b 0 none) = some (.slice x49a x49n x49c) ∧
 (∃ (x50 : Int), w34.cell? (Addr.mk b2 0 none) = some (.int .i64 x50) ∧
 (∃ p8 : Addr, x49a = some p8 ∧ 0 ≤ (IntKind.i64.wrap (x50 - 1)) ∧ (IntKind.i64.wrap (x50 - 1)) < (x49n : Int) ∧ ((w34.cell? (p8.add (((IntKind.i64.wrap (x50 - 1))).toNat * 4))).isSome = true ∧ w34.frozen? (p8.add (((IntKind.i64.wrap (x50 - 1))).toNat * 4)) = false ∧ ((w34.cell? ((p8.add (((IntKind.i64.wrap (x50 - 1))).toNat * 4)).add 1)).isSome = true ∧ w34.frozen? ((p8.add (((IntKind.i64.wrap (x50 - 1))).toNat * 4)).add 1) = false ∧ ((w34.cell? ((p8.add (((IntKind.i64.wrap (x50 - 1))).toNat * 4)).add 2)).isSome = true ∧ w34.frozen? ((p8.add (((IntKind.i64.wrap (x50 - 1))).toNat * 4)).add 2) = false ∧ ((w34.cell? ((p8.add (((IntKind.i64.wrap (x50 - 1))).toNat * 4)).add 3)).isSome = true ∧ w34.frozen? ((p8.add (((IntKind.i64.wrap (x50 - 1))).toNat * 4)).add 3) = false ∧
 (∀ w35 : World, w35 = (((w34.setCell (p8.add (((IntKind.i64.wrap (x50 - 1))).toNat * 4)) (.bool false)).setCell ((p8.add (((IntKind.i64.wrap (x50 - 1))).toNat * 4)).add 1) (.slice none 0 0)).setCell ((p8.add (((IntKind.i64.wrap (x50 - 1))).toNat * 4)).add 2) (.slice none 0 0)).setCell ((p8.add (((IntKind.i64.wrap (x50 - 1))).toNat * 4)).add 3) (.slice none 0 0) →
 (∃ (x51a : Option Addr) (x51n x51c : Nat), w35.cell? (Addr.mk b 0 none) = some (.slice x51a x51n x51c) ∧
 (∃ (Jv3 : Int → World → Prop) (mu3 : Int → World → Nat), Jv3 0 w35 ∧ ∀ (jk_3 : Nat → Value) (w36 : World), ∀ (s582 : Int), Jv3 s582 w36 →
 (cond (decide (s582 < (x51n : Int))) (∀ w37 : World, w37 = w36.drew →
 (∃ (x52a : Option Addr) (x52n x52c : Nat), w37.cell? (Addr.mk b 0 none) = some (.slice x52a x52n x52c) ∧
 (∃ (x53a : Option Addr) (x53n x53c : Nat), w37.cell? (Addr.mk b 0 none) = some (.slice x53a x53n x53c) ∧
 (∃ (x54a : Option Addr) (x54n x54c : Nat), w37.cell? (Addr.mk b 0 none) = some (.slice x54a x54n x54c) ∧
 (∃ p9 : Addr, x54a = some p9 ∧ 0 ≤ s582 ∧ s582 < (x54n : Int) ∧
 (∃ (x55a : Option Addr) (x55n x55c : Nat), w37.cell? ((p9.add ((s582).toNat * 4)).add 2) = some (.slice x55a x55n x55c) ∧
 (∃ (x56a : Option Addr) (x56n x56c : Nat), w37.cell? (Addr.mk b 0 none) = some (.slice x56a x56n x56c) ∧
 (∃ p10 : Addr, x56a = some p10 ∧ 0 ≤ s582 ∧ s582 < (x56n : Int) ∧
 (∃ (x57a : Option Addr) (x57n x57c : Nat), w37.cell? ((p10.add ((s582).toNat * 4)).add 3) = some (.slice x57a x57n x57c) ∧
 (Cl Tryz.prog 64 #[.slice x55a x55n x55c, .func (.func 63) #[] #[.pointer (some (Addr.mk b2 0 none))]] w37 fun v10 w38 => ∃ (x58a : Option Addr) (x58n x58c : Nat), v10 = .slice x58a x58n x58c ∧ (w38.cell? ((p10.add ((s582).toNat * 4)).add 3) = some (.slice x57a x57n x57c) ∧ w38.cell? (Addr.mk b 0 none) = some (.slice x56a x56n x56c) ∧ w38.cell? (Addr.mk b 0 none) = some (.slice x53a x53n x53c) ∧ w38.cell? (Addr.mk b 0 none) = some (.slice x52a x52n x52c) ∧
 (Cl Tryz.prog 64 #[.slice x57a x57n x57c, .func (.func 63) #[] #[.pointer (some (Addr.mk b2 0 none))]] w38 fun v11 w39 => ∃ (x59a : Option Addr) (x59n x59c : Nat), v11 = .slice x59a x59n x59c ∧ (w39.cell? (Addr.mk b 0 none) = some (.slice x53a x53n x53c) ∧ w39.cell? (Addr.mk b 0 none) = some (.slice x52a x52n x52c) ∧
 (∃ p11 : Addr, x52a = some p11 ∧ 0 ≤ s582 ∧ s582 < (x52n : Int) ∧ ((w39.cell? ((p11.add ((s582).toNat * 4)).add 2)).isSome = true ∧ w39.frozen? ((p11.add ((s582).toNat * 4)).add 2) = false ∧
 (∀ w40 : World, w40 = w39.setCell ((p11.add ((s582).toNat * 4)).add 2) (.slice x58a x58n x58c) → (w40.cell? (Addr.mk b 0 none) = some (.slice x53a x53n x53c) ∧
 (∃ p12 : Addr, x53a = some p12 ∧ 0 ≤ s582 ∧ s582 < (x53n : Int) ∧ ((w40.cell? ((p12.add ((s582).toNat * 4)).add 3)).isSome = true ∧ w40.frozen? ((p12.add ((s582).toNat * 4)).add 3) = false ∧
 (∀ w41 : World, w41 = w40.setCell ((p12.add ((s582).toNat * 4)).add 3) (.slice x59a x59n x59c) → (Jv3 (IntKind.i64.wrap (s582 + 1)) w41 ∧ mu3 (IntKind.i64.wrap (s582 + 1)) w41 < mu3 s582 w36))))))))))))))))))))) (∃ (x60a : Option Addr) (x60n x60c : Nat), w36.cell? (Addr.mk b 0 none) = some (.slice x60a x60n x60c) ∧
 (∃ (Jv4 : Int → World → Prop) (mu4 : Int → World → Nat), Jv4 (x60n : Int) w36 ∧ ∀ (jk_4 : Nat → Value) (w42 : World), ∀ (last2 : Int), Jv4 last2 w42 →
 (∃ (x61a : Option Addr) (x61n x61c : Nat) (x62a : Option Addr) (x62n x62c : Nat), w42.cell? (Addr.mk b 0 none) = some (.slice x61a x61n x61c) ∧ w42.cell? ((Addr.mk b 0 none).add 1) = some (.slice x62a x62n x62c) ∧
 (Cl Tryz.prog 60 #[.agg #[.slice x61a x61n x61c, .slice x62a x62n x62c], .int .i64 last2] w42 fun v12 w43 => ∃ (x63 : Bool), v12 = .bool x63 ∧
 (cond (!x63) (Jv4 (IntKind.i64.wrap (last2 - 1)) w43 ∧ mu4 (IntKind.i64.wrap (last2 - 1)) w43 < mu4 last2 w42) (∃ (x64a : Option Addr) (x64n x64c : Nat), w43.cell? (Addr.mk b 0 none) = some (.slice x64a x64n x64c) ∧ (0 ≤ last2 ∧ last2 ≤ (x64c : Int) ∧ (0 ≤ last2 ∧ last2 ≤ last2 ∧ ((w43.cell? (Addr.mk b 0 none)).isSome = true ∧ w43.frozen? (Addr.mk b 0 none) = false ∧
 (∀ w44 : World, w44 = w43.setCell (Addr.mk b 0 none) (.slice x64a ((last2).toNat) ((last2).toNat)) →
 (∃ (x65a : Option Addr) (x65n x65c : Nat) (x66a : Option Addr) (x66n x66c : Nat), w44.cell? (Addr.mk b 0 none) = some (.slice x65a x65n x65c) ∧ w44.cell? ((Addr.mk b 0 none).add 1) = some (.slice x66a x66n x66c) ∧ ((w44.cell? (Addr.mk b3 0 none)).isSome = true ∧ w44.frozen? (Addr.mk b3 0 none) = false ∧ ((w44.cell? ((Addr.mk b3 0 none).add 1)).isSome = true ∧ w44.frozen? ((Addr.mk b3 0 none).add 1) = false ∧
 (∀ w45 : World, w45 = (w44.setCell (Addr.mk b3 0 none) (.slice x65a x65n x65c)).setCell ((Addr.mk b3 0 none).add 1) (.slice x66a x66n x66c) →
 (∃ (r13a : Option Addr) (r13n r13c : Nat) (r14a : Option Addr) (r14n r14c : Nat), w45.cell? (Addr.mk b3 0 none) = some (.slice r13a r13n r13c) ∧ w45.cell? ((Addr.mk b3 0 none).add 1) = some (.slice r14a r14n r14c) ∧ (R (.tuple #[.agg #[.slice r13a r13n r13c, .slice r14a r14n r14c], .int .i64 0]) w45))))))))))))))))))))))))))))))))))))))))))))))))))))))))))
theorem c17 (ga : Option Addr) (gn gc : Nat) (g2a : Option Addr) (g2n g2c : Nat) (n : Int) {w : World} {R : Value → World → Prop} (hV : V17 ga gn gc g2a g2n g2c n w R) : Cl Tryz.prog 17 #[.agg #[.slice ga gn gc, .slice g2a g2n g2c], .int .i64 n] w R :=
 fn_sound hmTryz (TT := []) (f := 17) Tryz.func17 (ent_of Tryz.func17 (by kernel_rfl) rfl) (Eq.mpr (by kernel_rfl) hV)
end Go.Eng
namespace Go.Eng
open Go Go.Proofs
set_option maxRecDepth 100000
set_option maxHeartbeats 4000000
/-- slices.Equal[[]windrose/api.Id,windrose/api.Id] -/
def V22 (s1a : Option Addr) (s1n s1c : Nat) (s2a : Option Addr) (s2n s2c : Nat) (w : World) (R : Value → World → Prop) : Prop :=
 cond ((s1n : Int) != (s2n : Int)) (R (.bool false) w) (∃ (Jv : Bool → Int → World → Prop) (mu : Bool → Int → World → Nat), Jv false 0 w ∧ ∀ (jk_ : Nat → Value) (w1 : World), ∀ (s4 : Bool) (s13 : Int), Jv s4 s13 w1 →
 (cond (decide (s13 < (s1n : Int))) (∀ w2 : World, w2 = w1.drew →
 (∃ p : Addr, s1a = some p ∧ 0 ≤ s13 ∧ s13 < (s1n : Int) ∧
 (∃ (x1 : Int), w2.cell? (p.add ((s13).toNat * 1)) = some (.int .u64 x1) ∧
 (∃ p2 : Addr, s2a = some p2 ∧ 0 ≤ s13 ∧ s13 < (s2n : Int) ∧
 (∃ (x2 : Int), w2.cell? (p2.add ((s13).toNat * 1)) = some (.int .u64 x2) ∧
 (cond (x1 != x2) (R (.bool false) w2) (Jv s4 (IntKind.i64.wrap (s13 + 1)) w2 ∧ mu s4 (IntKind.i64.wrap (s13 + 1)) w2 < mu s4 s13 w1))))))) (R (.bool true) w1)))
theorem c22 (s1a : Option Addr) (s1n s1c : Nat) (s2a : Option Addr) (s2n s2c : Nat) {w : World} {R : Value → World → Prop} (hV : V22 s1a s1n s1c s2a s2n s2c w R) : Cl Tryz.prog 22 #[.slice s1a s1n s1c, .slice s2a s2n s2c] w R :=
 fn_sound hmTryz (TT := []) (f := 22) Tryz.func22 (ent_of Tryz.func22 (by kernel_rfl) rfl) (Eq.mpr (by kernel_rfl) hV)
/-- windrose/graph.Type -/
def V24 (ga : Option Addr) (gn gc : Nat) (g2a : Option Addr) (g2n g2c : Nat) (n : Int) (w : World) (R : Value → World → Prop) : Prop :=
 ∀ (b : Nat) (w1 : World), b = w.heap.size → w1 = w.alloc (.cells #[.slice ga gn gc, .slice g2a g2n g2c] 27) →
 (∃ (x1a : Option Addr) (x1n x1c : Nat) (x2a : Option Addr) (x2n x2c : Nat), w1.cell? (Addr.mk b 0 none) = some (.slice x1a x1n x1c) ∧ w1.cell? ((Addr.mk b 0 none).add 1) = some (.slice x2a x2n x2c) ∧
 (Cl Tryz.prog 26 #[.agg #[.slice x1a x1n x1c, .slice x2a x2n x2c]] w1 fun v w2 => ∃ (x3 : Int), v = .int .i64 x3 ∧
 (cond (x3 != 0) (R (.tuple #[.slice none 0 0, .int .i64 x3]) w2) (∃ (x4a : Option Addr) (x4n x4c : Nat) (x5a : Option Addr) (x5n x5c : Nat), w2.cell? (Addr.mk b 0 none) = some (.slice x4a x4n x4c) ∧ w2.cell? ((Addr.mk b 0 none).add 1) = some (.slice x5a x5n x5c) ∧
 (Cl Tryz.prog 60 #[.agg #[.slice x4a x4n x4c, .slice x5a x5n x5c], .int .i64 n] w2 fun v2 w3 => ∃ (x6 : Bool), v2 = .bool x6 ∧
 (cond (!x6) (R (.tuple #[.slice none 0 0, .int .i64 2]) w3) (∃ (x7a : Option Addr) (x7n x7c : Nat), w3.cell? (Addr.mk b 0 none) = some (.slice x7a x7n x7c) ∧
 (∃ p : Addr, x7a = some p ∧ 0 ≤ (IntKind.i64.wrap (n - 1)) ∧ (IntKind.i64.wrap (n - 1)) < (x7n : Int) ∧
 (∃ (x8a : Option Addr) (x8n x8c : Nat), w3.cell? ((p.add (((IntKind.i64.wrap (n - 1))).toNat * 4)).add 1) = some (.slice x8a x8n x8c) ∧
 (Cl Tryz.prog 69 #[.slice x8a x8n x8c] w3 fun v3 w4 => ∃ (x9a : Option Addr) (x9n x9c : Nat), v3 = .slice x9a x9n x9c ∧ (R (.tuple #[.slice x9a x9n x9c, .int .i64 0]) w4)))))))))))
theorem c24 (ga : Option Addr) (gn gc : Nat) (g2a : Option Addr) (g2n g2c : Nat) (n : Int) {w : World} {R : Value → World → Prop} (hV : V24 ga gn gc g2a g2n g2c n w R) : Cl Tryz.prog 24 #[.agg #[.slice ga gn gc, .slice g2a g2n g2c], .int .i64 n] w R :=
 fn_sound hmTryz (TT := []) (f := 24) Tryz.func24 (ent_of Tryz.func24 (by kernel_rfl) rfl) (Eq.mpr (by kernel_rfl) hV)
/-- windrose/types.With -/
def V25 (la : Option Addr) (ln lc : Nat) (id : Int) (w : World) (R : Value → World → Prop) : Prop :=
 Cl Tryz.prog 39 #[.slice la ln lc] w fun v w1 => ∃ (x1 : Int), v = .int .i64 x1 ∧
 (cond (x1 != 0) (R (.tuple #[.slice none 0 0, .int .i64 130]) w1)
 (Cl Tryz.prog 70 #[.int .u64 id] w1 fun v2 w2 => ∃ (x2 : Bool), v2 = .bool x2 ∧
 (cond (!x2) (R (.tuple #[.slice none 0 0, .int .i64 2]) w2)
 (Cl Tryz.prog 72 #[.slice la ln lc, .int .u64 id] w2 fun v3 w3 => ∃ (x3a : Option Addr) (x3n x3c : Nat), v3 = .slice x3a x3n x3c ∧
 (Cl Tryz.prog 71 #[.slice x3a x3n x3c] w3 fun v4 w4 => ∃ (x4a : Option Addr) (x4n x4c : Nat), v4 = .slice x4a x4n x4c ∧
 (cond (decide (12 < (x4n : Int))) (R (.tuple #[.slice none 0 0, .int .i64 6]) w4) (R (.tuple #[.slice x4a x4n x4c, .int .i64 0]) w4)))))))
theorem c25 (la : Option Addr) (ln lc : Nat) (id : Int) {w : World} {R : Value → World → Prop} (hV : V25 la ln lc id w R) : Cl Tryz.prog 25 #[.slice la ln lc, .int .u64 id] w R :=
 fn_sound hmTryz (TT := []) (f := 25) Tryz.func25 (ent_of Tryz.func25 (by kernel_rfl) rfl) (Eq.mpr (by kernel_rfl) hV)
/-- windrose/graph.Check -/
def V26 (ga : Option Addr) (gn gc : Nat) (g2a : Option Addr) (g2n g2c : Nat) (w : World) (R : Value → World → Prop) : Prop :=
 ∀ (b : Nat) (w1 : World), b = w.heap.size → w1 = w.alloc (.cells #[.slice ga gn gc, .slice g2a g2n g2c] 27) →
 (∃ (x1a : Option Addr) (x1n x1c : Nat), w1.cell? (Addr.mk b 0 none) = some (.slice x1a x1n x1c) ∧
 (cond ((x1n : Int) == 0) (R (.int .i64 220) w1) (∃ (x2a : Option Addr) (x2n x2c : Nat) (x3a : Option Addr) (x3n x3c : Nat), w1.cell? (Addr.mk b 0 none) = some (.slice x2a x2n x2c) ∧ w1.cell? ((Addr.mk b 0 none).add 1) = some (.slice x3a x3n x3c) ∧
 (Cl Tryz.prog 60 #[.agg #[.slice x2a x2n x2c, .slice x3a x3n x3c], .int .i64 (x1n : Int)] w1 fun v w2 => ∃ (x4 : Bool), v = .bool x4 ∧
 (cond (!x4) (R (.int .i64 220) w2) (∃ (x5a : Option Addr) (x5n x5c : Nat) (x6a : Option Addr) (x6n x6c : Nat), w2.cell? (Addr.mk b 0 none) = some (.slice x5a x5n x5c) ∧ w2.cell? ((Addr.mk b 0 none).add 1) = some (.slice x6a x6n x6c) ∧
 (Cl Tryz.prog 60 #[.agg #[.slice x5a x5n x5c, .slice x6a x6n x6c], .int .i64 1] w2 fun v2 w3 => ∃ (x7 : Bool), v2 = .bool x7 ∧
 (cond (!x7) (R (.int .i64 220) w3) (∃ (x8a : Option Addr) (x8n x8c : Nat), w3.cell? (Addr.mk b 0 none) = some (.slice x8a x8n x8c) ∧
 (∃ p : Addr, x8a = some p ∧ 0 ≤ (0 : Int) ∧ (0 : Int) < (x8n : Int) ∧
 (∃ (x9a : Option Addr) (x9n x9c : Nat), w3.cell? ((p.add (((0 : Int)).toNat * 4)).add 1) = some (.slice x9a x9n x9c) ∧
 (cond (decide (0 < (x9n : Int))) (R (.int .i64 220) w3) (∃ (x10a : Option Addr) (x10n x10c : Nat), w3.cell? ((Addr.mk b 0 none).add 1) = some (.slice x10a x10n x10c) ∧
 (Cl Tryz.prog 73 #[.agg #[.slice x10a x10n x10c]] w3 fun v3 w4 => ∃ (x11 : Int), v3 = .int .i64 x11 ∧
 (cond (x11 != 0) (R (.int .i64 220) w4) (∃ (x12a : Option Addr) (x12n x12c : Nat), w4.cell? (Addr.mk b 0 none) = some (.slice x12a x12n x12c) ∧
 (∃ (Jv : Int → Int → Int → World → Prop) (mu : Int → Int → Int → World → Nat), Jv 0 0 0 w4 ∧ ∀ (jk_ : Nat → Value) (w5 : World), ∀ (s2 many s43 : Int), Jv s2 many s43 w5 →
 (cond (decide (s43 < (x12n : Int))) (∃ p2 : Addr, x12a = some p2 ∧ 0 ≤ s43 ∧ s43 < (x12n : Int) ∧
 (∃ (x13 : Bool) (x14a : Option Addr) (x14n x14c : Nat) (x15a : Option Addr) (x15n x15c : Nat) (x16a : Option Addr) (x16n x16c : Nat), w5.cell? (p2.add ((s43).toNat * 4)) = some (.bool x13) ∧ w5.cell? ((p2.add ((s43).toNat * 4)).add 1) = some (.slice x14a x14n x14c) ∧ w5.cell? ((p2.add ((s43).toNat * 4)).add 2) = some (.slice x15a x15n x15c) ∧ w5.cell? ((p2.add ((s43).toNat * 4)).add 3) = some (.slice x16a x16n x16c) ∧
 (∀ (b2 : Nat) (w6 : World), b2 = w5.heap.size → w6 = w5.alloc (.cells #[.bool false, .slice none 0 0, .slice none 0 0, .slice none 0 0] 56) → ((w6.cell? (Addr.mk b2 0 none)).isSome = true ∧ w6.frozen? (Addr.mk b2 0 none) = false ∧ ((w6.cell? ((Addr.mk b2 0 none).add 1)).isSome = true ∧ w6.frozen? ((Addr.mk b2 0 none).add 1) = false ∧ ((w6.cell? ((Addr.mk b2 0 none).add 2)).isSome = true ∧ w6.frozen? ((Addr.mk b2 0 none).add 2) = false ∧ ((w6.cell? ((Addr.mk b2 0 none).add 3)).isSome = true ∧ w6.frozen? ((Addr.mk b2 0 none).add 3) = false ∧
 (∀ w7 : World, w7 = (((w6.setCell (Addr.mk b2 0 none) (.bool x13)).setCell ((Addr.mk b2 0 none).add 1) (.slice x14a x14n x14c)).setCell ((Addr.mk b2 0 none).add 2) (.slice x15a x15n x15c)).setCell ((Addr.mk b2 0 none).add 3) (.slice x16a x16n x16c) →
 (∃ (x17 : Bool), w7.cell? (Addr.mk b2 0 none) = some (.bool x17) ∧
 (cond (!x17) (∃ (x18a : Option Addr) (x18n x18c : Nat), w7.cell? ((Addr.mk b2 0 none).add 1) = some (.slice x18a x18n x18c) ∧
 (∃ (x19a : Option Addr) (x19n x19c : Nat), w7.cell? ((Addr.mk b2 0 none).add 2) = some (.slice x19a x19n x19c) ∧
 (∃ (x20a : Option Addr) (x20n x20c : Nat), w7.cell? ((Addr.mk b2 0 none).add 3) = some (.slice x20a x20n x20c) ∧
 (cond (decide (0 < (IntKind.i64.wrap ((IntKind.i64.wrap ((x18n : Int) + (x19n : Int))) + (x20n : Int))))) (R (.int .i64 220) w7) (Jv s2 many (IntKind.i64.wrap (s43 + 1)) w7 ∧ mu s2 many (IntKind.i64.wrap (s43 + 1)) w7 < mu s2 many s43 w5))))) (∃ (x21a : Option Addr) (x21n x21c : Nat), w7.cell? ((Addr.mk b 0 none).add 1) = some (.slice x21a x21n x21c) ∧
 (∃ (x22a : Option Addr) (x22n x22c : Nat), w7.cell? ((Addr.mk b2 0 none).add 1) = some (.slice x22a x22n x22c) ∧
 (Cl Tryz.prog 74 #[.agg #[.slice x21a x21n x21c], .slice x22a x22n x22c] w7 fun v4 w8 => ∃ (x23 : Int) (x24 : Bool), v4 = .tuple #[.int .i64 x23, .bool x24] ∧
 (∃ (x25a : Option Addr) (x25n x25c : Nat), w8.cell? ((Addr.mk b2 0 none).add 1) = some (.slice x25a x25n x25c) ∧
 (Cl Tryz.prog 39 #[.slice x25a x25n x25c] w8 fun v5 w9 => ∃ (x26 : Int), v5 = .int .i64 x26 ∧
 (cond (x26 != 0) (R (.int .i64 220) w9)
 (cond (!x24) (R (.int .i64 220) w9)
 (cond (x23 != (IntKind.i64.wrap (s43 + 1))) (R (.int .i64 220) w9) (∃ (x27a : Option Addr) (x27n x27c : Nat) (x28a : Option Addr) (x28n x28c : Nat), w9.cell? (Addr.mk b 0 none) = some (.slice x27a x27n x27c) ∧ w9.cell? ((Addr.mk b 0 none).add 1) = some (.slice x28a x28n x28c) ∧
 (∃ (x29a : Option Addr) (x29n x29c : Nat), w9.cell? ((Addr.mk b2 0 none).add 2) = some (.slice x29a x29n x29c) ∧
 (Cl Tryz.prog 75 #[.agg #[.slice x27a x27n x27c, .slice x28a x28n x28c], .int .i64 (IntKind.i64.wrap (s43 + 1)), .slice x29a x29n x29c, .bool true] w9 fun v6 w10 => ∃ (x30 : Bool), v6 = .bool x30 ∧
 (cond (!x30) (R (.int .i64 220) w10) (∃ (x31a : Option Addr) (x31n x31c : Nat) (x32a : Option Addr) (x32n x32c : Nat), w10.cell? (Addr.mk b 0 none) = some (.slice x31a x31n x31c) ∧ w10.cell? ((Addr.mk b 0 none).add 1) = some (.slice x32a x32n x32c) ∧
 (∃ (x33a : Option Addr) (x33n x33c : Nat), w10.cell? ((Addr.mk b2 0 none).add 3) = some (.slice x33a x33n x33c) ∧
 (Cl Tryz.prog 75 #[.agg #[.slice x31a x31n x31c, .slice x32a x32n x32c], .int .i64 (IntKind.i64.wrap (s43 + 1)), .slice x33a x33n x33c, .bool false] w10 fun v7 w11 => ∃ (x34 : Bool), v7 = .bool x34 ∧
 (cond (!x34) (R (.int .i64 220) w11) (Jv s2 (IntKind.i64.wrap (many + 1)) (IntKind.i64.wrap (s43 + 1)) w11 ∧ mu s2 (IntKind.i64.wrap (many + 1)) (IntKind.i64.wrap (s43 + 1)) w11 < mu s2 many s43 w5))))))))))))))))))))))))))) (∃ (x35a : Option Addr) (x35n x35c : Nat), w5.cell? ((Addr.mk b 0 none).add 1) = some (.slice x35a x35n x35c) ∧
 (Cl Tryz.prog 76 #[.agg #[.slice x35a x35n x35c]] w5 fun v8 w12 => ∃ (x36 : Int), v8 = .int .i64 x36 ∧
 (cond (many != x36) (R (.int .i64 220) w12) (R (.int .i64 0) w12))))))))))))))))))))))
theorem c26 (ga : Option Addr) (gn gc : Nat) (g2a : Option Addr) (g2n g2c : Nat) {w : World} {R : Value → World → Prop} (hV : V26 ga gn gc g2a g2n g2c w R) : Cl Tryz.prog 26 #[.agg #[.slice ga gn gc, .slice g2a g2n g2c]] w R :=
 fn_sound hmTryz (TT := []) (f := 26) Tryz.func26 (ent_of Tryz.func26 (by kernel_rfl) rfl) (Eq.mpr (by kernel_rfl) hV)
/-- windrose/types.Has -/
def V27 (la : Option Addr) (ln lc : Nat) (id : Int) (w : World) (R : Value → World → Prop) : Prop :=
 ∀ (b : Nat) (w1 : World), b = w.heap.size → w1 = w.alloc (.cells #[.int .u64 id] 32) →
 (∀ (b2 : Nat) (w2 : World), b2 = w1.heap.size → w2 = w1.alloc (.cells #[.bool false] 4) →
 (Cl Tryz.prog 77 #[.slice la ln lc, .func (.func 78) #[] #[.pointer (some (Addr.mk b 0 none))]] w2 fun v w3 => ∃ (x1f : FuncId) (x1c : List Value), v = .func (.func x1f) #[] x1c.toArray ∧
 (∃ (xs : List (List Value)) (Kp : World → World → Prop) (I : List (List Value) → World → Prop) (Ix : Option Nat → List (List Value) → World → Prop), (Enters Tryz.prog x1f ∧ Seqs Tryz.prog x1f x1c xs Kp w3 ∧
 (∀ vs ∈ xs, hasT Tryz.prog [32] vs) ∧ KeepOk w3 Kp ∧ OwnFrom w3.heap.size I ∧
 (∀ e, OwnFrom w3.heap.size (Ix e)) ∧ I [] w3) ∧
 (∀ (pre : List (List Value)) (w4 : World), ∀ (e : Int), [.int .u64 e] ∈ xs → pre.length < xs.length → I pre w4 → ((w4.cell? (Addr.mk b2 0 none)).isSome = true ∧ w4.frozen? (Addr.mk b2 0 none) = false ∧
 (∀ w5 : World, w5 = w4.setCell (Addr.mk b2 0 none) (.bool true) → (KeepsFrom w3.heap.size w4 w5 ∧ Ix none (pre ++ [[.int .u64 e]]) w5)))) ∧
 (∀ (d : Nat) (w6 : World), w3.heap.size ≤ d → I xs w6 → w6.heap[d]? = some (.deferred (some [])) → ((w6.cell? (Addr.mk b2 0 none)).isSome = true ∧ w6.frozen? (Addr.mk b2 0 none) = false ∧
 (∀ w7 : World, w7 = w6.setCell (Addr.mk b2 0 none) (.bool false) → (w7.heap[d]? = some (.deferred (some [])) ∧ ∀ w8 : World, w8 = w7.putObj d (.deferred none) →
 (∃ (r : Bool), w8.cell? (Addr.mk b2 0 none) = some (.bool r) ∧ (R (.bool r) w8)))))) ∧
 (∀ (d : Nat) (pre : List (List Value)) (w6 : World), w3.heap.size ≤ d → pre <+: xs → Ix none pre w6 → w6.heap[d]? = some (.deferred (some [])) → (w6.heap[d]? = some (.deferred (some [])) ∧ ∀ w9 : World, w9 = w6.putObj d (.deferred none) →
 (∃ (r2 : Bool), w9.cell? (Addr.mk b2 0 none) = some (.bool r2) ∧ (R (.bool r2) w9)))) ∧ (True))))
theorem c27 (la : Option Addr) (ln lc : Nat) (id : Int) {w : World} {R : Value → World → Prop} (hV : V27 la ln lc id w R) : Cl Tryz.prog 27 #[.slice la ln lc, .int .u64 id] w R :=
 fn_sound hmTryz (TT := [(8, 32)]) (f := 27) Tryz.func27 (ent_of Tryz.func27 (by kernel_rfl) rfl) (Eq.mpr (by kernel_rfl) hV)
/-- slices.Equal[[]int,int] -/
def V28 (s1a : Option Addr) (s1n s1c : Nat) (s2a : Option Addr) (s2n s2c : Nat) (w : World) (R : Value → World → Prop) : Prop :=
 cond ((s1n : Int) != (s2n : Int)) (R (.bool false) w) (∃ (Jv : Bool → Int → World → Prop) (mu : Bool → Int → World → Nat), Jv false 0 w ∧ ∀ (jk_ : Nat → Value) (w1 : World), ∀ (s4 : Bool) (s13 : Int), Jv s4 s13 w1 →
 (cond (decide (s13 < (s1n : Int))) (∀ w2 : World, w2 = w1.drew →
 (∃ p : Addr, s1a = some p ∧ 0 ≤ s13 ∧ s13 < (s1n : Int) ∧
 (∃ (x1 : Int), w2.cell? (p.add ((s13).toNat * 1)) = some (.int .i64 x1) ∧
 (∃ p2 : Addr, s2a = some p2 ∧ 0 ≤ s13 ∧ s13 < (s2n : Int) ∧
 (∃ (x2 : Int), w2.cell? (p2.add ((s13).toNat * 1)) = some (.int .i64 x2) ∧
 (cond (x1 != x2) (R (.bool false) w2) (Jv s4 (IntKind.i64.wrap (s13 + 1)) w2 ∧ mu s4 (IntKind.i64.wrap (s13 + 1)) w2 < mu s4 s13 w1))))))) (R (.bool true) w1)))
theorem c28 (s1a : Option Addr) (s1n s1c : Nat) (s2a : Option Addr) (s2n s2c : Nat) {w : World} {R : Value → World → Prop} (hV : V28 s1a s1n s1c s2a s2n s2c w R) : Cl Tryz.prog 28 #[.slice s1a s1n s1c, .slice s2a s2n s2c] w R :=
 fn_sound hmTryz (TT := []) (f := 28) Tryz.func28 (ent_of Tryz.func28 (by kernel_rfl) rfl) (Eq.mpr (by kernel_rfl) hV)
/-- windrose/graph.Used -/
def V29 (ga : Option Addr) (gn gc : Nat) (g2a : Option Addr) (g2n g2c : Nat) (w : World) (R : Value → World → Prop) : Prop :=
 ∀ (b : Nat) (w1 : World), b = w.heap.size → w1 = w.alloc (.cells #[.slice ga gn gc, .slice g2a g2n g2c] 27) →
 (∃ (x1a : Option Addr) (x1n x1c : Nat) (x2a : Option Addr) (x2n x2c : Nat), w1.cell? (Addr.mk b 0 none) = some (.slice x1a x1n x1c) ∧ w1.cell? ((Addr.mk b 0 none).add 1) = some (.slice x2a x2n x2c) ∧
 (Cl Tryz.prog 26 #[.agg #[.slice x1a x1n x1c, .slice x2a x2n x2c]] w1 fun v w2 => ∃ (x3 : Int), v = .int .i64 x3 ∧
 (cond (x3 != 0) (R (.slice none 0 0) w2) (∀ (b2 : Nat) (w3 : World), b2 = w2.heap.size → w3 = w2.alloc (.cells #[.slice none 0 0] 64) →
 (∃ (x4a : Option Addr) (x4n x4c : Nat) (x5a : Option Addr) (x5n x5c : Nat), w3.cell? (Addr.mk b 0 none) = some (.slice x4a x4n x4c) ∧ w3.cell? ((Addr.mk b 0 none).add 1) = some (.slice x5a x5n x5c) ∧
 (Cl Tryz.prog 79 #[.agg #[.slice x4a x4n x4c, .slice x5a x5n x5c]] w3 fun v2 w4 => ∃ (x6f : FuncId) (x6c : List Value), v2 = .func (.func x6f) #[] x6c.toArray ∧
 (∃ (xs : List (List Value)) (Kp : World → World → Prop) (I : List (List Value) → World → Prop) (Ix : Option Nat → List (List Value) → World → Prop), (Enters Tryz.prog x6f ∧ Seqs Tryz.prog x6f x6c xs Kp w4 ∧
 (∀ vs ∈ xs, hasT Tryz.prog [3, 56] vs) ∧ KeepOk w4 Kp ∧ OwnFrom w4.heap.size I ∧
 (∀ e, OwnFrom w4.heap.size (Ix e)) ∧ I [] w4) ∧
 (∀ (pre : List (List Value)) (w5 : World), ∀ (e : Int) (e2 : Bool) (e3a : Option Addr) (e3n e3c : Nat) (e4a : Option Addr) (e4n e4c : Nat) (e5a : Option Addr) (e5n e5c : Nat), [.int .i64 e, .agg #[.bool e2, .slice e3a e3n e3c, .slice e4a e4n e4c, .slice e5a e5n e5c]] ∈ xs → pre.length < xs.length → I pre w5 →
 (∃ (x7a : Option Addr) (x7n x7c : Nat), w5.cell? (Addr.mk b2 0 none) = some (.slice x7a x7n x7c) ∧
 (∀ (b3 : Nat) (w6 : World), b3 = w5.heap.size → w6 = w5.alloc (.cells #[.int .i64 e] 3) →
 (∃ (x8a : Option Addr) (x8n x8c : Nat) (w7 : World), Sem.run Tryz.prog (Builtin.append_ #[64, 64] 64 #[.slice x7a x7n x7c, .slice (some (Addr.mk b3 0 none)) 1 1]) w6 = .ok (.slice x8a x8n x8c) w7 ∧ ((w7.cell? (Addr.mk b2 0 none)).isSome = true ∧ w7.frozen? (Addr.mk b2 0 none) = false ∧
 (∀ w8 : World, w8 = w7.setCell (Addr.mk b2 0 none) (.slice x8a x8n x8c) → (KeepsFrom w4.heap.size w5 w8 ∧ Kp w5 w8 ∧ I (pre ++ [[.int .i64 e, .agg #[.bool e2, .slice e3a e3n e3c, .slice e4a e4n e4c, .slice e5a e5n e5c]]]) w8))))))) ∧
 (∀ (d : Nat) (w9 : World), w4.heap.size ≤ d → I xs w9 → w9.heap[d]? = some (.deferred (some [])) →
 (∃ (x9a : Option Addr) (x9n x9c : Nat), w9.cell? (Addr.mk b2 0 none) = some (.slice x9a x9n x9c) ∧ (w9.heap[d]? = some (.deferred (some [])) ∧ ∀ w10 : World, w10 = w9.putObj d (.deferred none) → (R (.slice x9a x9n x9c) w10)))) ∧
 (∀ (d : Nat) (pre : List (List Value)) (w9 : World), w4.heap.size ≤ d → pre <+: xs → Ix none pre w9 → w9.heap[d]? = some (.deferred (some [])) → (w9.heap[d]? = some (.deferred (some [])) ∧ ∀ w11 : World, w11 = w9.putObj d (.deferred none) → (R (.slice none 0 0) w11))) ∧ (True))))))))
theorem c29 (ga : Option Addr) (gn gc : Nat) (g2a : Option Addr) (g2n g2c : Nat) {w : World} {R : Value → World → Prop} (hV : V29 ga gn gc g2a g2n g2c w R) : Cl Tryz.prog 29 #[.agg #[.slice ga gn gc, .slice g2a g2n g2c]] w R :=
 fn_sound hmTryz (TT := [(10, 3), (11, 56)]) (f := 29) Tryz.func29 (ent_of Tryz.func29 (by kernel_rfl) rfl) (Eq.mpr (by kernel_rfl) hV)
/-- windrose/graph.Find -/
def V31 (ga : Option Addr) (gn gc : Nat) (g2a : Option Addr) (g2n g2c : Nat) (la : Option Addr) (ln lc : Nat) (w : World) (R : Value → World → Prop) : Prop :=
 ∀ (b : Nat) (w1 : World), b = w.heap.size → w1 = w.alloc (.cells #[.slice ga gn gc, .slice g2a g2n g2c] 27) →
 (∃ (x1a : Option Addr) (x1n x1c : Nat) (x2a : Option Addr) (x2n x2c : Nat), w1.cell? (Addr.mk b 0 none) = some (.slice x1a x1n x1c) ∧ w1.cell? ((Addr.mk b 0 none).add 1) = some (.slice x2a x2n x2c) ∧
 (Cl Tryz.prog 26 #[.agg #[.slice x1a x1n x1c, .slice x2a x2n x2c]] w1 fun v w2 => ∃ (x3 : Int), v = .int .i64 x3 ∧
 (cond (x3 != 0) (R (.tuple #[.int .i64 0, .bool false]) w2) (∃ (x4a : Option Addr) (x4n x4c : Nat), w2.cell? ((Addr.mk b 0 none).add 1) = some (.slice x4a x4n x4c) ∧
 (Cl Tryz.prog 74 #[.agg #[.slice x4a x4n x4c], .slice la ln lc] w2 fun v2 w3 => ∃ (x5 : Int) (x6 : Bool), v2 = .tuple #[.int .i64 x5, .bool x6] ∧ (R (.tuple #[.int .i64 x5, .bool x6]) w3))))))
theorem c31 (ga : Option Addr) (gn gc : Nat) (g2a : Option Addr) (g2n g2c : Nat) (la : Option Addr) (ln lc : Nat) {w : World} {R : Value → World → Prop} (hV : V31 ga gn gc g2a g2n g2c la ln lc w R) : Cl Tryz.prog 31 #[.agg #[.slice ga gn gc, .slice g2a g2n g2c], .slice la ln lc] w R :=
 fn_sound hmTryz (TT := []) (f := 31) Tryz.func31 (ent_of Tryz.func31 (by kernel_rfl) rfl) (Eq.mpr (by kernel_rfl) hV)
/-- windrose/graph.New -/
def V34  (w : World) (R : Value → World → Prop) : Prop :=
 ∀ (b : Nat) (w1 : World), b = w.heap.size → w1 = w.alloc (.cells #[.slice none 0 0, .slice none 0 0] 27) →
 (Cl Tryz.prog 88 #[] w1 fun v w2 => ∃ (x1a : Option Addr) (x1n x1c : Nat), v = .agg #[.slice x1a x1n x1c] ∧
 (Cl Tryz.prog 87 #[.agg #[.slice x1a x1n x1c], .slice none 0 0, .int .i64 1] w2 fun v2 w3 => ∃ (x2a : Option Addr) (x2n x2c : Nat) (x3 : Int), v2 = .tuple #[.agg #[.slice x2a x2n x2c], .int .i64 x3] ∧
 (∀ (b2 : Nat) (w4 : World), b2 = w3.heap.size → w4 = w3.alloc (.cells #[.slice none 0 0] 25) → ((w4.cell? (Addr.mk b2 0 none)).isSome = true ∧ w4.frozen? (Addr.mk b2 0 none) = false ∧
 (∀ w5 : World, w5 = w4.setCell (Addr.mk b2 0 none) (.slice x2a x2n x2c) →
 (∀ (b3 : Nat) (w6 : World), b3 = w5.heap.size → w6 = w5.alloc (.cells #[.bool true, .slice none 0 0, .slice none 0 0, .slice none 0 0] 56) →
 (∃ (x4a : Option Addr) (x4n x4c : Nat), w6.cell? (Addr.mk b2 0 none) = some (.slice x4a x4n x4c) ∧ ((w6.cell? (Addr.mk b 0 none)).isSome = true ∧ w6.frozen? (Addr.mk b 0 none) = false ∧ ((w6.cell? ((Addr.mk b 0 none).add 1)).isSome = true ∧ w6.frozen? ((Addr.mk b 0 none).add 1) = false ∧
 (∀ w7 : World, w7 = (w6.setCell (Addr.mk b 0 none) (.slice (some (Addr.mk b3 0 none)) 1 1)).setCell ((Addr.mk b 0 none).add 1) (.slice x4a x4n x4c) →
 (∃ (ra : Option Addr) (rn rc : Nat) (r2a : Option Addr) (r2n r2c : Nat), w7.cell? (Addr.mk b 0 none) = some (.slice ra rn rc) ∧ w7.cell? ((Addr.mk b 0 none).add 1) = some (.slice r2a r2n r2c) ∧ (R (.agg #[.slice ra rn rc, .slice r2a r2n r2c]) w7))))))))))))
theorem c34  {w : World} {R : Value → World → Prop} (hV : V34  w R) : Cl Tryz.prog 34 #[] w R :=
 fn_sound hmTryz (TT := []) (f := 34) Tryz.func34 (ent_of Tryz.func34 (by kernel_rfl) rfl) (Eq.mpr (by kernel_rfl) hV)
end Go.Eng
namespace Go.Eng
open Go Go.Proofs
set_option maxRecDepth 100000
set_option maxHeartbeats 4000000
/-- windrose/windroselaw12.GraphOrder$1 -/
def V38 (la : Option Addr) (ln lc : Nat) (w : World) (R : Value → World → Prop) : Prop :=
 Cl Tryz.prog 34 #[] w fun v w1 => ∃ (x1a : Option Addr) (x1n x1c : Nat) (x2a : Option Addr) (x2n x2c : Nat), v = .agg #[.slice x1a x1n x1c, .slice x2a x2n x2c] ∧
 (∀ (b : Nat) (w2 : World), b = w1.heap.size → w2 = w1.alloc (.cells #[.slice none 0 0, .slice none 0 0] 27) → ((w2.cell? (Addr.mk b 0 none)).isSome = true ∧ w2.frozen? (Addr.mk b 0 none) = false ∧ ((w2.cell? ((Addr.mk b 0 none).add 1)).isSome = true ∧ w2.frozen? ((Addr.mk b 0 none).add 1) = false ∧
 (∀ w3 : World, w3 = (w2.setCell (Addr.mk b 0 none) (.slice x1a x1n x1c)).setCell ((Addr.mk b 0 none).add 1) (.slice x2a x2n x2c) →
 (∃ (Jm : Option Addr → Nat → Nat → Bool → Int → World → Prop), (∃ (Jv : Option Addr → Nat → Nat → Bool → Int → World → Prop) (mu : Option Addr → Nat → Nat → Bool → Int → World → Nat), Jv none 0 0 false 0 w3 ∧ ∀ (jk_2 : Nat → Value) (w4 : World), ∀ (s22a : Option Addr) (s22n s22c : Nat) (s32 : Bool) (s202 : Int), Jv s22a s22n s22c s32 s202 w4 →
 (cond (decide (s202 < (ln : Int))) (∃ p : Addr, la = some p ∧ 0 ≤ s202 ∧ s202 < (ln : Int) ∧
 (∃ (x3a : Option Addr) (x3n x3c : Nat), w4.cell? (p.add ((s202).toNat * 1)) = some (.slice x3a x3n x3c) ∧
 (∃ (x4a : Option Addr) (x4n x4c : Nat) (x5a : Option Addr) (x5n x5c : Nat), w4.cell? (Addr.mk b 0 none) = some (.slice x4a x4n x4c) ∧ w4.cell? ((Addr.mk b 0 none).add 1) = some (.slice x5a x5n x5c) ∧
 (Cl Tryz.prog 12 #[.agg #[.slice x4a x4n x4c, .slice x5a x5n x5c], .slice x3a x3n x3c] w4 fun v2 w5 => ∃ (x6a : Option Addr) (x6n x6c : Nat) (x7a : Option Addr) (x7n x7c : Nat) (x8 x9 : Int), v2 = .tuple #[.agg #[.slice x6a x6n x6c, .slice x7a x7n x7c], .int .i64 x8, .int .i64 x9] ∧
 (∀ (b2 : Nat) (w6 : World), b2 = w5.heap.size → w6 = w5.alloc (.cells #[.slice none 0 0, .slice none 0 0] 27) → ((w6.cell? (Addr.mk b2 0 none)).isSome = true ∧ w6.frozen? (Addr.mk b2 0 none) = false ∧ ((w6.cell? ((Addr.mk b2 0 none).add 1)).isSome = true ∧ w6.frozen? ((Addr.mk b2 0 none).add 1) = false ∧
 (∀ w7 : World, w7 = (w6.setCell (Addr.mk b2 0 none) (.slice x6a x6n x6c)).setCell ((Addr.mk b2 0 none).add 1) (.slice x7a x7n x7c) →
 (cond (x9 != 0)
 (Cl Tryz.prog 39 #[.slice x3a x3n x3c] w7 fun v3 w8 => ∃ (x10 : Int), v3 = .int .i64 x10 ∧
 (cond (x10 == 0) (R (.tuple #[.slice none 0 0, .bool false]) w8) (Jv s22a s22n s22c s32 (IntKind.i64.wrap (s202 + 1)) w8 ∧ mu s22a s22n s22c s32 (IntKind.i64.wrap (s202 + 1)) w8 < mu s22a s22n s22c s32 s202 w4))) (∃ (x11a : Option Addr) (x11n x11c : Nat) (x12a : Option Addr) (x12n x12c : Nat), w7.cell? (Addr.mk b2 0 none) = some (.slice x11a x11n x11c) ∧ w7.cell? ((Addr.mk b2 0 none).add 1) = some (.slice x12a x12n x12c) ∧
 (Cl Tryz.prog 31 #[.agg #[.slice x11a x11n x11c, .slice x12a x12n x12c], .slice x3a x3n x3c] w7 fun v4 w9 => ∃ (x13 : Int) (x14 : Bool), v4 = .tuple #[.int .i64 x13, .bool x14] ∧
 (cond (!x14) (R (.tuple #[.slice none 0 0, .bool false]) w9)
 (cond (x13 != x8) (R (.tuple #[.slice none 0 0, .bool false]) w9) (∃ (x15a : Option Addr) (x15n x15c : Nat) (x16a : Option Addr) (x16n x16c : Nat), w9.cell? (Addr.mk b2 0 none) = some (.slice x15a x15n x15c) ∧ w9.cell? ((Addr.mk b2 0 none).add 1) = some (.slice x16a x16n x16c) ∧
 (Cl Tryz.prog 26 #[.agg #[.slice x15a x15n x15c, .slice x16a x16n x16c]] w9 fun v5 w10 => ∃ (x17 : Int), v5 = .int .i64 x17 ∧
 (cond (x17 != 0) (R (.tuple #[.slice none 0 0, .bool false]) w10) (∃ (x18a : Option Addr) (x18n x18c : Nat) (x19a : Option Addr) (x19n x19c : Nat), w10.cell? (Addr.mk b2 0 none) = some (.slice x18a x18n x18c) ∧ w10.cell? ((Addr.mk b2 0 none).add 1) = some (.slice x19a x19n x19c) ∧ ((w10.cell? (Addr.mk b 0 none)).isSome = true ∧ w10.frozen? (Addr.mk b 0 none) = false ∧ ((w10.cell? ((Addr.mk b 0 none).add 1)).isSome = true ∧ w10.frozen? ((Addr.mk b 0 none).add 1) = false ∧
 (∀ w11 : World, w11 = (w10.setCell (Addr.mk b 0 none) (.slice x18a x18n x18c)).setCell ((Addr.mk b 0 none).add 1) (.slice x19a x19n x19c) → (Jv s22a s22n s22c s32 (IntKind.i64.wrap (s202 + 1)) w11 ∧ mu s22a s22n s22c s32 (IntKind.i64.wrap (s202 + 1)) w11 < mu s22a s22n s22c s32 s202 w4))))))))))))))))))))) (Jm s22a s22n s22c s32 s202 w4))) ∧ ∀ (jk_ : Nat → Value) (w12 : World), ∀ (s2a : Option Addr) (s2n s2c : Nat) (s3 : Bool) (s20 : Int), Jm s2a s2n s2c s3 s20 w12 →
 (∃ (x20a : Option Addr) (x20n x20c : Nat) (x21a : Option Addr) (x21n x21c : Nat), w12.cell? (Addr.mk b 0 none) = some (.slice x20a x20n x20c) ∧ w12.cell? ((Addr.mk b 0 none).add 1) = some (.slice x21a x21n x21c) ∧
 (Cl Tryz.prog 29 #[.agg #[.slice x20a x20n x20c, .slice x21a x21n x21c]] w12 fun v6 w13 => ∃ (x22a : Option Addr) (x22n x22c : Nat), v6 = .slice x22a x22n x22c ∧
 (∃ (Jv2 : Option Addr → Nat → Nat → Bool → Option Addr → Nat → Nat → Int → World → Prop) (mu2 : Option Addr → Nat → Nat → Bool → Option Addr → Nat → Nat → Int → World → Nat), Jv2 s2a s2n s2c s3 none 0 0 0 w13 ∧ ∀ (jk_3 : Nat → Value) (w14 : World), ∀ (s23a : Option Addr) (s23n s23c : Nat) (s33 : Bool) (outa : Option Addr) (outn outc : Nat) (s59 : Int), Jv2 s23a s23n s23c s33 outa outn outc s59 w14 →
 (cond (decide (s59 < (x22n : Int))) (∃ p2 : Addr, x22a = some p2 ∧ 0 ≤ s59 ∧ s59 < (x22n : Int) ∧
 (∃ (x23 : Int), w14.cell? (p2.add ((s59).toNat * 1)) = some (.int .i64 x23) ∧
 (∃ (x24a : Option Addr) (x24n x24c : Nat) (x25a : Option Addr) (x25n x25c : Nat), w14.cell? (Addr.mk b 0 none) = some (.slice x24a x24n x24c) ∧ w14.cell? ((Addr.mk b 0 none).add 1) = some (.slice x25a x25n x25c) ∧
 (Cl Tryz.prog 24 #[.agg #[.slice x24a x24n x24c, .slice x25a x25n x25c], .int .i64 x23] w14 fun v7 w15 => ∃ (x26a : Option Addr) (x26n x26c : Nat) (x27 : Int), v7 = .tuple #[.slice x26a x26n x26c, .int .i64 x27] ∧
 (cond (x27 != 0) (R (.tuple #[.slice none 0 0, .bool false]) w15) (∀ (b3 : Nat) (w16 : World), b3 = w15.heap.size → w16 = w15.alloc (.cells #[.slice x26a x26n x26c] 33) →
 (∃ (x28a : Option Addr) (x28n x28c : Nat) (w17 : World), Sem.run Tryz.prog (Builtin.append_ #[73, 73] 73 #[.slice outa outn outc, .slice (some (Addr.mk b3 0 none)) 1 1]) w16 = .ok (.slice x28a x28n x28c) w17 ∧ (Jv2 s23a s23n s23c s33 x28a x28n x28c (IntKind.i64.wrap (s59 + 1)) w17 ∧ mu2 s23a s23n s23c s33 x28a x28n x28c (IntKind.i64.wrap (s59 + 1)) w17 < mu2 s23a s23n s23c s33 outa outn outc s59 w14))))))))
 (Cl Tryz.prog 40 #[.slice outa outn outc, .func (.func 41) #[] #[]] w14 fun v8 w18 => v8 = undef ∧ (R (.tuple #[.slice outa outn outc, .bool true]) w18)))))))))))
theorem c38 (la : Option Addr) (ln lc : Nat) {w : World} {R : Value → World → Prop} (hV : V38 la ln lc w R) : Cl Tryz.prog 38 #[.slice la ln lc] w R :=
 fn_sound hmTryz (TT := []) (f := 38) Tryz.func38 (ent_of Tryz.func38 (by kernel_rfl) rfl) (Eq.mpr (by kernel_rfl) hV)
/-- windrose/types.Check -/
def V39 (la : Option Addr) (ln lc : Nat) (w : World) (R : Value → World → Prop) : Prop :=
 ∃ (Jv : Bool → Int → World → Prop) (mu : Bool → Int → World → Nat), Jv (decide ((ln : Int) ≤ 12)) 0 w ∧ ∀ (jk_ : Nat → Value) (w1 : World), ∀ (ok : Bool) (s11 : Int), Jv ok s11 w1 →
 (cond (decide (s11 < (ln : Int))) (∃ p : Addr, la = some p ∧ 0 ≤ s11 ∧ s11 < (ln : Int) ∧
 (∃ (x1 : Int), w1.cell? (p.add ((s11).toNat * 1)) = some (.int .u64 x1) ∧
 (cond ok
 (Cl Tryz.prog 70 #[.int .u64 x1] w1 fun v w2 => ∃ (x2 : Bool), v = .bool x2 ∧
 (cond x2 (cond (s11 == 0) (Jv true (IntKind.i64.wrap (s11 + 1)) w2 ∧ mu true (IntKind.i64.wrap (s11 + 1)) w2 < mu ok s11 w1) (∃ p2 : Addr, la = some p2 ∧ 0 ≤ (IntKind.i64.wrap (s11 - 1)) ∧ (IntKind.i64.wrap (s11 - 1)) < (ln : Int) ∧
 (∃ (x3 : Int), w2.cell? (p2.add (((IntKind.i64.wrap (s11 - 1))).toNat * 1)) = some (.int .u64 x3) ∧
 (cond (!(decide (x3 < x1)))
 (cond (!(decide (x3 < x1))) (R (.int .i64 130) w2) (R (.int .i64 0) w2)) (Jv (decide (x3 < x1)) (IntKind.i64.wrap (s11 + 1)) w2 ∧ mu (decide (x3 < x1)) (IntKind.i64.wrap (s11 + 1)) w2 < mu ok s11 w1))))) (R (.int .i64 130) w2))) (R (.int .i64 130) w1))))
 (cond (!ok) (R (.int .i64 130) w1) (R (.int .i64 0) w1)))
theorem c39 (la : Option Addr) (ln lc : Nat) {w : World} {R : Value → World → Prop} (hV : V39 la ln lc w R) : Cl Tryz.prog 39 #[.slice la ln lc] w R :=
 fn_sound hmTryz (TT := []) (f := 39) Tryz.func39 (ent_of Tryz.func39 (by kernel_rfl) rfl) (Eq.mpr (by kernel_rfl) hV)
/-- windrose/types.Compare -/
def V41 (aa : Option Addr) (an ac : Nat) (ba : Option Addr) (bn bc : Nat) (w : World) (R : Value → World → Prop) : Prop :=
 Cl Tryz.prog 92 #[.slice aa an ac, .slice ba bn bc, .func (.func 93) #[] #[]] w fun v w1 => ∃ (x1 : Int), v = .int .i64 x1 ∧ (R (.int .i64 x1) w1)
theorem c41 (aa : Option Addr) (an ac : Nat) (ba : Option Addr) (bn bc : Nat) {w : World} {R : Value → World → Prop} (hV : V41 aa an ac ba bn bc w R) : Cl Tryz.prog 41 #[.slice aa an ac, .slice ba bn bc] w R :=
 fn_sound hmTryz (TT := []) (f := 41) Tryz.func41 (ent_of Tryz.func41 (by kernel_rfl) rfl) (Eq.mpr (by kernel_rfl) hV)
/-- slices.Concat[[][]windrose/api.Id,[]windrose/api.Id] -/
def V42 (slicesa : Option Addr) (slicesn slicesc : Nat) (w : World) (R : Value → World → Prop) : Prop :=
 ∃ (Jv : Int → Int → World → Prop) (mu : Int → Int → World → Nat), Jv 0 0 w ∧ ∀ (jk_ : Nat → Value) (w1 : World), ∀ (size s11 : Int), Jv size s11 w1 →
 (cond (decide (s11 < (slicesn : Int))) (∃ p : Addr, slicesa = some p ∧ 0 ≤ s11 ∧ s11 < (slicesn : Int) ∧
 (∃ (x1a : Option Addr) (x1n x1c : Nat), w1.cell? (p.add ((s11).toNat * 1)) = some (.slice x1a x1n x1c) ∧
 (cond (decide ((IntKind.i64.wrap (size + (x1n : Int))) < 0)) (False) (Jv (IntKind.i64.wrap (size + (x1n : Int))) (IntKind.i64.wrap (s11 + 1)) w1 ∧ mu (IntKind.i64.wrap (size + (x1n : Int))) (IntKind.i64.wrap (s11 + 1)) w1 < mu size s11 w1))))
 (Cl Tryz.prog 94 #[.slice none 0 0, .int .i64 size] w1 fun v w2 => ∃ (x2a : Option Addr) (x2n x2c : Nat), v = .slice x2a x2n x2c ∧
 (∃ (Jv2 : Option Addr → Nat → Nat → Int → World → Prop) (mu2 : Option Addr → Nat → Nat → Int → World → Nat), Jv2 x2a x2n x2c 0 w2 ∧ ∀ (jk_2 : Nat → Value) (w3 : World), ∀ (newslicea : Option Addr) (newslicen newslicec : Nat) (s27 : Int), Jv2 newslicea newslicen newslicec s27 w3 →
 (cond (decide (s27 < (slicesn : Int))) (∃ p2 : Addr, slicesa = some p2 ∧ 0 ≤ s27 ∧ s27 < (slicesn : Int) ∧
 (∃ (x3a : Option Addr) (x3n x3c : Nat), w3.cell? (p2.add ((s27).toNat * 1)) = some (.slice x3a x3n x3c) ∧
 (∃ (x4a : Option Addr) (x4n x4c : Nat) (w4 : World), Sem.run Tryz.prog (Builtin.append_ #[73, 73] 73 #[.slice newslicea newslicen newslicec, .slice x3a x3n x3c]) w3 = .ok (.slice x4a x4n x4c) w4 ∧ (Jv2 x4a x4n x4c (IntKind.i64.wrap (s27 + 1)) w4 ∧ mu2 x4a x4n x4c (IntKind.i64.wrap (s27 + 1)) w4 < mu2 newslicea newslicen newslicec s27 w3)))) (R (.slice newslicea newslicen newslicec) w3)))))
theorem c42 (slicesa : Option Addr) (slicesn slicesc : Nat) {w : World} {R : Value → World → Prop} (hV : V42 slicesa slicesn slicesc w R) : Cl Tryz.prog 42 #[.slice slicesa slicesn slicesc] w R :=
 fn_sound hmTryz (TT := []) (f := 42) Tryz.func42 (ent_of Tryz.func42 (by kernel_rfl) rfl) (Eq.mpr (by kernel_rfl) hV)
/-- slices.EqualFunc[[][]windrose/api.Id,[][]windrose/api.Id,[]windrose/api.Id,[]windrose/api.Id] -/
def V43 (s1a : Option Addr) (s1n s1c : Nat) (s2a : Option Addr) (s2n s2c : Nat) (eqf : FuncId) (eqc : List Value) (w : World) (R : Value → World → Prop) : Prop :=
 cond ((s1n : Int) != (s2n : Int)) (R (.bool false) w) (∃ (Jv : Bool → Int → World → Prop) (mu : Bool → Int → World → Nat), Jv false 0 w ∧ ∀ (jk_ : Nat → Value) (w1 : World), ∀ (s6 : Bool) (s17 : Int), Jv s6 s17 w1 →
 (cond (decide (s17 < (s1n : Int))) (∃ p : Addr, s1a = some p ∧ 0 ≤ s17 ∧ s17 < (s1n : Int) ∧
 (∃ (x1a : Option Addr) (x1n x1c : Nat), w1.cell? (p.add ((s17).toNat * 1)) = some (.slice x1a x1n x1c) ∧
 (∃ p2 : Addr, s2a = some p2 ∧ 0 ≤ s17 ∧ s17 < (s2n : Int) ∧
 (∃ (x2a : Option Addr) (x2n x2c : Nat), w1.cell? (p2.add ((s17).toNat * 1)) = some (.slice x2a x2n x2c) ∧
 (Cl Tryz.prog eqf (([.slice x1a x1n x1c, .slice x2a x2n x2c] : List Value) ++ eqc).toArray w1 fun v w2 => ∃ (x3 : Bool), v = .bool x3 ∧
 (cond (!x3) (R (.bool false) w2) (Jv s6 (IntKind.i64.wrap (s17 + 1)) w2 ∧ mu s6 (IntKind.i64.wrap (s17 + 1)) w2 < mu s6 s17 w1))))))) (R (.bool true) w1)))
theorem c43 (s1a : Option Addr) (s1n s1c : Nat) (s2a : Option Addr) (s2n s2c : Nat) (eqf : FuncId) (eqc : List Value) {w : World} {R : Value → World → Prop} (hV : V43 s1a s1n s1c s2a s2n s2c eqf eqc w R) : Cl Tryz.prog 43 #[.slice s1a s1n s1c, .slice s2a s2n s2c, .func (.func eqf) #[] eqc.toArray] w R :=
 fn_sound hmTryz (TT := []) (f := 43) Tryz.func43 (ent_of Tryz.func43 (by kernel_rfl) rfl) (Eq.mpr (by kernel_rfl) hV)
/-- windrose/ident.Component -/
def V44 (n : Int) (w : World) (R : Value → World → Prop) : Prop :=
 ∀ (b : Nat) (w1 : World), b = w.heap.size → w1 = w.alloc (.cells #[.int .i64 n] 3) →
 (Cl Tryz.prog 95 #[.int .i64 1, .int .i64 24, .slice (some (Addr.mk b 0 none)) 1 1] w1 fun v w2 => ∃ (x1 : Bool), v = .bool x1 ∧
 (cond (!x1) (R (.tuple #[.int .u64 0, .int .i64 2]) w2)
 (Cl Tryz.prog 96 #[.int .u64 4611686018427387904, .int .i64 0, .int .i64 n] w2 fun v2 w3 => ∃ (x2 : Int), v2 = .int .u64 x2 ∧ (R (.tuple #[.int .u64 x2, .int .i64 0]) w3))))
theorem c44 (n : Int) {w : World} {R : Value → World → Prop} (hV : V44 n w R) : Cl Tryz.prog 44 #[.int .i64 n] w R :=
 fn_sound hmTryz (TT := []) (f := 44) Tryz.func44 (ent_of Tryz.func44 (by kernel_rfl) rfl) (Eq.mpr (by kernel_rfl) hV)
/-- windrose/ident.Pair -/
def V45 (relation target : Int) (w : World) (R : Value → World → Prop) : Prop :=
 ∀ (b : Nat) (w1 : World), b = w.heap.size → w1 = w.alloc (.cells #[.int .i64 relation, .int .i64 target] 3) →
 (Cl Tryz.prog 95 #[.int .i64 0, .int .i64 1048578, .slice (some (Addr.mk b 0 none)) 2 2] w1 fun v w2 => ∃ (x1 : Bool), v = .bool x1 ∧
 (cond (!x1) (R (.tuple #[.int .u64 0, .int .i64 2]) w2)
 (Cl Tryz.prog 96 #[.int .u64 9223372036854775808, .int .i64 relation, .int .i64 target] w2 fun v2 w3 => ∃ (x2 : Int), v2 = .int .u64 x2 ∧ (R (.tuple #[.int .u64 x2, .int .i64 0]) w3))))
theorem c45 (relation target : Int) {w : World} {R : Value → World → Prop} (hV : V45 relation target w R) : Cl Tryz.prog 45 #[.int .i64 relation, .int .i64 target] w R :=
 fn_sound hmTryz (TT := []) (f := 45) Tryz.func45 (ent_of Tryz.func45 (by kernel_rfl) rfl) (Eq.mpr (by kernel_rfl) hV)
end Go.Eng
namespace Go.Eng
open Go Go.Proofs
set_option maxRecDepth 100000
set_option maxHeartbeats 4000000
/-- windrose/graph.of -/
def V52 (ga : Option Addr) (gn gc : Nat) (g2a : Option Addr) (g2n g2c : Nat) (la : Option Addr) (ln lc : Nat) (w : World) (R : Value → World → Prop) : Prop :=
 ∀ (b : Nat) (w1 : World), b = w.heap.size → w1 = w.alloc (.cells #[.slice ga gn gc, .slice g2a g2n g2c] 27) →
 (∀ (b2 : Nat) (w2 : World), b2 = w1.heap.size → w2 = w1.alloc (.cells #[.slice none 0 0, .slice none 0 0] 27) →
 (Cl Tryz.prog 39 #[.slice la ln lc] w2 fun v w3 => ∃ (x1 : Int), v = .int .i64 x1 ∧
 (cond (x1 != 0) ((w3.cell? (Addr.mk b2 0 none)).isSome = true ∧ w3.frozen? (Addr.mk b2 0 none) = false ∧ ((w3.cell? ((Addr.mk b2 0 none).add 1)).isSome = true ∧ w3.frozen? ((Addr.mk b2 0 none).add 1) = false ∧
 (∀ w4 : World, w4 = (w3.setCell (Addr.mk b2 0 none) (.slice none 0 0)).setCell ((Addr.mk b2 0 none).add 1) (.slice none 0 0) →
 (∃ (ra : Option Addr) (rn rc : Nat) (r2a : Option Addr) (r2n r2c : Nat), w4.cell? (Addr.mk b2 0 none) = some (.slice ra rn rc) ∧ w4.cell? ((Addr.mk b2 0 none).add 1) = some (.slice r2a r2n r2c) ∧ (R (.tuple #[.agg #[.slice ra rn rc, .slice r2a r2n r2c], .int .i64 0, .int .i64 130]) w4))))) (∃ (x2a : Option Addr) (x2n x2c : Nat), w3.cell? ((Addr.mk b 0 none).add 1) = some (.slice x2a x2n x2c) ∧
 (Cl Tryz.prog 74 #[.agg #[.slice x2a x2n x2c], .slice la ln lc] w3 fun v2 w5 => ∃ (x3 : Int) (x4 : Bool), v2 = .tuple #[.int .i64 x3, .bool x4] ∧
 (cond x4 (∃ (x5a : Option Addr) (x5n x5c : Nat) (x6a : Option Addr) (x6n x6c : Nat), w5.cell? (Addr.mk b 0 none) = some (.slice x5a x5n x5c) ∧ w5.cell? ((Addr.mk b 0 none).add 1) = some (.slice x6a x6n x6c) ∧
 (Cl Tryz.prog 62 #[.agg #[.slice x5a x5n x5c, .slice x6a x6n x6c]] w5 fun v3 w6 => ∃ (x7a : Option Addr) (x7n x7c : Nat) (x8a : Option Addr) (x8n x8c : Nat), v3 = .agg #[.slice x7a x7n x7c, .slice x8a x8n x8c] ∧ ((w6.cell? (Addr.mk b2 0 none)).isSome = true ∧ w6.frozen? (Addr.mk b2 0 none) = false ∧ ((w6.cell? ((Addr.mk b2 0 none).add 1)).isSome = true ∧ w6.frozen? ((Addr.mk b2 0 none).add 1) = false ∧
 (∀ w7 : World, w7 = (w6.setCell (Addr.mk b2 0 none) (.slice x7a x7n x7c)).setCell ((Addr.mk b2 0 none).add 1) (.slice x8a x8n x8c) →
 (∃ (r3a : Option Addr) (r3n r3c : Nat) (r4a : Option Addr) (r4n r4c : Nat), w7.cell? (Addr.mk b2 0 none) = some (.slice r3a r3n r3c) ∧ w7.cell? ((Addr.mk b2 0 none).add 1) = some (.slice r4a r4n r4c) ∧ (R (.tuple #[.agg #[.slice r3a r3n r3c, .slice r4a r4n r4c], .int .i64 x3, .int .i64 0]) w7))))))) (∃ (Jm : Int → World → Prop), (∃ (Jv : Int → World → Prop) (mu : Int → World → Nat), Jv 1 w5 ∧ ∀ (jk_2 : Nat → Value) (w8 : World), ∀ (n2 : Int), Jv n2 w8 →
 (∃ (x9a : Option Addr) (x9n x9c : Nat) (x10a : Option Addr) (x10n x10c : Nat), w8.cell? (Addr.mk b 0 none) = some (.slice x9a x9n x9c) ∧ w8.cell? ((Addr.mk b 0 none).add 1) = some (.slice x10a x10n x10c) ∧
 (Cl Tryz.prog 60 #[.agg #[.slice x9a x9n x9c, .slice x10a x10n x10c], .int .i64 n2] w8 fun v4 w9 => ∃ (x11 : Bool), v4 = .bool x11 ∧
 (cond x11 (Jv (IntKind.i64.wrap (n2 + 1)) w9 ∧ mu (IntKind.i64.wrap (n2 + 1)) w9 < mu n2 w8) (Jm n2 w9))))) ∧ ∀ (jk_ : Nat → Value) (w10 : World), ∀ (n : Int), Jm n w10 →
 (∃ (x12a : Option Addr) (x12n x12c : Nat), w10.cell? ((Addr.mk b 0 none).add 1) = some (.slice x12a x12n x12c) ∧
 (Cl Tryz.prog 87 #[.agg #[.slice x12a x12n x12c], .slice la ln lc, .int .i64 n] w10 fun v5 w11 => ∃ (x13a : Option Addr) (x13n x13c : Nat) (x14 : Int), v5 = .tuple #[.agg #[.slice x13a x13n x13c], .int .i64 x14] ∧
 (∀ (b3 : Nat) (w12 : World), b3 = w11.heap.size → w12 = w11.alloc (.cells #[.slice none 0 0] 25) → ((w12.cell? (Addr.mk b3 0 none)).isSome = true ∧ w12.frozen? (Addr.mk b3 0 none) = false ∧
 (∀ w13 : World, w13 = w12.setCell (Addr.mk b3 0 none) (.slice x13a x13n x13c) →
 (cond (x14 != 0) ((w13.cell? (Addr.mk b2 0 none)).isSome = true ∧ w13.frozen? (Addr.mk b2 0 none) = false ∧ ((w13.cell? ((Addr.mk b2 0 none).add 1)).isSome = true ∧ w13.frozen? ((Addr.mk b2 0 none).add 1) = false ∧
 (∀ w14 : World, w14 = (w13.setCell (Addr.mk b2 0 none) (.slice none 0 0)).setCell ((Addr.mk b2 0 none).add 1) (.slice none 0 0) →
 (∃ (r5a : Option Addr) (r5n r5c : Nat) (r6a : Option Addr) (r6n r6c : Nat), w14.cell? (Addr.mk b2 0 none) = some (.slice r5a r5n r5c) ∧ w14.cell? ((Addr.mk b2 0 none).add 1) = some (.slice r6a r6n r6c) ∧ (R (.tuple #[.agg #[.slice r5a r5n r5c, .slice r6a r6n r6c], .int .i64 0, .int .i64 x14]) w14))))) (∃ (x15a : Option Addr) (x15n x15c : Nat), w13.cell? (Addr.mk b3 0 none) = some (.slice x15a x15n x15c) ∧ ((w13.cell? ((Addr.mk b 0 none).add 1)).isSome = true ∧ w13.frozen? ((Addr.mk b 0 none).add 1) = false ∧
 (∀ w15 : World, w15 = w13.setCell ((Addr.mk b 0 none).add 1) (.slice x15a x15n x15c) →
 (∃ (x16a : Option Addr) (x16n x16c : Nat) (x17a : Option Addr) (x17n x17c : Nat), w15.cell? (Addr.mk b 0 none) = some (.slice x16a x16n x16c) ∧ w15.cell? ((Addr.mk b 0 none).add 1) = some (.slice x17a x17n x17c) ∧
 (Cl Tryz.prog 62 #[.agg #[.slice x16a x16n x16c, .slice x17a x17n x17c]] w15 fun v6 w16 => ∃ (x18a : Option Addr) (x18n x18c : Nat) (x19a : Option Addr) (x19n x19c : Nat), v6 = .agg #[.slice x18a x18n x18c, .slice x19a x19n x19c] ∧ ((w16.cell? (Addr.mk b 0 none)).isSome = true ∧ w16.frozen? (Addr.mk b 0 none) = false ∧ ((w16.cell? ((Addr.mk b 0 none).add 1)).isSome = true ∧ w16.frozen? ((Addr.mk b 0 none).add 1) = false ∧
 (∀ w17 : World, w17 = (w16.setCell (Addr.mk b 0 none) (.slice x18a x18n x18c)).setCell ((Addr.mk b 0 none).add 1) (.slice x19a x19n x19c) →
 (∃ (x20a : Option Addr) (x20n x20c : Nat), w17.cell? (Addr.mk b 0 none) = some (.slice x20a x20n x20c) ∧
 (cond (decide ((x20n : Int) < n)) (∃ (x21a : Option Addr) (x21n x21c : Nat), w17.cell? (Addr.mk b 0 none) = some (.slice x21a x21n x21c) ∧
 (∀ (b4 : Nat) (w18 : World), b4 = w17.heap.size → w18 = w17.alloc (.cells #[.bool false, .slice none 0 0, .slice none 0 0, .slice none 0 0] 56) →
 (∃ (x22a : Option Addr) (x22n x22c : Nat) (w19 : World), Sem.run Tryz.prog (Builtin.append_ #[22, 22] 22 #[.slice x21a x21n x21c, .slice (some (Addr.mk b4 0 none)) 1 1]) w18 = .ok (.slice x22a x22n x22c) w19 ∧ ((w19.cell? (Addr.mk b 0 none)).isSome = true ∧ w19.frozen? (Addr.mk b 0 none) = false ∧
 (∀ w20 : World, w20 = w19.setCell (Addr.mk b 0 none) (.slice x22a x22n x22c) →
 (∀ w21 : World, w21 = w20.drew →
 (∃ (x23a : Option Addr) (x23n x23c : Nat), w21.cell? (Addr.mk b 0 none) = some (.slice x23a x23n x23c) ∧
 (Cl Tryz.prog 69 #[.slice la ln lc] w21 fun v7 w22 => ∃ (x24a : Option Addr) (x24n x24c : Nat), v7 = .slice x24a x24n x24c ∧ (w22.cell? (Addr.mk b 0 none) = some (.slice x23a x23n x23c) ∧
 (∃ p : Addr, x23a = some p ∧ 0 ≤ (IntKind.i64.wrap (n - 1)) ∧ (IntKind.i64.wrap (n - 1)) < (x23n : Int) ∧ ((w22.cell? (p.add (((IntKind.i64.wrap (n - 1))).toNat * 4))).isSome = true ∧ w22.frozen? (p.add (((IntKind.i64.wrap (n - 1))).toNat * 4)) = false ∧ ((w22.cell? ((p.add (((IntKind.i64.wrap (n - 1))).toNat * 4)).add 1)).isSome = true ∧ w22.frozen? ((p.add (((IntKind.i64.wrap (n - 1))).toNat * 4)).add 1) = false ∧ ((w22.cell? ((p.add (((IntKind.i64.wrap (n - 1))).toNat * 4)).add 2)).isSome = true ∧ w22.frozen? ((p.add (((IntKind.i64.wrap (n - 1))).toNat * 4)).add 2) = false ∧ ((w22.cell? ((p.add (((IntKind.i64.wrap (n - 1))).toNat * 4)).add 3)).isSome = true ∧ w22.frozen? ((p.add (((IntKind.i64.wrap (n - 1))).toNat * 4)).add 3) = false ∧
 (∀ w23 : World, w23 = (((w22.setCell (p.add (((IntKind.i64.wrap (n - 1))).toNat * 4)) (.bool true)).setCell ((p.add (((IntKind.i64.wrap (n - 1))).toNat * 4)).add 1) (.slice x24a x24n x24c)).setCell ((p.add (((IntKind.i64.wrap (n - 1))).toNat * 4)).add 2) (.slice none 0 0)).setCell ((p.add (((IntKind.i64.wrap (n - 1))).toNat * 4)).add 3) (.slice none 0 0) →
 (∃ (x25a : Option Addr) (x25n x25c : Nat) (x26a : Option Addr) (x26n x26c : Nat), w23.cell? (Addr.mk b 0 none) = some (.slice x25a x25n x25c) ∧ w23.cell? ((Addr.mk b 0 none).add 1) = some (.slice x26a x26n x26c) ∧ ((w23.cell? (Addr.mk b2 0 none)).isSome = true ∧ w23.frozen? (Addr.mk b2 0 none) = false ∧ ((w23.cell? ((Addr.mk b2 0 none).add 1)).isSome = true ∧ w23.frozen? ((Addr.mk b2 0 none).add 1) = false ∧
 (∀ w24 : World, w24 = (w23.setCell (Addr.mk b2 0 none) (.slice x25a x25n x25c)).setCell ((Addr.mk b2 0 none).add 1) (.slice x26a x26n x26c) →
 (∃ (r7a : Option Addr) (r7n r7c : Nat) (r8a : Option Addr) (r8n r8c : Nat), w24.cell? (Addr.mk b2 0 none) = some (.slice r7a r7n r7c) ∧ w24.cell? ((Addr.mk b2 0 none).add 1) = some (.slice r8a r8n r8c) ∧ (R (.tuple #[.agg #[.slice r7a r7n r7c, .slice r8a r8n r8c], .int .i64 n, .int .i64 0]) w24))))))))))))))))))))) (∀ w25 : World, w25 = w17.drew →
 (∃ (x27a : Option Addr) (x27n x27c : Nat), w25.cell? (Addr.mk b 0 none) = some (.slice x27a x27n x27c) ∧
 (Cl Tryz.prog 69 #[.slice la ln lc] w25 fun v8 w26 => ∃ (x28a : Option Addr) (x28n x28c : Nat), v8 = .slice x28a x28n x28c ∧ (w26.cell? (Addr.mk b 0 none) = some (.slice x27a x27n x27c) ∧
 (∃ p2 : Addr, x27a = some p2 ∧ 0 ≤ (IntKind.i64.wrap (n - 1)) ∧ (IntKind.i64.wrap (n - 1)) < (x27n : Int) ∧ ((w26.cell? (p2.add (((IntKind.i64.wrap (n - 1))).toNat * 4))).isSome = true ∧ w26.frozen? (p2.add (((IntKind.i64.wrap (n - 1))).toNat * 4)) = false ∧ ((w26.cell? ((p2.add (((IntKind.i64.wrap (n - 1))).toNat * 4)).add 1)).isSome = true ∧ w26.frozen? ((p2.add (((IntKind.i64.wrap (n - 1))).toNat * 4)).add 1) = false ∧ ((w26.cell? ((p2.add (((IntKind.i64.wrap (n - 1))).toNat * 4)).add 2)).isSome = true ∧ w26.frozen? ((p2.add (((IntKind.i64.wrap (n - 1))).toNat * 4)).add 2) = false ∧ ((w26.cell? ((p2.add (((IntKind.i64.wrap (n - 1))).toNat * 4)).add 3)).isSome = true ∧ w26.frozen? ((p2.add (((IntKind.i64.wrap (n - 1))).toNat * 4)).add 3) = false ∧
 (∀ w27 : World, w27 = (((w26.setCell (p2.add (((IntKind.i64.wrap (n - 1))).toNat * 4)) (.bool true)).setCell ((p2.add (((IntKind.i64.wrap (n - 1))).toNat * 4)).add 1) (.slice x28a x28n x28c)).setCell ((p2.add (((IntKind.i64.wrap (n - 1))).toNat * 4)).add 2) (.slice none 0 0)).setCell ((p2.add (((IntKind.i64.wrap (n - 1))).toNat * 4)).add 3) (.slice none 0 0) →
 (∃ (x29a : Option Addr) (x29n x29c : Nat) (x30a : Option Addr) (x30n x30c : Nat), w27.cell? (Addr.mk b 0 none) = some (.slice x29a x29n x29c) ∧ w27.cell? ((Addr.mk b 0 none).add 1) = some (.slice x30a x30n x30c) ∧ ((w27.cell? (Addr.mk b2 0 none)).isSome = true ∧ w27.frozen? (Addr.mk b2 0 none) = false ∧ ((w27.cell? ((Addr.mk b2 0 none).add 1)).isSome = true ∧ w27.frozen? ((Addr.mk b2 0 none).add 1) = false ∧
 (∀ w28 : World, w28 = (w27.setCell (Addr.mk b2 0 none) (.slice x29a x29n x29c)).setCell ((Addr.mk b2 0 none).add 1) (.slice x30a x30n x30c) →
 (∃ (r9a : Option Addr) (r9n r9c : Nat) (r10a : Option Addr) (r10n r10c : Nat), w28.cell? (Addr.mk b2 0 none) = some (.slice r9a r9n r9c) ∧ w28.cell? ((Addr.mk b2 0 none).add 1) = some (.slice r10a r10n r10c) ∧ (R (.tuple #[.agg #[.slice r9a r9n r9c, .slice r10a r10n r10c], .int .i64 n, .int .i64 0]) w28)))))))))))))))))))))))))))))))))))))))
theorem c52 (ga : Option Addr) (gn gc : Nat) (g2a : Option Addr) (g2n g2c : Nat) (la : Option Addr) (ln lc : Nat) {w : World} {R : Value → World → Prop} (hV : V52 ga gn gc g2a g2n g2c la ln lc w R) : Cl Tryz.prog 52 #[.agg #[.slice ga gn gc, .slice g2a g2n g2c], .slice la ln lc] w R :=
 fn_sound hmTryz (TT := []) (f := 52) Tryz.func52 (ent_of Tryz.func52 (by kernel_rfl) rfl) (Eq.mpr (by kernel_rfl) hV)
/-- windrose/graph.gone -/
def V53 (ga : Option Addr) (gn gc : Nat) (g2a : Option Addr) (g2n g2c : Nat) (n id : Int) (plus : Bool) (turnf : FuncId) (turnc : List Value) (w : World) (R : Value → World → Prop) : Prop :=
 ∀ (b : Nat) (w1 : World), b = w.heap.size → w1 = w.alloc (.cells #[.slice ga gn gc, .slice g2a g2n g2c] 27) →
 (∀ (b2 : Nat) (w2 : World), b2 = w1.heap.size → w2 = w1.alloc (.cells #[.int .u64 id] 32) →
 (∀ (b3 : Nat) (w3 : World), b3 = w2.heap.size → w3 = w2.alloc (.cells #[.slice none 0 0, .slice none 0 0] 27) →
 (∃ (x1a : Option Addr) (x1n x1c : Nat) (x2a : Option Addr) (x2n x2c : Nat), w3.cell? (Addr.mk b 0 none) = some (.slice x1a x1n x1c) ∧ w3.cell? ((Addr.mk b 0 none).add 1) = some (.slice x2a x2n x2c) ∧
 (Cl Tryz.prog 26 #[.agg #[.slice x1a x1n x1c, .slice x2a x2n x2c]] w3 fun v w4 => ∃ (x3 : Int), v = .int .i64 x3 ∧
 (cond (x3 != 0) ((w4.cell? (Addr.mk b3 0 none)).isSome = true ∧ w4.frozen? (Addr.mk b3 0 none) = false ∧ ((w4.cell? ((Addr.mk b3 0 none).add 1)).isSome = true ∧ w4.frozen? ((Addr.mk b3 0 none).add 1) = false ∧
 (∀ w5 : World, w5 = (w4.setCell (Addr.mk b3 0 none) (.slice none 0 0)).setCell ((Addr.mk b3 0 none).add 1) (.slice none 0 0) →
 (∃ (ra : Option Addr) (rn rc : Nat) (r2a : Option Addr) (r2n r2c : Nat), w5.cell? (Addr.mk b3 0 none) = some (.slice ra rn rc) ∧ w5.cell? ((Addr.mk b3 0 none).add 1) = some (.slice r2a r2n r2c) ∧ (R (.tuple #[.agg #[.slice ra rn rc, .slice r2a r2n r2c], .int .i64 0, .int .i64 x3]) w5))))) (∃ (x4a : Option Addr) (x4n x4c : Nat) (x5a : Option Addr) (x5n x5c : Nat), w4.cell? (Addr.mk b 0 none) = some (.slice x4a x4n x4c) ∧ w4.cell? ((Addr.mk b 0 none).add 1) = some (.slice x5a x5n x5c) ∧
 (Cl Tryz.prog 60 #[.agg #[.slice x4a x4n x4c, .slice x5a x5n x5c], .int .i64 n] w4 fun v2 w6 => ∃ (x6 : Bool), v2 = .bool x6 ∧
 (cond (!x6) ((w6.cell? (Addr.mk b3 0 none)).isSome = true ∧ w6.frozen? (Addr.mk b3 0 none) = false ∧ ((w6.cell? ((Addr.mk b3 0 none).add 1)).isSome = true ∧ w6.frozen? ((Addr.mk b3 0 none).add 1) = false ∧
 (∀ w7 : World, w7 = (w6.setCell (Addr.mk b3 0 none) (.slice none 0 0)).setCell ((Addr.mk b3 0 none).add 1) (.slice none 0 0) →
 (∃ (r3a : Option Addr) (r3n r3c : Nat) (r4a : Option Addr) (r4n r4c : Nat), w7.cell? (Addr.mk b3 0 none) = some (.slice r3a r3n r3c) ∧ w7.cell? ((Addr.mk b3 0 none).add 1) = some (.slice r4a r4n r4c) ∧ (R (.tuple #[.agg #[.slice r3a r3n r3c, .slice r4a r4n r4c], .int .i64 0, .int .i64 2]) w7))))) (∃ (x7a : Option Addr) (x7n x7c : Nat), w6.cell? (Addr.mk b 0 none) = some (.slice x7a x7n x7c) ∧
 (∃ p : Addr, x7a = some p ∧ 0 ≤ (IntKind.i64.wrap (n - 1)) ∧ (IntKind.i64.wrap (n - 1)) < (x7n : Int) ∧
 (∃ (x8a : Option Addr) (x8n x8c : Nat), w6.cell? ((p.add (((IntKind.i64.wrap (n - 1))).toNat * 4)).add 1) = some (.slice x8a x8n x8c) ∧
 (∃ (x9 : Int), w6.cell? (Addr.mk b2 0 none) = some (.int .u64 x9) ∧
 (Cl Tryz.prog turnf (([.slice x8a x8n x8c, .int .u64 x9] : List Value) ++ turnc).toArray w6 fun v3 w8 => ∃ (x10a : Option Addr) (x10n x10c : Nat) (x11 : Int), v3 = .tuple #[.slice x10a x10n x10c, .int .i64 x11] ∧
 (cond (x11 != 0) ((w8.cell? (Addr.mk b3 0 none)).isSome = true ∧ w8.frozen? (Addr.mk b3 0 none) = false ∧ ((w8.cell? ((Addr.mk b3 0 none).add 1)).isSome = true ∧ w8.frozen? ((Addr.mk b3 0 none).add 1) = false ∧
 (∀ w9 : World, w9 = (w8.setCell (Addr.mk b3 0 none) (.slice none 0 0)).setCell ((Addr.mk b3 0 none).add 1) (.slice none 0 0) →
 (∃ (r5a : Option Addr) (r5n r5c : Nat) (r6a : Option Addr) (r6n r6c : Nat), w9.cell? (Addr.mk b3 0 none) = some (.slice r5a r5n r5c) ∧ w9.cell? ((Addr.mk b3 0 none).add 1) = some (.slice r6a r6n r6c) ∧ (R (.tuple #[.agg #[.slice r5a r5n r5c, .slice r6a r6n r6c], .int .i64 0, .int .i64 x11]) w9)))))
 (Cl Tryz.prog 22 #[.slice x10a x10n x10c, .slice x8a x8n x8c] w8 fun v4 w10 => ∃ (x12 : Bool), v4 = .bool x12 ∧
 (cond x12 (∃ (x13a : Option Addr) (x13n x13c : Nat) (x14a : Option Addr) (x14n x14c : Nat), w10.cell? (Addr.mk b 0 none) = some (.slice x13a x13n x13c) ∧ w10.cell? ((Addr.mk b 0 none).add 1) = some (.slice x14a x14n x14c) ∧
 (Cl Tryz.prog 62 #[.agg #[.slice x13a x13n x13c, .slice x14a x14n x14c]] w10 fun v5 w11 => ∃ (x15a : Option Addr) (x15n x15c : Nat) (x16a : Option Addr) (x16n x16c : Nat), v5 = .agg #[.slice x15a x15n x15c, .slice x16a x16n x16c] ∧ ((w11.cell? (Addr.mk b3 0 none)).isSome = true ∧ w11.frozen? (Addr.mk b3 0 none) = false ∧ ((w11.cell? ((Addr.mk b3 0 none).add 1)).isSome = true ∧ w11.frozen? ((Addr.mk b3 0 none).add 1) = false ∧
 (∀ w12 : World, w12 = (w11.setCell (Addr.mk b3 0 none) (.slice x15a x15n x15c)).setCell ((Addr.mk b3 0 none).add 1) (.slice x16a x16n x16c) →
 (∃ (r7a : Option Addr) (r7n r7c : Nat) (r8a : Option Addr) (r8n r8c : Nat), w12.cell? (Addr.mk b3 0 none) = some (.slice r7a r7n r7c) ∧ w12.cell? ((Addr.mk b3 0 none).add 1) = some (.slice r8a r8n r8c) ∧ (R (.tuple #[.agg #[.slice r7a r7n r7c, .slice r8a r8n r8c], .int .i64 n, .int .i64 0]) w12))))))) (∃ (x17a : Option Addr) (x17n x17c : Nat) (x18a : Option Addr) (x18n x18c : Nat), w10.cell? (Addr.mk b 0 none) = some (.slice x17a x17n x17c) ∧ w10.cell? ((Addr.mk b 0 none).add 1) = some (.slice x18a x18n x18c) ∧
 (Cl Tryz.prog 52 #[.agg #[.slice x17a x17n x17c, .slice x18a x18n x18c], .slice x10a x10n x10c] w10 fun v6 w13 => ∃ (x19a : Option Addr) (x19n x19c : Nat) (x20a : Option Addr) (x20n x20c : Nat) (x21 x22 : Int), v6 = .tuple #[.agg #[.slice x19a x19n x19c, .slice x20a x20n x20c], .int .i64 x21, .int .i64 x22] ∧ ((w13.cell? (Addr.mk b 0 none)).isSome = true ∧ w13.frozen? (Addr.mk b 0 none) = false ∧ ((w13.cell? ((Addr.mk b 0 none).add 1)).isSome = true ∧ w13.frozen? ((Addr.mk b 0 none).add 1) = false ∧
 (∀ w14 : World, w14 = (w13.setCell (Addr.mk b 0 none) (.slice x19a x19n x19c)).setCell ((Addr.mk b 0 none).add 1) (.slice x20a x20n x20c) →
 (cond (x22 != 0) ((w14.cell? (Addr.mk b3 0 none)).isSome = true ∧ w14.frozen? (Addr.mk b3 0 none) = false ∧ ((w14.cell? ((Addr.mk b3 0 none).add 1)).isSome = true ∧ w14.frozen? ((Addr.mk b3 0 none).add 1) = false ∧
 (∀ w15 : World, w15 = (w14.setCell (Addr.mk b3 0 none) (.slice none 0 0)).setCell ((Addr.mk b3 0 none).add 1) (.slice none 0 0) →
 (∃ (r9a : Option Addr) (r9n r9c : Nat) (r10a : Option Addr) (r10n r10c : Nat), w15.cell? (Addr.mk b3 0 none) = some (.slice r9a r9n r9c) ∧ w15.cell? ((Addr.mk b3 0 none).add 1) = some (.slice r10a r10n r10c) ∧ (R (.tuple #[.agg #[.slice r9a r9n r9c, .slice r10a r10n r10c], .int .i64 0, .int .i64 x22]) w15))))) (∀ w16 : World, w16 = w14.drew →
 (∃ (x23a : Option Addr) (x23n x23c : Nat), w16.cell? (Addr.mk b 0 none) = some (.slice x23a x23n x23c) ∧
 (∃ p2 : Addr, x23a = some p2 ∧ 0 ≤ (IntKind.i64.wrap (n - 1)) ∧ (IntKind.i64.wrap (n - 1)) < (x23n : Int) ∧
 (∃ (x24a : Option Addr) (x24n x24c : Nat), w16.cell? (Addr.mk b 0 none) = some (.slice x24a x24n x24c) ∧
 (∃ p3 : Addr, x24a = some p3 ∧ 0 ≤ (IntKind.i64.wrap (x21 - 1)) ∧ (IntKind.i64.wrap (x21 - 1)) < (x24n : Int) ∧
 (cond plus (∃ p4 : Addr, some (p2.add (((IntKind.i64.wrap (n - 1))).toNat * 4)) = some p4 ∧
 (Cl Tryz.prog 100 #[.pointer (some (p4.add 2)), .int .i64 x21, .pointer (some (Addr.mk b2 0 none))] w16 fun v7 w17 => v7 = undef ∧
 (∃ p5 : Addr, some (p3.add (((IntKind.i64.wrap (x21 - 1))).toNat * 4)) = some p5 ∧
 (Cl Tryz.prog 100 #[.pointer (some (p5.add 3)), .int .i64 n, .pointer (some (Addr.mk b2 0 none))] w17 fun v8 w18 => v8 = undef ∧
 (∃ (x25a : Option Addr) (x25n x25c : Nat) (x26a : Option Addr) (x26n x26c : Nat), w18.cell? (Addr.mk b 0 none) = some (.slice x25a x25n x25c) ∧ w18.cell? ((Addr.mk b 0 none).add 1) = some (.slice x26a x26n x26c) ∧ ((w18.cell? (Addr.mk b3 0 none)).isSome = true ∧ w18.frozen? (Addr.mk b3 0 none) = false ∧ ((w18.cell? ((Addr.mk b3 0 none).add 1)).isSome = true ∧ w18.frozen? ((Addr.mk b3 0 none).add 1) = false ∧
 (∀ w19 : World, w19 = (w18.setCell (Addr.mk b3 0 none) (.slice x25a x25n x25c)).setCell ((Addr.mk b3 0 none).add 1) (.slice x26a x26n x26c) →
 (∃ (r11a : Option Addr) (r11n r11c : Nat) (r12a : Option Addr) (r12n r12c : Nat), w19.cell? (Addr.mk b3 0 none) = some (.slice r11a r11n r11c) ∧ w19.cell? ((Addr.mk b3 0 none).add 1) = some (.slice r12a r12n r12c) ∧ (R (.tuple #[.agg #[.slice r11a r11n r11c, .slice r12a r12n r12c], .int .i64 x21, .int .i64 0]) w19)))))))))) (∃ p6 : Addr, some (p2.add (((IntKind.i64.wrap (n - 1))).toNat * 4)) = some p6 ∧
 (Cl Tryz.prog 100 #[.pointer (some (p6.add 3)), .int .i64 x21, .pointer (some (Addr.mk b2 0 none))] w16 fun v9 w20 => v9 = undef ∧
 (∃ p7 : Addr, some (p3.add (((IntKind.i64.wrap (x21 - 1))).toNat * 4)) = some p7 ∧
 (Cl Tryz.prog 100 #[.pointer (some (p7.add 2)), .int .i64 n, .pointer (some (Addr.mk b2 0 none))] w20 fun v10 w21 => v10 = undef ∧
 (∃ (x27a : Option Addr) (x27n x27c : Nat) (x28a : Option Addr) (x28n x28c : Nat), w21.cell? (Addr.mk b 0 none) = some (.slice x27a x27n x27c) ∧ w21.cell? ((Addr.mk b 0 none).add 1) = some (.slice x28a x28n x28c) ∧ ((w21.cell? (Addr.mk b3 0 none)).isSome = true ∧ w21.frozen? (Addr.mk b3 0 none) = false ∧ ((w21.cell? ((Addr.mk b3 0 none).add 1)).isSome = true ∧ w21.frozen? ((Addr.mk b3 0 none).add 1) = false ∧
 (∀ w22 : World, w22 = (w21.setCell (Addr.mk b3 0 none) (.slice x27a x27n x27c)).setCell ((Addr.mk b3 0 none).add 1) (.slice x28a x28n x28c) →
 (∃ (r13a : Option Addr) (r13n r13c : Nat) (r14a : Option Addr) (r14n r14c : Nat), w22.cell? (Addr.mk b3 0 none) = some (.slice r13a r13n r13c) ∧ w22.cell? ((Addr.mk b3 0 none).add 1) = some (.slice r14a r14n r14c) ∧ (R (.tuple #[.agg #[.slice r13a r13n r13c, .slice r14a r14n r14c], .int .i64 x21, .int .i64 0]) w22))))))))))))))))))))))))))))))))))))))
theorem c53 (ga : Option Addr) (gn gc : Nat) (g2a : Option Addr) (g2n g2c : Nat) (n id : Int) (plus : Bool) (turnf : FuncId) (turnc : List Value) {w : World} {R : Value → World → Prop} (hV : V53 ga gn gc g2a g2n g2c n id plus turnf turnc w R) : Cl Tryz.prog 53 #[.agg #[.slice ga gn gc, .slice g2a g2n g2c], .int .i64 n, .int .u64 id, .bool plus, .func (.func turnf) #[] turnc.toArray] w R :=
 fn_sound hmTryz (TT := []) (f := 53) Tryz.func53 (ent_of Tryz.func53 (by kernel_rfl) rfl) (Eq.mpr (by kernel_rfl) hV)
/-- windrose/types.Without -/
def V54 (la : Option Addr) (ln lc : Nat) (id : Int) (w : World) (R : Value → World → Prop) : Prop :=
 Cl Tryz.prog 39 #[.slice la ln lc] w fun v w1 => ∃ (x1 : Int), v = .int .i64 x1 ∧
 (cond (x1 != 0) (R (.tuple #[.slice none 0 0, .int .i64 x1]) w1)
 (Cl Tryz.prog 104 #[.slice la ln lc, .int .u64 id] w1 fun v2 w2 => ∃ (x2 : Int) (x3 : Bool), v2 = .tuple #[.int .i64 x2, .bool x3] ∧
 (cond (!x3) (R (.tuple #[.slice none 0 0, .int .i64 4]) w2)
 (Cl Tryz.prog 71 #[.slice la ln lc] w2 fun v3 w3 => ∃ (x4a : Option Addr) (x4n x4c : Nat), v3 = .slice x4a x4n x4c ∧
 (Cl Tryz.prog 105 #[.slice x4a x4n x4c, .int .i64 x2, .int .i64 (IntKind.i64.wrap (x2 + 1))] w3 fun v4 w4 => ∃ (x5a : Option Addr) (x5n x5c : Nat), v4 = .slice x5a x5n x5c ∧ (R (.tuple #[.slice x5a x5n x5c, .int .i64 0]) w4))))))
theorem c54 (la : Option Addr) (ln lc : Nat) (id : Int) {w : World} {R : Value → World → Prop} (hV : V54 la ln lc id w R) : Cl Tryz.prog 54 #[.slice la ln lc, .int .u64 id] w R :=
 fn_sound hmTryz (TT := []) (f := 54) Tryz.func54 (ent_of Tryz.func54 (by kernel_rfl) rfl) (Eq.mpr (by kernel_rfl) hV)
end Go.Eng
namespace Go.Eng
open Go Go.Proofs
set_option maxRecDepth 100000
set_option maxHeartbeats 4000000
/-- windrose/graph.is -/
def V60 (ga : Option Addr) (gn gc : Nat) (g2a : Option Addr) (g2n g2c : Nat) (n : Int) (w : World) (R : Value → World → Prop) : Prop :=
 ∀ (b : Nat) (w1 : World), b = w.heap.size → w1 = w.alloc (.cells #[.slice ga gn gc, .slice g2a g2n g2c] 27) →
 (cond (decide (1 ≤ n)) (∃ (x1a : Option Addr) (x1n x1c : Nat), w1.cell? (Addr.mk b 0 none) = some (.slice x1a x1n x1c) ∧
 (cond (decide (n ≤ (x1n : Int))) (∃ (x2a : Option Addr) (x2n x2c : Nat), w1.cell? (Addr.mk b 0 none) = some (.slice x2a x2n x2c) ∧
 (∃ p : Addr, x2a = some p ∧ 0 ≤ (IntKind.i64.wrap (n - 1)) ∧ (IntKind.i64.wrap (n - 1)) < (x2n : Int) ∧
 (∃ (x3 : Bool), w1.cell? (p.add (((IntKind.i64.wrap (n - 1))).toNat * 4)) = some (.bool x3) ∧ (R (.bool x3) w1)))) (R (.bool false) w1))) (R (.bool false) w1))
theorem c60 (ga : Option Addr) (gn gc : Nat) (g2a : Option Addr) (g2n g2c : Nat) (n : Int) {w : World} {R : Value → World → Prop} (hV : V60 ga gn gc g2a g2n g2c n w R) : Cl Tryz.prog 60 #[.agg #[.slice ga gn gc, .slice g2a g2n g2c], .int .i64 n] w R :=
 fn_sound hmTryz (TT := []) (f := 60) Tryz.func60 (ent_of Tryz.func60 (by kernel_rfl) rfl) (Eq.mpr (by kernel_rfl) hV)
/-- windrose/lookup.Drop -/
def V61 (la : Option Addr) (ln lc : Nat) (ta : Option Addr) (tn tc : Nat) (w : World) (R : Value → World → Prop) : Prop :=
 ∀ (b : Nat) (w1 : World), b = w.heap.size → w1 = w.alloc (.cells #[.slice la ln lc] 25) →
 (∀ (b2 : Nat) (w2 : World), b2 = w1.heap.size → w2 = w1.alloc (.cells #[.slice none 0 0] 25) →
 (∃ (x1a : Option Addr) (x1n x1c : Nat), w2.cell? (Addr.mk b 0 none) = some (.slice x1a x1n x1c) ∧
 (Cl Tryz.prog 73 #[.agg #[.slice x1a x1n x1c]] w2 fun v w3 => ∃ (x2 : Int), v = .int .i64 x2 ∧
 (cond (x2 != 0) ((w3.cell? (Addr.mk b2 0 none)).isSome = true ∧ w3.frozen? (Addr.mk b2 0 none) = false ∧
 (∀ w4 : World, w4 = w3.setCell (Addr.mk b2 0 none) (.slice none 0 0) →
 (∃ (ra : Option Addr) (rn rc : Nat), w4.cell? (Addr.mk b2 0 none) = some (.slice ra rn rc) ∧ (R (.tuple #[.agg #[.slice ra rn rc], .int .i64 x2]) w4)))) (∃ (x3a : Option Addr) (x3n x3c : Nat), w3.cell? (Addr.mk b 0 none) = some (.slice x3a x3n x3c) ∧
 (Cl Tryz.prog 107 #[.agg #[.slice x3a x3n x3c], .slice ta tn tc] w3 fun v2 w5 => ∃ (x4 : Int), v2 = .int .i64 x4 ∧
 (cond (decide (x4 < 0)) ((w5.cell? (Addr.mk b2 0 none)).isSome = true ∧ w5.frozen? (Addr.mk b2 0 none) = false ∧
 (∀ w6 : World, w6 = w5.setCell (Addr.mk b2 0 none) (.slice none 0 0) →
 (∃ (r2a : Option Addr) (r2n r2c : Nat), w6.cell? (Addr.mk b2 0 none) = some (.slice r2a r2n r2c) ∧ (R (.tuple #[.agg #[.slice r2a r2n r2c], .int .i64 4]) w6)))) (∃ (x5a : Option Addr) (x5n x5c : Nat), w5.cell? (Addr.mk b 0 none) = some (.slice x5a x5n x5c) ∧
 (Cl Tryz.prog 108 #[.slice x5a x5n x5c] w5 fun v3 w7 => ∃ (x6a : Option Addr) (x6n x6c : Nat), v3 = .slice x6a x6n x6c ∧
 (∀ (b3 : Nat) (w8 : World), b3 = w7.heap.size → w8 = w7.alloc (.cells #[.slice none 0 0] 25) → ((w8.cell? (Addr.mk b3 0 none)).isSome = true ∧ w8.frozen? (Addr.mk b3 0 none) = false ∧
 (∀ w9 : World, w9 = w8.setCell (Addr.mk b3 0 none) (.slice x6a x6n x6c) →
 (∃ (x7a : Option Addr) (x7n x7c : Nat), w9.cell? (Addr.mk b3 0 none) = some (.slice x7a x7n x7c) ∧
 (∃ (Jv : Int → World → Prop) (mu : Int → World → Nat), Jv 0 w9 ∧ ∀ (jk_ : Nat → Value) (w10 : World), ∀ (s30 : Int), Jv s30 w10 →
 (cond (decide (s30 < (x7n : Int))) (∃ p : Addr, x7a = some p ∧ 0 ≤ s30 ∧ s30 < (x7n : Int) ∧
 (∃ (x8 : Int) (x9a : Option Addr) (x9n x9c : Nat) (x10 : Int), w10.cell? (p.add ((s30).toNat * 3)) = some (.int .i64 x8) ∧ w10.cell? ((p.add ((s30).toNat * 3)).add 1) = some (.slice x9a x9n x9c) ∧ w10.cell? ((p.add ((s30).toNat * 3)).add 2) = some (.int .i64 x10) ∧
 (∀ (b4 : Nat) (w11 : World), b4 = w10.heap.size → w11 = w10.alloc (.cells #[.int .i64 0, .slice none 0 0, .int .i64 0] 94) → ((w11.cell? (Addr.mk b4 0 none)).isSome = true ∧ w11.frozen? (Addr.mk b4 0 none) = false ∧ ((w11.cell? ((Addr.mk b4 0 none).add 1)).isSome = true ∧ w11.frozen? ((Addr.mk b4 0 none).add 1) = false ∧ ((w11.cell? ((Addr.mk b4 0 none).add 2)).isSome = true ∧ w11.frozen? ((Addr.mk b4 0 none).add 2) = false ∧
 (∀ w12 : World, w12 = ((w11.setCell (Addr.mk b4 0 none) (.int .i64 x8)).setCell ((Addr.mk b4 0 none).add 1) (.slice x9a x9n x9c)).setCell ((Addr.mk b4 0 none).add 2) (.int .i64 x10) →
 (∀ w13 : World, w13 = w12.drew →
 (∃ (x11a : Option Addr) (x11n x11c : Nat), w13.cell? (Addr.mk b3 0 none) = some (.slice x11a x11n x11c) ∧
 (∃ (x12a : Option Addr) (x12n x12c : Nat), w13.cell? ((Addr.mk b4 0 none).add 1) = some (.slice x12a x12n x12c) ∧
 (Cl Tryz.prog 10 #[.slice x12a x12n x12c] w13 fun v4 w14 => ∃ (x13a : Option Addr) (x13n x13c : Nat), v4 = .slice x13a x13n x13c ∧ (w14.cell? (Addr.mk b3 0 none) = some (.slice x11a x11n x11c) ∧
 (∃ p2 : Addr, x11a = some p2 ∧ 0 ≤ s30 ∧ s30 < (x11n : Int) ∧ ((w14.cell? ((p2.add ((s30).toNat * 3)).add 1)).isSome = true ∧ w14.frozen? ((p2.add ((s30).toNat * 3)).add 1) = false ∧
 (∀ w15 : World, w15 = w14.setCell ((p2.add ((s30).toNat * 3)).add 1) (.slice x13a x13n x13c) → (Jv (IntKind.i64.wrap (s30 + 1)) w15 ∧ mu (IntKind.i64.wrap (s30 + 1)) w15 < mu s30 w10)))))))))))))))) (∃ (x14a : Option Addr) (x14n x14c : Nat), w10.cell? (Addr.mk b3 0 none) = some (.slice x14a x14n x14c) ∧
 (∃ p3 : Addr, x14a = some p3 ∧ 0 ≤ x4 ∧ x4 < (x14n : Int) ∧ ((w10.cell? (p3.add ((x4).toNat * 3))).isSome = true ∧ w10.frozen? (p3.add ((x4).toNat * 3)) = false ∧ ((w10.cell? ((p3.add ((x4).toNat * 3)).add 1)).isSome = true ∧ w10.frozen? ((p3.add ((x4).toNat * 3)).add 1) = false ∧ ((w10.cell? ((p3.add ((x4).toNat * 3)).add 2)).isSome = true ∧ w10.frozen? ((p3.add ((x4).toNat * 3)).add 2) = false ∧
 (∀ w16 : World, w16 = ((w10.setCell (p3.add ((x4).toNat * 3)) (.int .i64 2)).setCell ((p3.add ((x4).toNat * 3)).add 1) (.slice none 0 0)).setCell ((p3.add ((x4).toNat * 3)).add 2) (.int .i64 0) →
 (∃ (x15a : Option Addr) (x15n x15c : Nat), w16.cell? (Addr.mk b3 0 none) = some (.slice x15a x15n x15c) ∧ ((w16.cell? (Addr.mk b2 0 none)).isSome = true ∧ w16.frozen? (Addr.mk b2 0 none) = false ∧
 (∀ w17 : World, w17 = w16.setCell (Addr.mk b2 0 none) (.slice x15a x15n x15c) →
 (∃ (r3a : Option Addr) (r3n r3c : Nat), w17.cell? (Addr.mk b2 0 none) = some (.slice r3a r3n r3c) ∧ (R (.tuple #[.agg #[.slice r3a r3n r3c], .int .i64 0]) w17))))))))))))))))))))))))))
theorem c61 (la : Option Addr) (ln lc : Nat) (ta : Option Addr) (tn tc : Nat) {w : World} {R : Value → World → Prop} (hV : V61 la ln lc ta tn tc w R) : Cl Tryz.prog 61 #[.agg #[.slice la ln lc], .slice ta tn tc] w R :=
 fn_sound hmTryz (TT := []) (f := 61) Tryz.func61 (ent_of Tryz.func61 (by kernel_rfl) rfl) (Eq.mpr (by kernel_rfl) hV)
/-- windrose/graph.own -/
def V62 (ga : Option Addr) (gn gc : Nat) (g2a : Option Addr) (g2n g2c : Nat) (w : World) (R : Value → World → Prop) : Prop :=
 ∀ (b : Nat) (w1 : World), b = w.heap.size → w1 = w.alloc (.cells #[.slice ga gn gc, .slice g2a g2n g2c] 27) →
 (∀ (b2 : Nat) (w2 : World), b2 = w1.heap.size → w2 = w1.alloc (.cells #[.slice none 0 0, .slice none 0 0] 27) →
 (∀ w3 : World, w3 = w2.drew →
 (∃ (x1a : Option Addr) (x1n x1c : Nat), w3.cell? (Addr.mk b 0 none) = some (.slice x1a x1n x1c) ∧
 (∃ (x2a : Option Addr) (x2n x2c : Nat), w3.cell? ((Addr.mk b 0 none).add 1) = some (.slice x2a x2n x2c) ∧
 (Cl Tryz.prog 109 #[.slice x1a x1n x1c] w3 fun v w4 => ∃ (x3a : Option Addr) (x3n x3c : Nat), v = .slice x3a x3n x3c ∧ (w4.cell? ((Addr.mk b 0 none).add 1) = some (.slice x2a x2n x2c) ∧
 (Cl Tryz.prog 110 #[.slice x2a x2n x2c] w4 fun v2 w5 => ∃ (x4a : Option Addr) (x4n x4c : Nat), v2 = .slice x4a x4n x4c ∧ ((w5.cell? (Addr.mk b 0 none)).isSome = true ∧ w5.frozen? (Addr.mk b 0 none) = false ∧
 (∀ w6 : World, w6 = w5.setCell (Addr.mk b 0 none) (.slice x3a x3n x3c) → ((w6.cell? ((Addr.mk b 0 none).add 1)).isSome = true ∧ w6.frozen? ((Addr.mk b 0 none).add 1) = false ∧
 (∀ w7 : World, w7 = w6.setCell ((Addr.mk b 0 none).add 1) (.slice x4a x4n x4c) →
 (∃ (x5a : Option Addr) (x5n x5c : Nat), w7.cell? (Addr.mk b 0 none) = some (.slice x5a x5n x5c) ∧
 (∃ (Jm : Int → World → Prop), (∃ (Jv : Int → World → Prop) (mu : Int → World → Nat), Jv 0 w7 ∧ ∀ (jk_2 : Nat → Value) (w8 : World), ∀ (s202 : Int), Jv s202 w8 →
 (cond (decide (s202 < (x5n : Int))) (∃ p : Addr, x5a = some p ∧ 0 ≤ s202 ∧ s202 < (x5n : Int) ∧
 (∃ (x6 : Bool) (x7a : Option Addr) (x7n x7c : Nat) (x8a : Option Addr) (x8n x8c : Nat) (x9a : Option Addr) (x9n x9c : Nat), w8.cell? (p.add ((s202).toNat * 4)) = some (.bool x6) ∧ w8.cell? ((p.add ((s202).toNat * 4)).add 1) = some (.slice x7a x7n x7c) ∧ w8.cell? ((p.add ((s202).toNat * 4)).add 2) = some (.slice x8a x8n x8c) ∧ w8.cell? ((p.add ((s202).toNat * 4)).add 3) = some (.slice x9a x9n x9c) ∧
 (∀ (b3 : Nat) (w9 : World), b3 = w8.heap.size → w9 = w8.alloc (.cells #[.bool false, .slice none 0 0, .slice none 0 0, .slice none 0 0] 56) → ((w9.cell? (Addr.mk b3 0 none)).isSome = true ∧ w9.frozen? (Addr.mk b3 0 none) = false ∧ ((w9.cell? ((Addr.mk b3 0 none).add 1)).isSome = true ∧ w9.frozen? ((Addr.mk b3 0 none).add 1) = false ∧ ((w9.cell? ((Addr.mk b3 0 none).add 2)).isSome = true ∧ w9.frozen? ((Addr.mk b3 0 none).add 2) = false ∧ ((w9.cell? ((Addr.mk b3 0 none).add 3)).isSome = true ∧ w9.frozen? ((Addr.mk b3 0 none).add 3) = false ∧
 (∀ w10 : World, w10 = (((w9.setCell (Addr.mk b3 0 none) (.bool x6)).setCell ((Addr.mk b3 0 none).add 1) (.slice x7a x7n x7c)).setCell ((Addr.mk b3 0 none).add 2) (.slice x8a x8n x8c)).setCell ((Addr.mk b3 0 none).add 3) (.slice x9a x9n x9c) →
 (∀ w11 : World, w11 = w10.drew →
 (∃ (x10a : Option Addr) (x10n x10c : Nat), w11.cell? (Addr.mk b 0 none) = some (.slice x10a x10n x10c) ∧
 (∃ (x11a : Option Addr) (x11n x11c : Nat), w11.cell? (Addr.mk b 0 none) = some (.slice x11a x11n x11c) ∧
 (∃ (x12a : Option Addr) (x12n x12c : Nat), w11.cell? (Addr.mk b 0 none) = some (.slice x12a x12n x12c) ∧
 (∃ (x13a : Option Addr) (x13n x13c : Nat), w11.cell? ((Addr.mk b3 0 none).add 1) = some (.slice x13a x13n x13c) ∧
 (∃ (x14a : Option Addr) (x14n x14c : Nat), w11.cell? ((Addr.mk b3 0 none).add 2) = some (.slice x14a x14n x14c) ∧
 (∃ (x15a : Option Addr) (x15n x15c : Nat), w11.cell? ((Addr.mk b3 0 none).add 3) = some (.slice x15a x15n x15c) ∧
 (Cl Tryz.prog 69 #[.slice x13a x13n x13c] w11 fun v3 w12 => ∃ (x16a : Option Addr) (x16n x16c : Nat), v3 = .slice x16a x16n x16c ∧ (w12.cell? ((Addr.mk b3 0 none).add 3) = some (.slice x15a x15n x15c) ∧ w12.cell? ((Addr.mk b3 0 none).add 2) = some (.slice x14a x14n x14c) ∧ w12.cell? (Addr.mk b 0 none) = some (.slice x12a x12n x12c) ∧ w12.cell? (Addr.mk b 0 none) = some (.slice x11a x11n x11c) ∧ w12.cell? (Addr.mk b 0 none) = some (.slice x10a x10n x10c) ∧
 (Cl Tryz.prog 111 #[.slice x14a x14n x14c] w12 fun v4 w13 => ∃ (x17a : Option Addr) (x17n x17c : Nat), v4 = .slice x17a x17n x17c ∧ (w13.cell? ((Addr.mk b3 0 none).add 3) = some (.slice x15a x15n x15c) ∧ w13.cell? (Addr.mk b 0 none) = some (.slice x12a x12n x12c) ∧ w13.cell? (Addr.mk b 0 none) = some (.slice x11a x11n x11c) ∧ w13.cell? (Addr.mk b 0 none) = some (.slice x10a x10n x10c) ∧
 (Cl Tryz.prog 111 #[.slice x15a x15n x15c] w13 fun v5 w14 => ∃ (x18a : Option Addr) (x18n x18c : Nat), v5 = .slice x18a x18n x18c ∧ (w14.cell? (Addr.mk b 0 none) = some (.slice x12a x12n x12c) ∧ w14.cell? (Addr.mk b 0 none) = some (.slice x11a x11n x11c) ∧ w14.cell? (Addr.mk b 0 none) = some (.slice x10a x10n x10c) ∧
 (∃ p2 : Addr, x10a = some p2 ∧ 0 ≤ s202 ∧ s202 < (x10n : Int) ∧ ((w14.cell? ((p2.add ((s202).toNat * 4)).add 1)).isSome = true ∧ w14.frozen? ((p2.add ((s202).toNat * 4)).add 1) = false ∧
 (∀ w15 : World, w15 = w14.setCell ((p2.add ((s202).toNat * 4)).add 1) (.slice x16a x16n x16c) → (w15.cell? (Addr.mk b 0 none) = some (.slice x12a x12n x12c) ∧ w15.cell? (Addr.mk b 0 none) = some (.slice x11a x11n x11c) ∧
 (∃ p3 : Addr, x11a = some p3 ∧ 0 ≤ s202 ∧ s202 < (x11n : Int) ∧ ((w15.cell? ((p3.add ((s202).toNat * 4)).add 2)).isSome = true ∧ w15.frozen? ((p3.add ((s202).toNat * 4)).add 2) = false ∧
 (∀ w16 : World, w16 = w15.setCell ((p3.add ((s202).toNat * 4)).add 2) (.slice x17a x17n x17c) → (w16.cell? (Addr.mk b 0 none) = some (.slice x12a x12n x12c) ∧
 (∃ p4 : Addr, x12a = some p4 ∧ 0 ≤ s202 ∧ s202 < (x12n : Int) ∧ ((w16.cell? ((p4.add ((s202).toNat * 4)).add 3)).isSome = true ∧ w16.frozen? ((p4.add ((s202).toNat * 4)).add 3) = false ∧
 (∀ w17 : World, w17 = w16.setCell ((p4.add ((s202).toNat * 4)).add 3) (.slice x18a x18n x18c) → (Jv (IntKind.i64.wrap (s202 + 1)) w17 ∧ mu (IntKind.i64.wrap (s202 + 1)) w17 < mu s202 w8))))))))))))))))))))))))))))))))) (Jm s202 w8))) ∧ ∀ (jk_ : Nat → Value) (w18 : World), ∀ (s20 : Int), Jm s20 w18 →
 (∃ (x19a : Option Addr) (x19n x19c : Nat), w18.cell? ((Addr.mk b 0 none).add 1) = some (.slice x19a x19n x19c) ∧
 (∃ (Jv2 : Int → World → Prop) (mu2 : Int → World → Nat), Jv2 0 w18 ∧ ∀ (jk_3 : Nat → Value) (w19 : World), ∀ (s54 : Int), Jv2 s54 w19 →
 (cond (decide (s54 < (x19n : Int))) (∃ p5 : Addr, x19a = some p5 ∧ 0 ≤ s54 ∧ s54 < (x19n : Int) ∧
 (∃ (x20 : Int) (x21a : Option Addr) (x21n x21c : Nat) (x22 : Int), w19.cell? (p5.add ((s54).toNat * 3)) = some (.int .i64 x20) ∧ w19.cell? ((p5.add ((s54).toNat * 3)).add 1) = some (.slice x21a x21n x21c) ∧ w19.cell? ((p5.add ((s54).toNat * 3)).add 2) = some (.int .i64 x22) ∧
 (∀ (b4 : Nat) (w20 : World), b4 = w19.heap.size → w20 = w19.alloc (.cells #[.int .i64 0, .slice none 0 0, .int .i64 0] 94) → ((w20.cell? (Addr.mk b4 0 none)).isSome = true ∧ w20.frozen? (Addr.mk b4 0 none) = false ∧ ((w20.cell? ((Addr.mk b4 0 none).add 1)).isSome = true ∧ w20.frozen? ((Addr.mk b4 0 none).add 1) = false ∧ ((w20.cell? ((Addr.mk b4 0 none).add 2)).isSome = true ∧ w20.frozen? ((Addr.mk b4 0 none).add 2) = false ∧
 (∀ w21 : World, w21 = ((w20.setCell (Addr.mk b4 0 none) (.int .i64 x20)).setCell ((Addr.mk b4 0 none).add 1) (.slice x21a x21n x21c)).setCell ((Addr.mk b4 0 none).add 2) (.int .i64 x22) →
 (∀ w22 : World, w22 = w21.drew →
 (∃ (x23a : Option Addr) (x23n x23c : Nat), w22.cell? ((Addr.mk b 0 none).add 1) = some (.slice x23a x23n x23c) ∧
 (∃ (x24a : Option Addr) (x24n x24c : Nat), w22.cell? ((Addr.mk b4 0 none).add 1) = some (.slice x24a x24n x24c) ∧
 (Cl Tryz.prog 69 #[.slice x24a x24n x24c] w22 fun v6 w23 => ∃ (x25a : Option Addr) (x25n x25c : Nat), v6 = .slice x25a x25n x25c ∧ (w23.cell? ((Addr.mk b 0 none).add 1) = some (.slice x23a x23n x23c) ∧
 (∃ p6 : Addr, x23a = some p6 ∧ 0 ≤ s54 ∧ s54 < (x23n : Int) ∧ ((w23.cell? ((p6.add ((s54).toNat * 3)).add 1)).isSome = true ∧ w23.frozen? ((p6.add ((s54).toNat * 3)).add 1) = false ∧
 (∀ w24 : World, w24 = w23.setCell ((p6.add ((s54).toNat * 3)).add 1) (.slice x25a x25n x25c) → (Jv2 (IntKind.i64.wrap (s54 + 1)) w24 ∧ mu2 (IntKind.i64.wrap (s54 + 1)) w24 < mu2 s54 w19)))))))))))))))) (∃ (x26a : Option Addr) (x26n x26c : Nat) (x27a : Option Addr) (x27n x27c : Nat), w19.cell? (Addr.mk b 0 none) = some (.slice x26a x26n x26c) ∧ w19.cell? ((Addr.mk b 0 none).add 1) = some (.slice x27a x27n x27c) ∧ ((w19.cell? (Addr.mk b2 0 none)).isSome = true ∧ w19.frozen? (Addr.mk b2 0 none) = false ∧ ((w19.cell? ((Addr.mk b2 0 none).add 1)).isSome = true ∧ w19.frozen? ((Addr.mk b2 0 none).add 1) = false ∧
 (∀ w25 : World, w25 = (w19.setCell (Addr.mk b2 0 none) (.slice x26a x26n x26c)).setCell ((Addr.mk b2 0 none).add 1) (.slice x27a x27n x27c) →
 (∃ (ra : Option Addr) (rn rc : Nat) (r2a : Option Addr) (r2n r2c : Nat), w25.cell? (Addr.mk b2 0 none) = some (.slice ra rn rc) ∧ w25.cell? ((Addr.mk b2 0 none).add 1) = some (.slice r2a r2n r2c) ∧ (R (.agg #[.slice ra rn rc, .slice r2a r2n r2c]) w25))))))))))))))))))))))
theorem c62 (ga : Option Addr) (gn gc : Nat) (g2a : Option Addr) (g2n g2c : Nat) {w : World} {R : Value → World → Prop} (hV : V62 ga gn gc g2a g2n g2c w R) : Cl Tryz.prog 62 #[.agg #[.slice ga gn gc, .slice g2a g2n g2c]] w R :=
 fn_sound hmTryz (TT := []) (f := 62) Tryz.func62 (ent_of Tryz.func62 (by kernel_rfl) rfl) (Eq.mpr (by kernel_rfl) hV)
/-- windrose/graph.Drop$1 -/
def V63 (s s2 : Int) (cap0 : Addr) (w : World) (R : Value → World → Prop) : Prop :=
 ∀ (b : Nat) (w1 : World), b = w.heap.size → w1 = w.alloc (.cells #[.int .u64 s, .int .i64 s2] 71) →
 (∃ (x1 : Int), w1.cell? ((Addr.mk b 0 none).add 1) = some (.int .i64 x1) ∧
 (∃ (x2 : Int), w1.cell? cap0 = some (.int .i64 x2) ∧ (R (.bool (x1 == x2)) w1)))
theorem c63 (s s2 : Int) (cap0 : Addr) {w : World} {R : Value → World → Prop} (hV : V63 s s2 cap0 w R) : Cl Tryz.prog 63 #[.agg #[.int .u64 s, .int .i64 s2], .pointer (some cap0)] w R :=
 fn_sound hmTryz (TT := []) (f := 63) Tryz.func63 (ent_of Tryz.func63 (by kernel_rfl) rfl) (Eq.mpr (by kernel_rfl) hV)
/-- slices.DeleteFunc[[]windrose/api.Step,windrose/api.Step] -/
def V64 (sa : Option Addr) (sn sc : Nat) (delf : FuncId) (delc : List Value) (w : World) (R : Value → World → Prop) : Prop :=
 Cl Tryz.prog 112 #[.slice sa sn sc, .func (.func delf) #[] delc.toArray] w fun v w1 => ∃ (x1 : Int), v = .int .i64 x1 ∧
 (cond (x1 == (-1)) (R (.slice sa sn sc) w1) (∃ (Jv : Int → Int → World → Prop) (mu : Int → Int → World → Nat), Jv x1 (IntKind.i64.wrap (x1 + 1)) w1 ∧ ∀ (jk_ : Nat → Value) (w2 : World), ∀ (i j : Int), Jv i j w2 →
 (cond (decide (j < (sn : Int))) (∃ p : Addr, sa = some p ∧ 0 ≤ j ∧ j < (sn : Int) ∧
 (∃ (x2 x3 : Int), w2.cell? (p.add ((j).toNat * 2)) = some (.int .u64 x2) ∧ w2.cell? ((p.add ((j).toNat * 2)).add 1) = some (.int .i64 x3) ∧
 (∀ (b : Nat) (w3 : World), b = w2.heap.size → w3 = w2.alloc (.cells #[.int .u64 0, .int .i64 0] 71) → ((w3.cell? (Addr.mk b 0 none)).isSome = true ∧ w3.frozen? (Addr.mk b 0 none) = false ∧ ((w3.cell? ((Addr.mk b 0 none).add 1)).isSome = true ∧ w3.frozen? ((Addr.mk b 0 none).add 1) = false ∧
 (∀ w4 : World, w4 = (w3.setCell (Addr.mk b 0 none) (.int .u64 x2)).setCell ((Addr.mk b 0 none).add 1) (.int .i64 x3) →
 (∃ (x4 x5 : Int), w4.cell? (Addr.mk b 0 none) = some (.int .u64 x4) ∧ w4.cell? ((Addr.mk b 0 none).add 1) = some (.int .i64 x5) ∧
 (Cl Tryz.prog delf (([.agg #[.int .u64 x4, .int .i64 x5]] : List Value) ++ delc).toArray w4 fun v2 w5 => ∃ (x6 : Bool), v2 = .bool x6 ∧
 (cond (!x6) (∃ (x7 x8 : Int), w5.cell? (Addr.mk b 0 none) = some (.int .u64 x7) ∧ w5.cell? ((Addr.mk b 0 none).add 1) = some (.int .i64 x8) ∧
 (∃ p2 : Addr, sa = some p2 ∧ 0 ≤ i ∧ i < (sn : Int) ∧ ((w5.cell? (p2.add ((i).toNat * 2))).isSome = true ∧ w5.frozen? (p2.add ((i).toNat * 2)) = false ∧ ((w5.cell? ((p2.add ((i).toNat * 2)).add 1)).isSome = true ∧ w5.frozen? ((p2.add ((i).toNat * 2)).add 1) = false ∧
 (∀ w6 : World, w6 = (w5.setCell (p2.add ((i).toNat * 2)) (.int .u64 x7)).setCell ((p2.add ((i).toNat * 2)).add 1) (.int .i64 x8) → (Jv (IntKind.i64.wrap (i + 1)) (IntKind.i64.wrap (j + 1)) w6 ∧ mu (IntKind.i64.wrap (i + 1)) (IntKind.i64.wrap (j + 1)) w6 < mu i j w2)))))) (Jv i (IntKind.i64.wrap (j + 1)) w5 ∧ mu i (IntKind.i64.wrap (j + 1)) w5 < mu i j w2)))))))))) (0 ≤ i ∧ i ≤ (sn : Int) ∧
 (∃ (w7 : World), Sem.run Tryz.prog (Builtin.clear_ #[54] 0 #[.slice (offA sa (((sc : Int)).toNat) ((i).toNat) 2) (((sn : Int)).toNat - (i).toNat) (((sc : Int)).toNat - (i).toNat)]) w2 = .ok (.tuple #[]) w7 ∧ (0 ≤ i ∧ i ≤ (sc : Int) ∧ (R (.slice sa ((i).toNat) (((sc : Int)).toNat)) w7)))))))
theorem c64 (sa : Option Addr) (sn sc : Nat) (delf : FuncId) (delc : List Value) {w : World} {R : Value → World → Prop} (hV : V64 sa sn sc delf delc w R) : Cl Tryz.prog 64 #[.slice sa sn sc, .func (.func delf) #[] delc.toArray] w R :=
 fn_sound hmTryz (TT := []) (f := 64) Tryz.func64 (ent_of Tryz.func64 (by kernel_rfl) rfl) (Eq.mpr (by kernel_rfl) hV)
/-- windrose/graph.cloned[windrose/api.Id] -/
def V69 (la : Option Addr) (ln lc : Nat) (w : World) (R : Value → World → Prop) : Prop :=
 ∃ (x1a : Option Addr) (x1n x1c : Nat) (w1 : World), Sem.run Tryz.prog (Instr.makeSlice 33 (.int .i64 (ln : Int)) (.int .i64 (ln : Int))) w = .ok (.slice x1a x1n x1c) w1 ∧
 (∃ (n : Int) (w2 : World), Sem.run Tryz.prog (Builtin.copy_ #[33, 33] 3 #[.slice x1a x1n x1c, .slice la ln lc]) w1 = .ok (.int .i64 n) w2 ∧ (R (.slice x1a x1n x1c) w2))
theorem c69 (la : Option Addr) (ln lc : Nat) {w : World} {R : Value → World → Prop} (hV : V69 la ln lc w R) : Cl Tryz.prog 69 #[.slice la ln lc] w R :=
 fn_sound hmTryz (TT := []) (f := 69) Tryz.func69 (ent_of Tryz.func69 (by kernel_rfl) rfl) (Eq.mpr (by kernel_rfl) hV)
/-- windrose/types.may -/
def V70 (id : Int) (w : World) (R : Value → World → Prop) : Prop :=
 Cl Tryz.prog 114 #[.int .u64 id] w fun v w1 => ∃ (x1 : Int), v = .int .i64 x1 ∧
 (cond (x1 == 2) (R (.bool true) w1) (R (.bool (x1 == 3)) w1))
theorem c70 (id : Int) {w : World} {R : Value → World → Prop} (hV : V70 id w R) : Cl Tryz.prog 70 #[.int .u64 id] w R :=
 fn_sound hmTryz (TT := []) (f := 70) Tryz.func70 (ent_of Tryz.func70 (by kernel_rfl) rfl) (Eq.mpr (by kernel_rfl) hV)
/-- windrose/types.own -/
def V71 (la : Option Addr) (ln lc : Nat) (w : World) (R : Value → World → Prop) : Prop :=
 ∃ (x1a : Option Addr) (x1n x1c : Nat) (w1 : World), Sem.run Tryz.prog (Instr.makeSlice 33 (.int .i64 (ln : Int)) (.int .i64 (ln : Int))) w = .ok (.slice x1a x1n x1c) w1 ∧
 (∃ (n : Int) (w2 : World), Sem.run Tryz.prog (Builtin.copy_ #[33, 33] 3 #[.slice x1a x1n x1c, .slice la ln lc]) w1 = .ok (.int .i64 n) w2 ∧ (R (.slice x1a x1n x1c) w2))
theorem c71 (la : Option Addr) (ln lc : Nat) {w : World} {R : Value → World → Prop} (hV : V71 la ln lc w R) : Cl Tryz.prog 71 #[.slice la ln lc] w R :=
 fn_sound hmTryz (TT := []) (f := 71) Tryz.func71 (ent_of Tryz.func71 (by kernel_rfl) rfl) (Eq.mpr (by kernel_rfl) hV)
/-- windrose/types.with -/
def V72 (la : Option Addr) (ln lc : Nat) (id : Int) (w : World) (R : Value → World → Prop) : Prop :=
 Cl Tryz.prog 104 #[.slice la ln lc, .int .u64 id] w fun v w1 => ∃ (x1 : Int) (x2 : Bool), v = .tuple #[.int .i64 x1, .bool x2] ∧
 (cond x2 (R (.slice la ln lc) w1) (∀ w2 : World, w2 = w1.drew → (0 ≤ x1 ∧ x1 ≤ (lc : Int) ∧ (0 ≤ x1 ∧ x1 ≤ x1 ∧ (0 ≤ x1 ∧ x1 ≤ (ln : Int) ∧
 (∀ (b : Nat) (w3 : World), b = w2.heap.size → w3 = w2.alloc (.cells #[.int .u64 id] 32) →
 (∃ (x3a : Option Addr) (x3n x3c : Nat) (w4 : World), Sem.run Tryz.prog (Builtin.append_ #[33, 33] 33 #[.slice la ((x1).toNat) ((x1).toNat), .slice (some (Addr.mk b 0 none)) 1 1]) w3 = .ok (.slice x3a x3n x3c) w4 ∧
 (∃ (x4a : Option Addr) (x4n x4c : Nat) (w5 : World), Sem.run Tryz.prog (Builtin.append_ #[33, 33] 33 #[.slice x3a x3n x3c, .slice (offA la (((lc : Int)).toNat) ((x1).toNat) 1) (((ln : Int)).toNat - (x1).toNat) (((lc : Int)).toNat - (x1).toNat)]) w4 = .ok (.slice x4a x4n x4c) w5 ∧ (R (.slice x4a x4n x4c) w5)))))))))
theorem c72 (la : Option Addr) (ln lc : Nat) (id : Int) {w : World} {R : Value → World → Prop} (hV : V72 la ln lc id w R) : Cl Tryz.prog 72 #[.slice la ln lc, .int .u64 id] w R :=
 fn_sound hmTryz (TT := []) (f := 72) Tryz.func72 (ent_of Tryz.func72 (by kernel_rfl) rfl) (Eq.mpr (by kernel_rfl) hV)
end Go.Eng
namespace Go.Eng
open Go Go.Proofs
set_option maxRecDepth 100000
set_option maxHeartbeats 4000000
/-- windrose/lookup.Check -/
def V73 (la : Option Addr) (ln lc : Nat) (w : World) (R : Value → World → Prop) : Prop :=
 ∀ (b : Nat) (w1 : World), b = w.heap.size → w1 = w.alloc (.cells #[.slice la ln lc] 25) →
 (∃ (x1a : Option Addr) (x1n x1c : Nat), w1.cell? (Addr.mk b 0 none) = some (.slice x1a x1n x1c) ∧
 (∃ (x2a : Option Addr) (x2n x2c : Nat), w1.cell? (Addr.mk b 0 none) = some (.slice x2a x2n x2c) ∧
 (Cl Tryz.prog 115 #[.agg #[.slice x2a x2n x2c]] w1 fun v w2 => ∃ (x3 x4 x5 : Int) (x6 : Bool), v = .tuple #[.agg #[.int .i64 x3, .int .i64 x4, .int .i64 x5], .bool x6] ∧
 (∀ (b2 : Nat) (w3 : World), b2 = w2.heap.size → w3 = w2.alloc (.cells #[.int .i64 0, .int .i64 0, .int .i64 0] 152) → ((w3.cell? (Addr.mk b2 0 none)).isSome = true ∧ w3.frozen? (Addr.mk b2 0 none) = false ∧ ((w3.cell? ((Addr.mk b2 0 none).add 1)).isSome = true ∧ w3.frozen? ((Addr.mk b2 0 none).add 1) = false ∧ ((w3.cell? ((Addr.mk b2 0 none).add 2)).isSome = true ∧ w3.frozen? ((Addr.mk b2 0 none).add 2) = false ∧
 (∀ w4 : World, w4 = ((w3.setCell (Addr.mk b2 0 none) (.int .i64 x3)).setCell ((Addr.mk b2 0 none).add 1) (.int .i64 x4)).setCell ((Addr.mk b2 0 none).add 2) (.int .i64 x5) → (0 ≤ (1 : Int) ∧ (1 : Int) < ((3 : Nat) : Int) ∧
 (∃ (x7 : Int), w4.cell? ((Addr.mk b2 0 none).add (((1 : Int)).toNat * 1)) = some (.int .i64 x7) ∧ (0 ≤ (2 : Int) ∧ (2 : Int) < ((3 : Nat) : Int) ∧
 (∃ (x8 : Int), w4.cell? ((Addr.mk b2 0 none).add (((2 : Int)).toNat * 1)) = some (.int .i64 x8) ∧
 (cond x6 (cond (decide (8 ≤ (x1n : Int)))
 (cond ((band .i64 (x1n : Int) (IntKind.i64.wrap ((x1n : Int) - 1))) == 0)
 (cond (decide ((IntKind.i64.wrap (4 * (IntKind.i64.wrap (x7 + x8)))) ≤ (IntKind.i64.wrap (3 * (x1n : Int)))))
 (cond (!(decide ((IntKind.i64.wrap (x7 + x8)) ≤ 4000))) (R (.int .i64 170) w4) (∃ (x9a : Option Addr) (x9n x9c : Nat), w4.cell? (Addr.mk b 0 none) = some (.slice x9a x9n x9c) ∧
 (∃ (Jv : Bool → Int → World → Prop) (mu : Bool → Int → World → Nat), Jv (decide ((IntKind.i64.wrap (x7 + x8)) ≤ 4000)) 0 w4 ∧ ∀ (jk_ : Nat → Value) (w5 : World), ∀ (ok : Bool) (s50 : Int), Jv ok s50 w5 →
 (cond (decide (s50 < (x9n : Int))) (∃ p : Addr, x9a = some p ∧ 0 ≤ s50 ∧ s50 < (x9n : Int) ∧
 (∃ (x10 : Int) (x11a : Option Addr) (x11n x11c : Nat) (x12 : Int), w5.cell? (p.add ((s50).toNat * 3)) = some (.int .i64 x10) ∧ w5.cell? ((p.add ((s50).toNat * 3)).add 1) = some (.slice x11a x11n x11c) ∧ w5.cell? ((p.add ((s50).toNat * 3)).add 2) = some (.int .i64 x12) ∧
 (∀ (b3 : Nat) (w6 : World), b3 = w5.heap.size → w6 = w5.alloc (.cells #[.int .i64 0, .slice none 0 0, .int .i64 0] 94) → ((w6.cell? (Addr.mk b3 0 none)).isSome = true ∧ w6.frozen? (Addr.mk b3 0 none) = false ∧ ((w6.cell? ((Addr.mk b3 0 none).add 1)).isSome = true ∧ w6.frozen? ((Addr.mk b3 0 none).add 1) = false ∧ ((w6.cell? ((Addr.mk b3 0 none).add 2)).isSome = true ∧ w6.frozen? ((Addr.mk b3 0 none).add 2) = false ∧
 (∀ w7 : World, w7 = ((w6.setCell (Addr.mk b3 0 none) (.int .i64 x10)).setCell ((Addr.mk b3 0 none).add 1) (.slice x11a x11n x11c)).setCell ((Addr.mk b3 0 none).add 2) (.int .i64 x12) →
 (∃ (x13 : Int), w7.cell? (Addr.mk b3 0 none) = some (.int .i64 x13) ∧
 (cond (x13 == 1)
 (cond ok (∃ (x14a : Option Addr) (x14n x14c : Nat), w7.cell? ((Addr.mk b3 0 none).add 1) = some (.slice x14a x14n x14c) ∧
 (Cl Tryz.prog 39 #[.slice x14a x14n x14c] w7 fun v2 w8 => ∃ (x15 : Int), v2 = .int .i64 x15 ∧
 (cond (x15 == 0) (∃ (x16 : Int), w8.cell? ((Addr.mk b3 0 none).add 2) = some (.int .i64 x16) ∧
 (cond (decide (0 ≤ x16)) (∃ (x17a : Option Addr) (x17n x17c : Nat), w8.cell? (Addr.mk b 0 none) = some (.slice x17a x17n x17c) ∧
 (∃ (x18a : Option Addr) (x18n x18c : Nat), w8.cell? ((Addr.mk b3 0 none).add 1) = some (.slice x18a x18n x18c) ∧
 (Cl Tryz.prog 107 #[.agg #[.slice x17a x17n x17c], .slice x18a x18n x18c] w8 fun v3 w9 => ∃ (x19 : Int), v3 = .int .i64 x19 ∧ (Jv (x19 == s50) (IntKind.i64.wrap (s50 + 1)) w9 ∧ mu (x19 == s50) (IntKind.i64.wrap (s50 + 1)) w9 < mu ok s50 w5)))) (Jv false (IntKind.i64.wrap (s50 + 1)) w8 ∧ mu false (IntKind.i64.wrap (s50 + 1)) w8 < mu ok s50 w5))) (Jv false (IntKind.i64.wrap (s50 + 1)) w8 ∧ mu false (IntKind.i64.wrap (s50 + 1)) w8 < mu ok s50 w5)))) (Jv false (IntKind.i64.wrap (s50 + 1)) w7 ∧ mu false (IntKind.i64.wrap (s50 + 1)) w7 < mu ok s50 w5))
 (cond ok (∃ (x20a : Option Addr) (x20n x20c : Nat), w7.cell? ((Addr.mk b3 0 none).add 1) = some (.slice x20a x20n x20c) ∧
 (cond ((x20n : Int) == 0) (∃ (x21 : Int), w7.cell? ((Addr.mk b3 0 none).add 2) = some (.int .i64 x21) ∧ (Jv (x21 == 0) (IntKind.i64.wrap (s50 + 1)) w7 ∧ mu (x21 == 0) (IntKind.i64.wrap (s50 + 1)) w7 < mu ok s50 w5)) (Jv false (IntKind.i64.wrap (s50 + 1)) w7 ∧ mu false (IntKind.i64.wrap (s50 + 1)) w7 < mu ok s50 w5))) (Jv false (IntKind.i64.wrap (s50 + 1)) w7 ∧ mu false (IntKind.i64.wrap (s50 + 1)) w7 < mu ok s50 w5)))))))))))
 (cond (!ok) (R (.int .i64 170) w5) (R (.int .i64 0) w5)))))) (R (.int .i64 170) w4)) (R (.int .i64 170) w4)) (R (.int .i64 170) w4)) (R (.int .i64 170) w4))))))))))))))
theorem c73 (la : Option Addr) (ln lc : Nat) {w : World} {R : Value → World → Prop} (hV : V73 la ln lc w R) : Cl Tryz.prog 73 #[.agg #[.slice la ln lc]] w R :=
 fn_sound hmTryz (TT := []) (f := 73) Tryz.func73 (ent_of Tryz.func73 (by kernel_rfl) rfl) (Eq.mpr (by kernel_rfl) hV)
/-- windrose/lookup.Find -/
def V74 (la : Option Addr) (ln lc : Nat) (ta : Option Addr) (tn tc : Nat) (w : World) (R : Value → World → Prop) : Prop :=
 ∀ (b : Nat) (w1 : World), b = w.heap.size → w1 = w.alloc (.cells #[.slice la ln lc] 25) →
 (∃ (x1a : Option Addr) (x1n x1c : Nat), w1.cell? (Addr.mk b 0 none) = some (.slice x1a x1n x1c) ∧
 (Cl Tryz.prog 73 #[.agg #[.slice x1a x1n x1c]] w1 fun v w2 => ∃ (x2 : Int), v = .int .i64 x2 ∧
 (cond (x2 != 0) (R (.tuple #[.int .i64 0, .bool false]) w2) (∃ (x3a : Option Addr) (x3n x3c : Nat), w2.cell? (Addr.mk b 0 none) = some (.slice x3a x3n x3c) ∧
 (Cl Tryz.prog 107 #[.agg #[.slice x3a x3n x3c], .slice ta tn tc] w2 fun v2 w3 => ∃ (x4 : Int), v2 = .int .i64 x4 ∧
 (cond (decide (x4 < 0)) (R (.tuple #[.int .i64 0, .bool false]) w3) (∃ (x5a : Option Addr) (x5n x5c : Nat), w3.cell? (Addr.mk b 0 none) = some (.slice x5a x5n x5c) ∧
 (∃ p : Addr, x5a = some p ∧ 0 ≤ x4 ∧ x4 < (x5n : Int) ∧
 (∃ (x6 : Int), w3.cell? ((p.add ((x4).toNat * 3)).add 2) = some (.int .i64 x6) ∧ (R (.tuple #[.int .i64 x6, .bool true]) w3))))))))))
theorem c74 (la : Option Addr) (ln lc : Nat) (ta : Option Addr) (tn tc : Nat) {w : World} {R : Value → World → Prop} (hV : V74 la ln lc ta tn tc w R) : Cl Tryz.prog 74 #[.agg #[.slice la ln lc], .slice ta tn tc] w R :=
 fn_sound hmTryz (TT := []) (f := 74) Tryz.func74 (ent_of Tryz.func74 (by kernel_rfl) rfl) (Eq.mpr (by kernel_rfl) hV)
/-- windrose/graph.steps -/
def V75 (ga : Option Addr) (gn gc : Nat) (g2a : Option Addr) (g2n g2c : Nat) (n : Int) (rowa : Option Addr) (rown rowc : Nat) (plus : Bool) (w : World) (R : Value → World → Prop) : Prop :=
 ∀ (b : Nat) (w1 : World), b = w.heap.size → w1 = w.alloc (.cells #[.slice ga gn gc, .slice g2a g2n g2c] 27) →
 (∃ (x1a : Option Addr) (x1n x1c : Nat), w1.cell? (Addr.mk b 0 none) = some (.slice x1a x1n x1c) ∧
 (∃ p : Addr, x1a = some p ∧ 0 ≤ (IntKind.i64.wrap (n - 1)) ∧ (IntKind.i64.wrap (n - 1)) < (x1n : Int) ∧
 (∃ (x2a : Option Addr) (x2n x2c : Nat), w1.cell? ((p.add (((IntKind.i64.wrap (n - 1))).toNat * 4)).add 1) = some (.slice x2a x2n x2c) ∧
 (∃ (Jv : Bool → Int → World → Prop) (mu : Bool → Int → World → Nat), Jv true 0 w1 ∧ ∀ (jk_ : Nat → Value) (w2 : World), ∀ (ok : Bool) (s26 : Int), Jv ok s26 w2 →
 (cond (decide (s26 < (rown : Int))) (∃ p2 : Addr, rowa = some p2 ∧ 0 ≤ s26 ∧ s26 < (rown : Int) ∧
 (∃ (x3 x4 : Int), w2.cell? (p2.add ((s26).toNat * 2)) = some (.int .u64 x3) ∧ w2.cell? ((p2.add ((s26).toNat * 2)).add 1) = some (.int .i64 x4) ∧
 (∀ (b2 : Nat) (w3 : World), b2 = w2.heap.size → w3 = w2.alloc (.cells #[.int .u64 0, .int .i64 0] 71) → ((w3.cell? (Addr.mk b2 0 none)).isSome = true ∧ w3.frozen? (Addr.mk b2 0 none) = false ∧ ((w3.cell? ((Addr.mk b2 0 none).add 1)).isSome = true ∧ w3.frozen? ((Addr.mk b2 0 none).add 1) = false ∧
 (∀ w4 : World, w4 = (w3.setCell (Addr.mk b2 0 none) (.int .u64 x3)).setCell ((Addr.mk b2 0 none).add 1) (.int .i64 x4) →
 (∀ w5 : World, w5 = w4.drew →
 (cond (decide (0 < s26)) (∃ p3 : Addr, rowa = some p3 ∧ 0 ≤ (IntKind.i64.wrap (s26 - 1)) ∧ (IntKind.i64.wrap (s26 - 1)) < (rown : Int) ∧
 (∃ (x5 x6 : Int), w5.cell? (p3.add (((IntKind.i64.wrap (s26 - 1))).toNat * 2)) = some (.int .u64 x5) ∧ w5.cell? ((p3.add (((IntKind.i64.wrap (s26 - 1))).toNat * 2)).add 1) = some (.int .i64 x6) ∧
 (∃ (x7 x8 : Int), w5.cell? (Addr.mk b2 0 none) = some (.int .u64 x7) ∧ w5.cell? ((Addr.mk b2 0 none).add 1) = some (.int .i64 x8) ∧
 (Cl Tryz.prog 102 #[.agg #[.int .u64 x5, .int .i64 x6], .agg #[.int .u64 x7, .int .i64 x8]] w5 fun v w6 => ∃ (x9 : Int), v = .int .i64 x9 ∧
 (cond (decide (0 ≤ x9)) (R (.bool false) w6) (∃ (x10a : Option Addr) (x10n x10c : Nat) (x11a : Option Addr) (x11n x11c : Nat), w6.cell? (Addr.mk b 0 none) = some (.slice x10a x10n x10c) ∧ w6.cell? ((Addr.mk b 0 none).add 1) = some (.slice x11a x11n x11c) ∧
 (∃ (x12 : Int), w6.cell? ((Addr.mk b2 0 none).add 1) = some (.int .i64 x12) ∧
 (Cl Tryz.prog 60 #[.agg #[.slice x10a x10n x10c, .slice x11a x11n x11c], .int .i64 x12] w6 fun v2 w7 => ∃ (x13 : Bool), v2 = .bool x13 ∧
 (cond (!x13) (R (.bool false) w7) (∃ (x14 : Int), w7.cell? (Addr.mk b2 0 none) = some (.int .u64 x14) ∧
 (Cl Tryz.prog 27 #[.slice x2a x2n x2c, .int .u64 x14] w7 fun v3 w8 => ∃ (x15 : Bool), v3 = .bool x15 ∧
 (cond (x15 == plus) (R (.bool false) w8) (∃ (x16a : Option Addr) (x16n x16c : Nat), w8.cell? (Addr.mk b 0 none) = some (.slice x16a x16n x16c) ∧
 (∃ (x17 : Int), w8.cell? ((Addr.mk b2 0 none).add 1) = some (.int .i64 x17) ∧
 (∃ p4 : Addr, x16a = some p4 ∧ 0 ≤ (IntKind.i64.wrap (x17 - 1)) ∧ (IntKind.i64.wrap (x17 - 1)) < (x16n : Int) ∧
 (∃ (x18 : Bool) (x19a : Option Addr) (x19n x19c : Nat) (x20a : Option Addr) (x20n x20c : Nat) (x21a : Option Addr) (x21n x21c : Nat), w8.cell? (p4.add (((IntKind.i64.wrap (x17 - 1))).toNat * 4)) = some (.bool x18) ∧ w8.cell? ((p4.add (((IntKind.i64.wrap (x17 - 1))).toNat * 4)).add 1) = some (.slice x19a x19n x19c) ∧ w8.cell? ((p4.add (((IntKind.i64.wrap (x17 - 1))).toNat * 4)).add 2) = some (.slice x20a x20n x20c) ∧ w8.cell? ((p4.add (((IntKind.i64.wrap (x17 - 1))).toNat * 4)).add 3) = some (.slice x21a x21n x21c) ∧
 (∀ (b3 : Nat) (w9 : World), b3 = w8.heap.size → w9 = w8.alloc (.cells #[.bool false, .slice none 0 0, .slice none 0 0, .slice none 0 0] 56) → ((w9.cell? (Addr.mk b3 0 none)).isSome = true ∧ w9.frozen? (Addr.mk b3 0 none) = false ∧ ((w9.cell? ((Addr.mk b3 0 none).add 1)).isSome = true ∧ w9.frozen? ((Addr.mk b3 0 none).add 1) = false ∧ ((w9.cell? ((Addr.mk b3 0 none).add 2)).isSome = true ∧ w9.frozen? ((Addr.mk b3 0 none).add 2) = false ∧ ((w9.cell? ((Addr.mk b3 0 none).add 3)).isSome = true ∧ w9.frozen? ((Addr.mk b3 0 none).add 3) = false ∧
 (∀ w10 : World, w10 = (((w9.setCell (Addr.mk b3 0 none) (.bool x18)).setCell ((Addr.mk b3 0 none).add 1) (.slice x19a x19n x19c)).setCell ((Addr.mk b3 0 none).add 2) (.slice x20a x20n x20c)).setCell ((Addr.mk b3 0 none).add 3) (.slice x21a x21n x21c) →
 (cond plus (∃ (x22 : Int), w10.cell? (Addr.mk b2 0 none) = some (.int .u64 x22) ∧
 (Cl Tryz.prog 25 #[.slice x2a x2n x2c, .int .u64 x22] w10 fun v4 w11 => ∃ (x23a : Option Addr) (x23n x23c : Nat) (x24 : Int), v4 = .tuple #[.slice x23a x23n x23c, .int .i64 x24] ∧
 (∃ (x25a : Option Addr) (x25n x25c : Nat), w11.cell? ((Addr.mk b3 0 none).add 3) = some (.slice x25a x25n x25c) ∧
 (cond (x24 != 0) (R (.bool false) w11) (∃ (x26a : Option Addr) (x26n x26c : Nat), w11.cell? ((Addr.mk b3 0 none).add 1) = some (.slice x26a x26n x26c) ∧
 (Cl Tryz.prog 22 #[.slice x26a x26n x26c, .slice x23a x23n x23c] w11 fun v5 w12 => ∃ (x27 : Bool), v5 = .bool x27 ∧
 (cond (!x27) (R (.bool false) w12) (∃ (x28 : Int), w12.cell? (Addr.mk b2 0 none) = some (.int .u64 x28) ∧
 (Cl Tryz.prog 116 #[.slice x25a x25n x25c, .agg #[.int .u64 x28, .int .i64 n]] w12 fun v6 w13 => ∃ (x29 : Bool), v6 = .bool x29 ∧
 (cond (!x29) (R (.bool false) w13) (Jv ok (IntKind.i64.wrap (s26 + 1)) w13 ∧ mu ok (IntKind.i64.wrap (s26 + 1)) w13 < mu ok s26 w2))))))))))) (∃ (x30 : Int), w10.cell? (Addr.mk b2 0 none) = some (.int .u64 x30) ∧
 (Cl Tryz.prog 54 #[.slice x2a x2n x2c, .int .u64 x30] w10 fun v7 w14 => ∃ (x31a : Option Addr) (x31n x31c : Nat) (x32 : Int), v7 = .tuple #[.slice x31a x31n x31c, .int .i64 x32] ∧
 (∃ (x33a : Option Addr) (x33n x33c : Nat), w14.cell? ((Addr.mk b3 0 none).add 2) = some (.slice x33a x33n x33c) ∧
 (cond (x32 != 0) (R (.bool false) w14) (∃ (x34a : Option Addr) (x34n x34c : Nat), w14.cell? ((Addr.mk b3 0 none).add 1) = some (.slice x34a x34n x34c) ∧
 (Cl Tryz.prog 22 #[.slice x34a x34n x34c, .slice x31a x31n x31c] w14 fun v8 w15 => ∃ (x35 : Bool), v8 = .bool x35 ∧
 (cond (!x35) (R (.bool false) w15) (∃ (x36 : Int), w15.cell? (Addr.mk b2 0 none) = some (.int .u64 x36) ∧
 (Cl Tryz.prog 116 #[.slice x33a x33n x33c, .agg #[.int .u64 x36, .int .i64 n]] w15 fun v9 w16 => ∃ (x37 : Bool), v9 = .bool x37 ∧
 (cond (!x37) (R (.bool false) w16) (Jv ok (IntKind.i64.wrap (s26 + 1)) w16 ∧ mu ok (IntKind.i64.wrap (s26 + 1)) w16 < mu ok s26 w2)))))))))))))))))))))))))))))))))) (∃ (x38a : Option Addr) (x38n x38c : Nat) (x39a : Option Addr) (x39n x39c : Nat), w5.cell? (Addr.mk b 0 none) = some (.slice x38a x38n x38c) ∧ w5.cell? ((Addr.mk b 0 none).add 1) = some (.slice x39a x39n x39c) ∧
 (∃ (x40 : Int), w5.cell? ((Addr.mk b2 0 none).add 1) = some (.int .i64 x40) ∧
 (Cl Tryz.prog 60 #[.agg #[.slice x38a x38n x38c, .slice x39a x39n x39c], .int .i64 x40] w5 fun v10 w17 => ∃ (x41 : Bool), v10 = .bool x41 ∧
 (cond (!x41) (R (.bool false) w17) (∃ (x42 : Int), w17.cell? (Addr.mk b2 0 none) = some (.int .u64 x42) ∧
 (Cl Tryz.prog 27 #[.slice x2a x2n x2c, .int .u64 x42] w17 fun v11 w18 => ∃ (x43 : Bool), v11 = .bool x43 ∧
 (cond (x43 == plus) (R (.bool false) w18) (∃ (x44a : Option Addr) (x44n x44c : Nat), w18.cell? (Addr.mk b 0 none) = some (.slice x44a x44n x44c) ∧
 (∃ (x45 : Int), w18.cell? ((Addr.mk b2 0 none).add 1) = some (.int .i64 x45) ∧
 (∃ p5 : Addr, x44a = some p5 ∧ 0 ≤ (IntKind.i64.wrap (x45 - 1)) ∧ (IntKind.i64.wrap (x45 - 1)) < (x44n : Int) ∧
 (∃ (x46 : Bool) (x47a : Option Addr) (x47n x47c : Nat) (x48a : Option Addr) (x48n x48c : Nat) (x49a : Option Addr) (x49n x49c : Nat), w18.cell? (p5.add (((IntKind.i64.wrap (x45 - 1))).toNat * 4)) = some (.bool x46) ∧ w18.cell? ((p5.add (((IntKind.i64.wrap (x45 - 1))).toNat * 4)).add 1) = some (.slice x47a x47n x47c) ∧ w18.cell? ((p5.add (((IntKind.i64.wrap (x45 - 1))).toNat * 4)).add 2) = some (.slice x48a x48n x48c) ∧ w18.cell? ((p5.add (((IntKind.i64.wrap (x45 - 1))).toNat * 4)).add 3) = some (.slice x49a x49n x49c) ∧
 (∀ (b4 : Nat) (w19 : World), b4 = w18.heap.size → w19 = w18.alloc (.cells #[.bool false, .slice none 0 0, .slice none 0 0, .slice none 0 0] 56) → ((w19.cell? (Addr.mk b4 0 none)).isSome = true ∧ w19.frozen? (Addr.mk b4 0 none) = false ∧ ((w19.cell? ((Addr.mk b4 0 none).add 1)).isSome = true ∧ w19.frozen? ((Addr.mk b4 0 none).add 1) = false ∧ ((w19.cell? ((Addr.mk b4 0 none).add 2)).isSome = true ∧ w19.frozen? ((Addr.mk b4 0 none).add 2) = false ∧ ((w19.cell? ((Addr.mk b4 0 none).add 3)).isSome = true ∧ w19.frozen? ((Addr.mk b4 0 none).add 3) = false ∧
 (∀ w20 : World, w20 = (((w19.setCell (Addr.mk b4 0 none) (.bool x46)).setCell ((Addr.mk b4 0 none).add 1) (.slice x47a x47n x47c)).setCell ((Addr.mk b4 0 none).add 2) (.slice x48a x48n x48c)).setCell ((Addr.mk b4 0 none).add 3) (.slice x49a x49n x49c) →
 (cond plus (∃ (x50 : Int), w20.cell? (Addr.mk b2 0 none) = some (.int .u64 x50) ∧
 (Cl Tryz.prog 25 #[.slice x2a x2n x2c, .int .u64 x50] w20 fun v12 w21 => ∃ (x51a : Option Addr) (x51n x51c : Nat) (x52 : Int), v12 = .tuple #[.slice x51a x51n x51c, .int .i64 x52] ∧
 (∃ (x53a : Option Addr) (x53n x53c : Nat), w21.cell? ((Addr.mk b4 0 none).add 3) = some (.slice x53a x53n x53c) ∧
 (cond (x52 != 0) (R (.bool false) w21) (∃ (x54a : Option Addr) (x54n x54c : Nat), w21.cell? ((Addr.mk b4 0 none).add 1) = some (.slice x54a x54n x54c) ∧
 (Cl Tryz.prog 22 #[.slice x54a x54n x54c, .slice x51a x51n x51c] w21 fun v13 w22 => ∃ (x55 : Bool), v13 = .bool x55 ∧
 (cond (!x55) (R (.bool false) w22) (∃ (x56 : Int), w22.cell? (Addr.mk b2 0 none) = some (.int .u64 x56) ∧
 (Cl Tryz.prog 116 #[.slice x53a x53n x53c, .agg #[.int .u64 x56, .int .i64 n]] w22 fun v14 w23 => ∃ (x57 : Bool), v14 = .bool x57 ∧
 (cond (!x57) (R (.bool false) w23) (Jv ok (IntKind.i64.wrap (s26 + 1)) w23 ∧ mu ok (IntKind.i64.wrap (s26 + 1)) w23 < mu ok s26 w2))))))))))) (∃ (x58 : Int), w20.cell? (Addr.mk b2 0 none) = some (.int .u64 x58) ∧
 (Cl Tryz.prog 54 #[.slice x2a x2n x2c, .int .u64 x58] w20 fun v15 w24 => ∃ (x59a : Option Addr) (x59n x59c : Nat) (x60 : Int), v15 = .tuple #[.slice x59a x59n x59c, .int .i64 x60] ∧
 (∃ (x61a : Option Addr) (x61n x61c : Nat), w24.cell? ((Addr.mk b4 0 none).add 2) = some (.slice x61a x61n x61c) ∧
 (cond (x60 != 0) (R (.bool false) w24) (∃ (x62a : Option Addr) (x62n x62c : Nat), w24.cell? ((Addr.mk b4 0 none).add 1) = some (.slice x62a x62n x62c) ∧
 (Cl Tryz.prog 22 #[.slice x62a x62n x62c, .slice x59a x59n x59c] w24 fun v16 w25 => ∃ (x63 : Bool), v16 = .bool x63 ∧
 (cond (!x63) (R (.bool false) w25) (∃ (x64 : Int), w25.cell? (Addr.mk b2 0 none) = some (.int .u64 x64) ∧
 (Cl Tryz.prog 116 #[.slice x61a x61n x61c, .agg #[.int .u64 x64, .int .i64 n]] w25 fun v17 w26 => ∃ (x65 : Bool), v17 = .bool x65 ∧
 (cond (!x65) (R (.bool false) w26) (Jv ok (IntKind.i64.wrap (s26 + 1)) w26 ∧ mu ok (IntKind.i64.wrap (s26 + 1)) w26 < mu ok s26 w2))))))))))))))))))))))))))))))))))))) (R (.bool ok) w2))))))
theorem c75 (ga : Option Addr) (gn gc : Nat) (g2a : Option Addr) (g2n g2c : Nat) (n : Int) (rowa : Option Addr) (rown rowc : Nat) (plus : Bool) {w : World} {R : Value → World → Prop} (hV : V75 ga gn gc g2a g2n g2c n rowa rown rowc plus w R) : Cl Tryz.prog 75 #[.agg #[.slice ga gn gc, .slice g2a g2n g2c], .int .i64 n, .slice rowa rown rowc, .bool plus] w R :=
 fn_sound hmTryz (TT := []) (f := 75) Tryz.func75 (ent_of Tryz.func75 (by kernel_rfl) rfl) (Eq.mpr (by kernel_rfl) hV)
/-- windrose/lookup.Many -/
def V76 (la : Option Addr) (ln lc : Nat) (w : World) (R : Value → World → Prop) : Prop :=
 ∀ (b : Nat) (w1 : World), b = w.heap.size → w1 = w.alloc (.cells #[.slice la ln lc] 25) →
 (∃ (x1a : Option Addr) (x1n x1c : Nat), w1.cell? (Addr.mk b 0 none) = some (.slice x1a x1n x1c) ∧
 (Cl Tryz.prog 84 #[.agg #[.slice x1a x1n x1c]] w1 fun v w2 => ∃ (x2a : Option Addr) (x2n x2c : Nat), v = .slice x2a x2n x2c ∧ (R (.int .i64 (x2n : Int)) w2)))
theorem c76 (la : Option Addr) (ln lc : Nat) {w : World} {R : Value → World → Prop} (hV : V76 la ln lc w R) : Cl Tryz.prog 76 #[.agg #[.slice la ln lc]] w R :=
 fn_sound hmTryz (TT := []) (f := 76) Tryz.func76 (ent_of Tryz.func76 (by kernel_rfl) rfl) (Eq.mpr (by kernel_rfl) hV)
/-- windrose/types.some -/
def V77 (la : Option Addr) (ln lc : Nat) (holdsf : FuncId) (holdsc : List Value) (w : World) (R : Value → World → Prop) : Prop :=
 ∀ (b : Nat) (w1 : World), b = w.heap.size → w1 = w.alloc (.cells #[.slice la ln lc] 33) →
 (∀ (b2 : Nat) (w2 : World), b2 = w1.heap.size → w2 = w1.alloc (.cells #[.func (.func holdsf) #[] holdsc.toArray] 101) → (R (.func (.func 117) #[] #[.pointer (some (Addr.mk b 0 none)), .pointer (some (Addr.mk b2 0 none))]) w2))
theorem c77 (la : Option Addr) (ln lc : Nat) (holdsf : FuncId) (holdsc : List Value) {w : World} {R : Value → World → Prop} (hV : V77 la ln lc holdsf holdsc w R) : Cl Tryz.prog 77 #[.slice la ln lc, .func (.func holdsf) #[] holdsc.toArray] w R :=
 fn_sound hmTryz (TT := []) (f := 77) Tryz.func77 (ent_of Tryz.func77 (by kernel_rfl) rfl) (Eq.mpr (by kernel_rfl) hV)
/-- windrose/types.Has$1 -/
def V78 (x1 : Int) (cap0 : Addr) (w : World) (R : Value → World → Prop) : Prop :=
 ∃ (x2 : Int), w.cell? cap0 = some (.int .u64 x2) ∧ (R (.bool (x1 == x2)) w)
theorem c78 (x1 : Int) (cap0 : Addr) {w : World} {R : Value → World → Prop} (hV : V78 x1 cap0 w R) : Cl Tryz.prog 78 #[.int .u64 x1, .pointer (some cap0)] w R :=
 fn_sound hmTryz (TT := []) (f := 78) Tryz.func78 (ent_of Tryz.func78 (by kernel_rfl) rfl) (Eq.mpr (by kernel_rfl) hV)
/-- windrose/graph.used -/
def V79 (ga : Option Addr) (gn gc : Nat) (g2a : Option Addr) (g2n g2c : Nat) (w : World) (R : Value → World → Prop) : Prop :=
 ∀ (b : Nat) (w1 : World), b = w.heap.size → w1 = w.alloc (.cells #[.slice ga gn gc, .slice g2a g2n g2c] 27) → (R (.func (.func 118) #[] #[.pointer (some (Addr.mk b 0 none))]) w1)
theorem c79 (ga : Option Addr) (gn gc : Nat) (g2a : Option Addr) (g2n g2c : Nat) {w : World} {R : Value → World → Prop} (hV : V79 ga gn gc g2a g2n g2c w R) : Cl Tryz.prog 79 #[.agg #[.slice ga gn gc, .slice g2a g2n g2c]] w R :=
 fn_sound hmTryz (TT := []) (f := 79) Tryz.func79 (ent_of Tryz.func79 (by kernel_rfl) rfl) (Eq.mpr (by kernel_rfl) hV)
/-- windrose/lookup.All -/
def V84 (la : Option Addr) (ln lc : Nat) (w : World) (R : Value → World → Prop) : Prop :=
 ∀ (b : Nat) (w1 : World), b = w.heap.size → w1 = w.alloc (.cells #[.slice la ln lc] 25) →
 (∃ (x1a : Option Addr) (x1n x1c : Nat), w1.cell? (Addr.mk b 0 none) = some (.slice x1a x1n x1c) ∧
 (Cl Tryz.prog 73 #[.agg #[.slice x1a x1n x1c]] w1 fun v w2 => ∃ (x2 : Int), v = .int .i64 x2 ∧
 (cond (x2 != 0) (R (.slice none 0 0) w2) (∃ (x3a : Option Addr) (x3n x3c : Nat), w2.cell? (Addr.mk b 0 none) = some (.slice x3a x3n x3c) ∧
 (Cl Tryz.prog 119 #[.agg #[.slice x3a x3n x3c]] w2 fun v2 w3 => ∃ (x4a : Option Addr) (x4n x4c : Nat), v2 = .slice x4a x4n x4c ∧ (R (.slice x4a x4n x4c) w3))))))
theorem c84 (la : Option Addr) (ln lc : Nat) {w : World} {R : Value → World → Prop} (hV : V84 la ln lc w R) : Cl Tryz.prog 84 #[.agg #[.slice la ln lc]] w R :=
 fn_sound hmTryz (TT := []) (f := 84) Tryz.func84 (ent_of Tryz.func84 (by kernel_rfl) rfl) (Eq.mpr (by kernel_rfl) hV)
end Go.Eng
namespace Go.Eng
open Go Go.Proofs
set_option maxRecDepth 100000
set_option maxHeartbeats 4000000
/-- windrose/lookup.Put -/
def V87 (la : Option Addr) (ln lc : Nat) (ta : Option Addr) (tn tc : Nat) (number : Int) (w : World) (R : Value → World → Prop) : Prop :=
 ∀ (b : Nat) (w1 : World), b = w.heap.size → w1 = w.alloc (.cells #[.slice la ln lc] 25) →
 (∀ (b2 : Nat) (w2 : World), b2 = w1.heap.size → w2 = w1.alloc (.cells #[.slice none 0 0] 25) →
 (∃ (x1a : Option Addr) (x1n x1c : Nat), w2.cell? (Addr.mk b 0 none) = some (.slice x1a x1n x1c) ∧
 (Cl Tryz.prog 73 #[.agg #[.slice x1a x1n x1c]] w2 fun v w3 => ∃ (x2 : Int), v = .int .i64 x2 ∧
 (cond (x2 != 0) ((w3.cell? (Addr.mk b2 0 none)).isSome = true ∧ w3.frozen? (Addr.mk b2 0 none) = false ∧
 (∀ w4 : World, w4 = w3.setCell (Addr.mk b2 0 none) (.slice none 0 0) →
 (∃ (ra : Option Addr) (rn rc : Nat), w4.cell? (Addr.mk b2 0 none) = some (.slice ra rn rc) ∧ (R (.tuple #[.agg #[.slice ra rn rc], .int .i64 x2]) w4)))) (∃ (x3a : Option Addr) (x3n x3c : Nat), w3.cell? (Addr.mk b 0 none) = some (.slice x3a x3n x3c) ∧
 (Cl Tryz.prog 119 #[.agg #[.slice x3a x3n x3c]] w3 fun v2 w5 => ∃ (x4a : Option Addr) (x4n x4c : Nat), v2 = .slice x4a x4n x4c ∧
 (Cl Tryz.prog 39 #[.slice ta tn tc] w5 fun v3 w6 => ∃ (x5 : Int), v3 = .int .i64 x5 ∧
 (cond (x5 != 0) ((w6.cell? (Addr.mk b2 0 none)).isSome = true ∧ w6.frozen? (Addr.mk b2 0 none) = false ∧
 (∀ w7 : World, w7 = w6.setCell (Addr.mk b2 0 none) (.slice none 0 0) →
 (∃ (r2a : Option Addr) (r2n r2c : Nat), w7.cell? (Addr.mk b2 0 none) = some (.slice r2a r2n r2c) ∧ (R (.tuple #[.agg #[.slice r2a r2n r2c], .int .i64 130]) w7))))
 (cond (decide (number < 0)) ((w6.cell? (Addr.mk b2 0 none)).isSome = true ∧ w6.frozen? (Addr.mk b2 0 none) = false ∧
 (∀ w8 : World, w8 = w6.setCell (Addr.mk b2 0 none) (.slice none 0 0) →
 (∃ (r3a : Option Addr) (r3n r3c : Nat), w8.cell? (Addr.mk b2 0 none) = some (.slice r3a r3n r3c) ∧ (R (.tuple #[.agg #[.slice r3a r3n r3c], .int .i64 2]) w8)))) (∃ (x6a : Option Addr) (x6n x6c : Nat), w6.cell? (Addr.mk b 0 none) = some (.slice x6a x6n x6c) ∧
 (Cl Tryz.prog 107 #[.agg #[.slice x6a x6n x6c], .slice ta tn tc] w6 fun v4 w9 => ∃ (x7 : Int), v4 = .int .i64 x7 ∧
 (cond (decide (0 ≤ x7)) ((w9.cell? (Addr.mk b2 0 none)).isSome = true ∧ w9.frozen? (Addr.mk b2 0 none) = false ∧
 (∀ w10 : World, w10 = w9.setCell (Addr.mk b2 0 none) (.slice none 0 0) →
 (∃ (r4a : Option Addr) (r4n r4c : Nat), w10.cell? (Addr.mk b2 0 none) = some (.slice r4a r4n r4c) ∧ (R (.tuple #[.agg #[.slice r4a r4n r4c], .int .i64 5]) w10))))
 (cond ((x4n : Int) == 4000) ((w9.cell? (Addr.mk b2 0 none)).isSome = true ∧ w9.frozen? (Addr.mk b2 0 none) = false ∧
 (∀ w11 : World, w11 = w9.setCell (Addr.mk b2 0 none) (.slice none 0 0) →
 (∃ (r5a : Option Addr) (r5n r5c : Nat), w11.cell? (Addr.mk b2 0 none) = some (.slice r5a r5n r5c) ∧ (R (.tuple #[.agg #[.slice r5a r5n r5c], .int .i64 6]) w11))))
 (Cl Tryz.prog 10 #[.slice ta tn tc] w9 fun v5 w12 => ∃ (x8a : Option Addr) (x8n x8c : Nat), v5 = .slice x8a x8n x8c ∧
 (∀ (b3 : Nat) (w13 : World), b3 = w12.heap.size → w13 = w12.alloc (.cells #[.int .i64 1, .slice x8a x8n x8c, .int .i64 number] 94) →
 (∃ (x9a : Option Addr) (x9n x9c : Nat) (w14 : World), Sem.run Tryz.prog (Builtin.append_ #[23, 23] 23 #[.slice x4a x4n x4c, .slice (some (Addr.mk b3 0 none)) 1 1]) w13 = .ok (.slice x9a x9n x9c) w14 ∧
 (∃ (Jv : Int → World → Prop) (mu : Int → World → Nat), Jv 8 w14 ∧ ∀ (jk_ : Nat → Value) (w15 : World), ∀ (many : Int), Jv many w15 →
 (cond (decide ((IntKind.i64.wrap (2 * many)) < (IntKind.i64.wrap (4 * (x9n : Int))))) (Jv (IntKind.i64.wrap (many * 2)) w15 ∧ mu (IntKind.i64.wrap (many * 2)) w15 < mu many w15)
 (Cl Tryz.prog 120 #[.slice x9a x9n x9c, .int .i64 many] w15 fun v6 w16 => ∃ (x10a : Option Addr) (x10n x10c : Nat), v6 = .agg #[.slice x10a x10n x10c] ∧ ((w16.cell? (Addr.mk b2 0 none)).isSome = true ∧ w16.frozen? (Addr.mk b2 0 none) = false ∧
 (∀ w17 : World, w17 = w16.setCell (Addr.mk b2 0 none) (.slice x10a x10n x10c) →
 (∃ (r6a : Option Addr) (r6n r6c : Nat), w17.cell? (Addr.mk b2 0 none) = some (.slice r6a r6n r6c) ∧ (R (.tuple #[.agg #[.slice r6a r6n r6c], .int .i64 0]) w17)))))))))))))))))))))))
theorem c87 (la : Option Addr) (ln lc : Nat) (ta : Option Addr) (tn tc : Nat) (number : Int) {w : World} {R : Value → World → Prop} (hV : V87 la ln lc ta tn tc number w R) : Cl Tryz.prog 87 #[.agg #[.slice la ln lc], .slice ta tn tc, .int .i64 number] w R :=
 fn_sound hmTryz (TT := []) (f := 87) Tryz.func87 (ent_of Tryz.func87 (by kernel_rfl) rfl) (Eq.mpr (by kernel_rfl) hV)
/-- windrose/lookup.New -/
def V88  (w : World) (R : Value → World → Prop) : Prop :=
 ∀ (b : Nat) (w1 : World), b = w.heap.size → w1 = w.alloc (.cells #[.slice none 0 0] 25) →
 (∃ (x1a : Option Addr) (x1n x1c : Nat) (w2 : World), Sem.run Tryz.prog (Instr.makeSlice 23 (.int .i64 8) (.int .i64 8)) w1 = .ok (.slice x1a x1n x1c) w2 ∧ ((w2.cell? (Addr.mk b 0 none)).isSome = true ∧ w2.frozen? (Addr.mk b 0 none) = false ∧
 (∀ w3 : World, w3 = w2.setCell (Addr.mk b 0 none) (.slice x1a x1n x1c) →
 (∃ (ra : Option Addr) (rn rc : Nat), w3.cell? (Addr.mk b 0 none) = some (.slice ra rn rc) ∧ (R (.agg #[.slice ra rn rc]) w3)))))
theorem c88  {w : World} {R : Value → World → Prop} (hV : V88  w R) : Cl Tryz.prog 88 #[] w R :=
 fn_sound hmTryz (TT := []) (f := 88) Tryz.func88 (ent_of Tryz.func88 (by kernel_rfl) rfl) (Eq.mpr (by kernel_rfl) hV)
/-- slices.CompareFunc[[]windrose/api.Id,[]windrose/api.Id,windrose/api.Id,windrose/api.Id] -/
def V92 (s1a : Option Addr) (s1n s1c : Nat) (s2a : Option Addr) (s2n s2c : Nat) (cmpf : FuncId) (cmpc : List Value) (w : World) (R : Value → World → Prop) : Prop :=
 ∃ (Jv : Int → Int → World → Prop) (mu : Int → Int → World → Nat), Jv 0 0 w ∧ ∀ (jk_ : Nat → Value) (w1 : World), ∀ (s6 s13 : Int), Jv s6 s13 w1 →
 (cond (decide (s13 < (s1n : Int))) (∃ p : Addr, s1a = some p ∧ 0 ≤ s13 ∧ s13 < (s1n : Int) ∧
 (∃ (x1 : Int), w1.cell? (p.add ((s13).toNat * 1)) = some (.int .u64 x1) ∧
 (cond (decide ((s2n : Int) ≤ s13)) (R (.int .i64 1) w1) (∃ p2 : Addr, s2a = some p2 ∧ 0 ≤ s13 ∧ s13 < (s2n : Int) ∧
 (∃ (x2 : Int), w1.cell? (p2.add ((s13).toNat * 1)) = some (.int .u64 x2) ∧
 (Cl Tryz.prog cmpf (([.int .u64 x1, .int .u64 x2] : List Value) ++ cmpc).toArray w1 fun v w2 => ∃ (x3 : Int), v = .int .i64 x3 ∧
 (cond (x3 != 0) (R (.int .i64 x3) w2) (Jv s6 (IntKind.i64.wrap (s13 + 1)) w2 ∧ mu s6 (IntKind.i64.wrap (s13 + 1)) w2 < mu s6 s13 w1))))))))
 (cond (decide ((s1n : Int) < (s2n : Int))) (R (.int .i64 (-1)) w1) (R (.int .i64 0) w1)))
theorem c92 (s1a : Option Addr) (s1n s1c : Nat) (s2a : Option Addr) (s2n s2c : Nat) (cmpf : FuncId) (cmpc : List Value) {w : World} {R : Value → World → Prop} (hV : V92 s1a s1n s1c s2a s2n s2c cmpf cmpc w R) : Cl Tryz.prog 92 #[.slice s1a s1n s1c, .slice s2a s2n s2c, .func (.func cmpf) #[] cmpc.toArray] w R :=
 fn_sound hmTryz (TT := []) (f := 92) Tryz.func92 (ent_of Tryz.func92 (by kernel_rfl) rfl) (Eq.mpr (by kernel_rfl) hV)
/-- cmp.Compare[windrose/api.Id] -/
def V93 (x1 y : Int) (w : World) (R : Value → World → Prop) : Prop :=
 Cl Tryz.prog 131 #[.int .u64 x1] w fun v w1 => ∃ (x2 : Bool), v = .bool x2 ∧
 (Cl Tryz.prog 131 #[.int .u64 y] w1 fun v2 w2 => ∃ (x3 : Bool), v2 = .bool x3 ∧
 (cond x2 (cond x3 (R (.int .i64 0) w2) (R (.int .i64 (-1)) w2))
 (cond x3 (R (.int .i64 1) w2)
 (cond (decide (x1 < y)) (R (.int .i64 (-1)) w2)
 (cond (decide (y < x1)) (R (.int .i64 1) w2) (R (.int .i64 0) w2))))))
theorem c93 (x1 y : Int) {w : World} {R : Value → World → Prop} (hV : V93 x1 y w R) : Cl Tryz.prog 93 #[.int .u64 x1, .int .u64 y] w R :=
 fn_sound hmTryz (TT := []) (f := 93) Tryz.func93 (ent_of Tryz.func93 (by kernel_rfl) rfl) (Eq.mpr (by kernel_rfl) hV)
/-- slices.Grow[[][]windrose/api.Id,[]windrose/api.Id] -/
def V94 (sa : Option Addr) (sn sc : Nat) (n : Int) (w : World) (R : Value → World → Prop) : Prop :=
 cond (decide (n < 0)) (False) (∃ n2 : Int, Sem.run Tryz.prog (Builtin.cap_ #[73] 3 #[.slice sa sn sc]) w = .ok (.int .i64 n2) w ∧
 (cond (decide (0 < (IntKind.i64.wrap (n - (IntKind.i64.wrap (n2 - (sn : Int))))))) (∃ n3 : Int, Sem.run Tryz.prog (Builtin.cap_ #[73] 3 #[.slice sa sn sc]) w = .ok (.int .i64 n3) w ∧ (0 ≤ n3 ∧ n3 ≤ (sc : Int) ∧
 (∃ (x1a : Option Addr) (x1n x1c : Nat) (w1 : World), Sem.run Tryz.prog (Builtin.append_ #[73, 3] 73 #[.slice sa ((n3).toNat) (((sc : Int)).toNat), .int .i64 (IntKind.i64.wrap (n - (IntKind.i64.wrap (n2 - (sn : Int)))))]) w = .ok (.slice x1a x1n x1c) w1 ∧ (0 ≤ (sn : Int) ∧ (sn : Int) ≤ (x1c : Int) ∧ (R (.slice x1a (((sn : Int)).toNat) (((x1c : Int)).toNat)) w1))))) (R (.slice sa sn sc) w)))
theorem c94 (sa : Option Addr) (sn sc : Nat) (n : Int) {w : World} {R : Value → World → Prop} (hV : V94 sa sn sc n w R) : Cl Tryz.prog 94 #[.slice sa sn sc, .int .i64 n] w R :=
 fn_sound hmTryz (TT := []) (f := 94) Tryz.func94 (ent_of Tryz.func94 (by kernel_rfl) rfl) (Eq.mpr (by kernel_rfl) hV)
/-- windrose/ident.within -/
def V95 (low most : Int) (la : Option Addr) (ln lc : Nat) (w : World) (R : Value → World → Prop) : Prop :=
 ∃ (Jv : Bool → Int → World → Prop) (mu : Bool → Int → World → Nat), Jv true 0 w ∧ ∀ (jk_ : Nat → Value) (w1 : World), ∀ (ok : Bool) (s12 : Int), Jv ok s12 w1 →
 (cond (decide (s12 < (ln : Int))) (∃ p : Addr, la = some p ∧ 0 ≤ s12 ∧ s12 < (ln : Int) ∧
 (∃ (x1 : Int), w1.cell? (p.add ((s12).toNat * 1)) = some (.int .i64 x1) ∧
 (cond (decide (low ≤ x1))
 (cond (!(decide (x1 ≤ most))) (R (.bool (decide (x1 ≤ most))) w1) (Jv (decide (x1 ≤ most)) (IntKind.i64.wrap (s12 + 1)) w1 ∧ mu (decide (x1 ≤ most)) (IntKind.i64.wrap (s12 + 1)) w1 < mu ok s12 w1)) (R (.bool false) w1)))) (R (.bool ok) w1))
theorem c95 (low most : Int) (la : Option Addr) (ln lc : Nat) {w : World} {R : Value → World → Prop} (hV : V95 low most la ln lc w R) : Cl Tryz.prog 95 #[.int .i64 low, .int .i64 most, .slice la ln lc] w R :=
 fn_sound hmTryz (TT := []) (f := 95) Tryz.func95 (ent_of Tryz.func95 (by kernel_rfl) rfl) (Eq.mpr (by kernel_rfl) hV)
/-- windrose/ident.packed -/
def V96 (mark second first : Int) (w : World) (R : Value → World → Prop) : Prop :=
 R (.int .u64 (bor .u64 (bor .u64 mark (bshl .u64 (IntKind.u64.wrap second) 32)) (IntKind.u64.wrap first))) w
theorem c96 (mark second first : Int) {w : World} {R : Value → World → Prop} (hV : V96 mark second first w R) : Cl Tryz.prog 96 #[.int .u64 mark, .int .i64 second, .int .i64 first] w R :=
 fn_sound hmTryz (TT := []) (f := 96) Tryz.func96 (ent_of Tryz.func96 (by kernel_rfl) rfl) (Eq.mpr (by kernel_rfl) hV)
end Go.Eng
