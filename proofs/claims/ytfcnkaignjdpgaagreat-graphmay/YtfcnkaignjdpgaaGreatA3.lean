/- Part 3 of the proof of GraphMaySaid. What is proved: what a call of each function leaves. Conditions: those that each theorem names. -/
import Derived.Test.YtfcnkaignjdpgaaGreatA1
set_option linter.unusedVariables false
set_option linter.unusedSimpArgs false
set_option linter.unusedSectionVars false
namespace Go.Eng
open Go Go.Proofs
set_option maxRecDepth 100000
set_option maxHeartbeats 4000000
/-- windrose/graph.is -/
def V60 (ga : Option Addr) (gn gc : Nat) (g2a : Option Addr) (g2n g2c : Nat) (n : Int) (w : World) (R : Value → World → Prop) : Prop :=
 ∀ (b : Nat) (w1 : World), b = w.heap.size → w1 = w.alloc (.cells #[.slice ga gn gc, .slice g2a g2n g2c] 27) →
 (cond (decide (1 ≤ n)) (∃ (x1a : Option Addr) (x1n x1c : Nat), w1.cell? (Addr.mk b 0 none) = some (.slice x1a x1n x1c) ∧
 (cond (decide (n ≤ (x1n : Int))) (∃ (x2a : Option Addr) (x2n x2c : Nat), w1.cell? (Addr.mk b 0 none) = some (.slice x2a x2n x2c) ∧
 (∃ p : Addr, x2a = some p ∧ 0 ≤ (IntKind.i64.wrap (n - 1)) ∧ (IntKind.i64.wrap (n - 1)) < (x2n : Int) ∧
 (∃ (x3 : Bool), w1.cell? (p.add (((IntKind.i64.wrap (n - 1))).toNat * 4)) = some (.bool x3) ∧ (R (.bool x3) w1)))) (R (.bool false) w1))) (R (.bool false) w1))
theorem c60 (ga : Option Addr) (gn gc : Nat) (g2a : Option Addr) (g2n g2c : Nat) (n : Int) {w : World} {R : Value → World → Prop} (hV : V60 ga gn gc g2a g2n g2c n w R) : Cl Tryz.prog 60 #[.agg #[.slice ga gn gc, .slice g2a g2n g2c], .int .i64 n] w R :=
 fn_sound hmTryz (TT := []) (f := 60) Tryz.func60 (ent_of Tryz.func60 (by kernel_rfl) rfl) (Eq.mpr (by kernel_rfl) hV)
/-- windrose/lookup.Drop -/
def V61 (la : Option Addr) (ln lc : Nat) (ta : Option Addr) (tn tc : Nat) (w : World) (R : Value → World → Prop) : Prop :=
 ∀ (b : Nat) (w1 : World), b = w.heap.size → w1 = w.alloc (.cells #[.slice la ln lc] 25) →
 (∀ (b2 : Nat) (w2 : World), b2 = w1.heap.size → w2 = w1.alloc (.cells #[.slice none 0 0] 25) →
 (∃ (x1a : Option Addr) (x1n x1c : Nat), w2.cell? (Addr.mk b 0 none) = some (.slice x1a x1n x1c) ∧
 (Cl Tryz.prog 73 #[.agg #[.slice x1a x1n x1c]] w2 fun v w3 => ∃ (x2 : Int), v = .int .i64 x2 ∧
 (cond (x2 != 0) ((w3.cell? (Addr.mk b2 0 none)).isSome = true ∧ w3.frozen? (Addr.mk b2 0 none) = false ∧
 (∀ w4 : World, w4 = w3.setCell (Addr.mk b2 0 none) (.slice none 0 0) →
 (∃ (ra : Option Addr) (rn rc : Nat), w4.cell? (Addr.mk b2 0 none) = some (.slice ra rn rc) ∧ (R (.tuple #[.agg #[.slice ra rn rc], .int .i64 x2]) w4)))) (∃ (x3a : Option Addr) (x3n x3c : Nat), w3.cell? (Addr.mk b 0 none) = some (.slice x3a x3n x3c) ∧
 (Cl Tryz.prog 107 #[.agg #[.slice x3a x3n x3c], .slice ta tn tc] w3 fun v2 w5 => ∃ (x4 : Int), v2 = .int .i64 x4 ∧
 (cond (decide (x4 < 0)) ((w5.cell? (Addr.mk b2 0 none)).isSome = true ∧ w5.frozen? (Addr.mk b2 0 none) = false ∧
 (∀ w6 : World, w6 = w5.setCell (Addr.mk b2 0 none) (.slice none 0 0) →
 (∃ (r2a : Option Addr) (r2n r2c : Nat), w6.cell? (Addr.mk b2 0 none) = some (.slice r2a r2n r2c) ∧ (R (.tuple #[.agg #[.slice r2a r2n r2c], .int .i64 4]) w6)))) (∃ (x5a : Option Addr) (x5n x5c : Nat), w5.cell? (Addr.mk b 0 none) = some (.slice x5a x5n x5c) ∧
 (Cl Tryz.prog 108 #[.slice x5a x5n x5c] w5 fun v3 w7 => ∃ (x6a : Option Addr) (x6n x6c : Nat), v3 = .slice x6a x6n x6c ∧
 (∀ (b3 : Nat) (w8 : World), b3 = w7.heap.size → w8 = w7.alloc (.cells #[.slice none 0 0] 25) → ((w8.cell? (Addr.mk b3 0 none)).isSome = true ∧ w8.frozen? (Addr.mk b3 0 none) = false ∧
 (∀ w9 : World, w9 = w8.setCell (Addr.mk b3 0 none) (.slice x6a x6n x6c) →
 (∃ (x7a : Option Addr) (x7n x7c : Nat), w9.cell? (Addr.mk b3 0 none) = some (.slice x7a x7n x7c) ∧
 (∃ (Jv : Int → World → Prop) (mu : Int → World → Nat), Jv 0 w9 ∧ ∀ (jk_ : Nat → Value) (w10 : World), ∀ (s30 : Int), Jv s30 w10 →
 (cond (decide (s30 < (x7n : Int))) (∃ p : Addr, x7a = some p ∧ 0 ≤ s30 ∧ s30 < (x7n : Int) ∧
 (∃ (x8 : Int) (x9a : Option Addr) (x9n x9c : Nat) (x10 : Int), w10.cell? (p.add ((s30).toNat * 3)) = some (.int .i64 x8) ∧ w10.cell? ((p.add ((s30).toNat * 3)).add 1) = some (.slice x9a x9n x9c) ∧ w10.cell? ((p.add ((s30).toNat * 3)).add 2) = some (.int .i64 x10) ∧
 (∀ (b4 : Nat) (w11 : World), b4 = w10.heap.size → w11 = w10.alloc (.cells #[.int .i64 0, .slice none 0 0, .int .i64 0] 94) → ((w11.cell? (Addr.mk b4 0 none)).isSome = true ∧ w11.frozen? (Addr.mk b4 0 none) = false ∧ ((w11.cell? ((Addr.mk b4 0 none).add 1)).isSome = true ∧ w11.frozen? ((Addr.mk b4 0 none).add 1) = false ∧ ((w11.cell? ((Addr.mk b4 0 none).add 2)).isSome = true ∧ w11.frozen? ((Addr.mk b4 0 none).add 2) = false ∧
 (∀ w12 : World, w12 = ((w11.setCell (Addr.mk b4 0 none) (.int .i64 x8)).setCell ((Addr.mk b4 0 none).add 1) (.slice x9a x9n x9c)).setCell ((Addr.mk b4 0 none).add 2) (.int .i64 x10) →
 (∀ w13 : World, w13 = w12.drew →
 (∃ (x11a : Option Addr) (x11n x11c : Nat), w13.cell? (Addr.mk b3 0 none) = some (.slice x11a x11n x11c) ∧
 (∃ (x12a : Option Addr) (x12n x12c : Nat), w13.cell? ((Addr.mk b4 0 none).add 1) = some (.slice x12a x12n x12c) ∧
 (Cl Tryz.prog 10 #[.slice x12a x12n x12c] w13 fun v4 w14 => ∃ (x13a : Option Addr) (x13n x13c : Nat), v4 = .slice x13a x13n x13c ∧ (w14.cell? (Addr.mk b3 0 none) = some (.slice x11a x11n x11c) ∧
 (∃ p2 : Addr, x11a = some p2 ∧ 0 ≤ s30 ∧ s30 < (x11n : Int) ∧ ((w14.cell? ((p2.add ((s30).toNat * 3)).add 1)).isSome = true ∧ w14.frozen? ((p2.add ((s30).toNat * 3)).add 1) = false ∧
 (∀ w15 : World, w15 = w14.setCell ((p2.add ((s30).toNat * 3)).add 1) (.slice x13a x13n x13c) → (Jv (IntKind.i64.wrap (s30 + 1)) w15 ∧ mu (IntKind.i64.wrap (s30 + 1)) w15 < mu s30 w10)))))))))))))))) (∃ (x14a : Option Addr) (x14n x14c : Nat), w10.cell? (Addr.mk b3 0 none) = some (.slice x14a x14n x14c) ∧
 (∃ p3 : Addr, x14a = some p3 ∧ 0 ≤ x4 ∧ x4 < (x14n : Int) ∧ ((w10.cell? (p3.add ((x4).toNat * 3))).isSome = true ∧ w10.frozen? (p3.add ((x4).toNat * 3)) = false ∧ ((w10.cell? ((p3.add ((x4).toNat * 3)).add 1)).isSome = true ∧ w10.frozen? ((p3.add ((x4).toNat * 3)).add 1) = false ∧ ((w10.cell? ((p3.add ((x4).toNat * 3)).add 2)).isSome = true ∧ w10.frozen? ((p3.add ((x4).toNat * 3)).add 2) = false ∧
 (∀ w16 : World, w16 = ((w10.setCell (p3.add ((x4).toNat * 3)) (.int .i64 2)).setCell ((p3.add ((x4).toNat * 3)).add 1) (.slice none 0 0)).setCell ((p3.add ((x4).toNat * 3)).add 2) (.int .i64 0) →
 (∃ (x15a : Option Addr) (x15n x15c : Nat), w16.cell? (Addr.mk b3 0 none) = some (.slice x15a x15n x15c) ∧ ((w16.cell? (Addr.mk b2 0 none)).isSome = true ∧ w16.frozen? (Addr.mk b2 0 none) = false ∧
 (∀ w17 : World, w17 = w16.setCell (Addr.mk b2 0 none) (.slice x15a x15n x15c) →
 (∃ (r3a : Option Addr) (r3n r3c : Nat), w17.cell? (Addr.mk b2 0 none) = some (.slice r3a r3n r3c) ∧ (R (.tuple #[.agg #[.slice r3a r3n r3c], .int .i64 0]) w17))))))))))))))))))))))))))
theorem c61 (la : Option Addr) (ln lc : Nat) (ta : Option Addr) (tn tc : Nat) {w : World} {R : Value → World → Prop} (hV : V61 la ln lc ta tn tc w R) : Cl Tryz.prog 61 #[.agg #[.slice la ln lc], .slice ta tn tc] w R :=
 fn_sound hmTryz (TT := []) (f := 61) Tryz.func61 (ent_of Tryz.func61 (by kernel_rfl) rfl) (Eq.mpr (by kernel_rfl) hV)
/-- windrose/graph.own -/
def V62 (ga : Option Addr) (gn gc : Nat) (g2a : Option Addr) (g2n g2c : Nat) (w : World) (R : Value → World → Prop) : Prop :=
 ∀ (b : Nat) (w1 : World), b = w.heap.size → w1 = w.alloc (.cells #[.slice ga gn gc, .slice g2a g2n g2c] 27) →
 (∀ (b2 : Nat) (w2 : World), b2 = w1.heap.size → w2 = w1.alloc (.cells #[.slice none 0 0, .slice none 0 0] 27) →
 (∀ w3 : World, w3 = w2.drew →
 (∃ (x1a : Option Addr) (x1n x1c : Nat), w3.cell? (Addr.mk b 0 none) = some (.slice x1a x1n x1c) ∧
 (∃ (x2a : Option Addr) (x2n x2c : Nat), w3.cell? ((Addr.mk b 0 none).add 1) = some (.slice x2a x2n x2c) ∧
 (Cl Tryz.prog 109 #[.slice x1a x1n x1c] w3 fun v w4 => ∃ (x3a : Option Addr) (x3n x3c : Nat), v = .slice x3a x3n x3c ∧ (w4.cell? ((Addr.mk b 0 none).add 1) = some (.slice x2a x2n x2c) ∧
 (Cl Tryz.prog 110 #[.slice x2a x2n x2c] w4 fun v2 w5 => ∃ (x4a : Option Addr) (x4n x4c : Nat), v2 = .slice x4a x4n x4c ∧ ((w5.cell? (Addr.mk b 0 none)).isSome = true ∧ w5.frozen? (Addr.mk b 0 none) = false ∧
 (∀ w6 : World, w6 = w5.setCell (Addr.mk b 0 none) (.slice x3a x3n x3c) → ((w6.cell? ((Addr.mk b 0 none).add 1)).isSome = true ∧ w6.frozen? ((Addr.mk b 0 none).add 1) = false ∧
 (∀ w7 : World, w7 = w6.setCell ((Addr.mk b 0 none).add 1) (.slice x4a x4n x4c) →
 (∃ (x5a : Option Addr) (x5n x5c : Nat), w7.cell? (Addr.mk b 0 none) = some (.slice x5a x5n x5c) ∧
 (∃ (Jm : Int → World → Prop), (∃ (Jv : Int → World → Prop) (mu : Int → World → Nat), Jv 0 w7 ∧ ∀ (jk_2 : Nat → Value) (w8 : World), ∀ (s202 : Int), Jv s202 w8 →
 (cond (decide (s202 < (x5n : Int))) (∃ p : Addr, x5a = some p ∧ 0 ≤ s202 ∧ s202 < (x5n : Int) ∧
 (∃ (x6 : Bool) (x7a : Option Addr) (x7n x7c : Nat) (x8a : Option Addr) (x8n x8c : Nat) (x9a : Option Addr) (x9n x9c : Nat), w8.cell? (p.add ((s202).toNat * 4)) = some (.bool x6) ∧ w8.cell? ((p.add ((s202).toNat * 4)).add 1) = some (.slice x7a x7n x7c) ∧ w8.cell? ((p.add ((s202).toNat * 4)).add 2) = some (.slice x8a x8n x8c) ∧ w8.cell? ((p.add ((s202).toNat * 4)).add 3) = some (.slice x9a x9n x9c) ∧
 (∀ (b3 : Nat) (w9 : World), b3 = w8.heap.size → w9 = w8.alloc (.cells #[.bool false, .slice none 0 0, .slice none 0 0, .slice none 0 0] 56) → ((w9.cell? (Addr.mk b3 0 none)).isSome = true ∧ w9.frozen? (Addr.mk b3 0 none) = false ∧ ((w9.cell? ((Addr.mk b3 0 none).add 1)).isSome = true ∧ w9.frozen? ((Addr.mk b3 0 none).add 1) = false ∧ ((w9.cell? ((Addr.mk b3 0 none).add 2)).isSome = true ∧ w9.frozen? ((Addr.mk b3 0 none).add 2) = false ∧ ((w9.cell? ((Addr.mk b3 0 none).add 3)).isSome = true ∧ w9.frozen? ((Addr.mk b3 0 none).add 3) = false ∧
 (∀ w10 : World, w10 = (((w9.setCell (Addr.mk b3 0 none) (.bool x6)).setCell ((Addr.mk b3 0 none).add 1) (.slice x7a x7n x7c)).setCell ((Addr.mk b3 0 none).add 2) (.slice x8a x8n x8c)).setCell ((Addr.mk b3 0 none).add 3) (.slice x9a x9n x9c) →
 (∀ w11 : World, w11 = w10.drew →
 (∃ (x10a : Option Addr) (x10n x10c : Nat), w11.cell? (Addr.mk b 0 none) = some (.slice x10a x10n x10c) ∧
 (∃ (x11a : Option Addr) (x11n x11c : Nat), w11.cell? (Addr.mk b 0 none) = some (.slice x11a x11n x11c) ∧
 (∃ (x12a : Option Addr) (x12n x12c : Nat), w11.cell? (Addr.mk b 0 none) = some (.slice x12a x12n x12c) ∧
 (∃ (x13a : Option Addr) (x13n x13c : Nat), w11.cell? ((Addr.mk b3 0 none).add 1) = some (.slice x13a x13n x13c) ∧
 (∃ (x14a : Option Addr) (x14n x14c : Nat), w11.cell? ((Addr.mk b3 0 none).add 2) = some (.slice x14a x14n x14c) ∧
 (∃ (x15a : Option Addr) (x15n x15c : Nat), w11.cell? ((Addr.mk b3 0 none).add 3) = some (.slice x15a x15n x15c) ∧
 (Cl Tryz.prog 69 #[.slice x13a x13n x13c] w11 fun v3 w12 => ∃ (x16a : Option Addr) (x16n x16c : Nat), v3 = .slice x16a x16n x16c ∧ (w12.cell? ((Addr.mk b3 0 none).add 3) = some (.slice x15a x15n x15c) ∧ w12.cell? ((Addr.mk b3 0 none).add 2) = some (.slice x14a x14n x14c) ∧ w12.cell? (Addr.mk b 0 none) = some (.slice x12a x12n x12c) ∧ w12.cell? (Addr.mk b 0 none) = some (.slice x11a x11n x11c) ∧ w12.cell? (Addr.mk b 0 none) = some (.slice x10a x10n x10c) ∧
 (Cl Tryz.prog 111 #[.slice x14a x14n x14c] w12 fun v4 w13 => ∃ (x17a : Option Addr) (x17n x17c : Nat), v4 = .slice x17a x17n x17c ∧ (w13.cell? ((Addr.mk b3 0 none).add 3) = some (.slice x15a x15n x15c) ∧ w13.cell? (Addr.mk b 0 none) = some (.slice x12a x12n x12c) ∧ w13.cell? (Addr.mk b 0 none) = some (.slice x11a x11n x11c) ∧ w13.cell? (Addr.mk b 0 none) = some (.slice x10a x10n x10c) ∧
 (Cl Tryz.prog 111 #[.slice x15a x15n x15c] w13 fun v5 w14 => ∃ (x18a : Option Addr) (x18n x18c : Nat), v5 = .slice x18a x18n x18c ∧ (w14.cell? (Addr.mk b 0 none) = some (.slice x12a x12n x12c) ∧ w14.cell? (Addr.mk b 0 none) = some (.slice x11a x11n x11c) ∧ w14.cell? (Addr.mk b 0 none) = some (.slice x10a x10n x10c) ∧
 (∃ p2 : Addr, x10a = some p2 ∧ 0 ≤ s202 ∧ s202 < (x10n : Int) ∧ ((w14.cell? ((p2.add ((s202).toNat * 4)).add 1)).isSome = true ∧ w14.frozen? ((p2.add ((s202).toNat * 4)).add 1) = false ∧
 (∀ w15 : World, w15 = w14.setCell ((p2.add ((s202).toNat * 4)).add 1) (.slice x16a x16n x16c) → (w15.cell? (Addr.mk b 0 none) = some (.slice x12a x12n x12c) ∧ w15.cell? (Addr.mk b 0 none) = some (.slice x11a x11n x11c) ∧
 (∃ p3 : Addr, x11a = some p3 ∧ 0 ≤ s202 ∧ s202 < (x11n : Int) ∧ ((w15.cell? ((p3.add ((s202).toNat * 4)).add 2)).isSome = true ∧ w15.frozen? ((p3.add ((s202).toNat * 4)).add 2) = false ∧
 (∀ w16 : World, w16 = w15.setCell ((p3.add ((s202).toNat * 4)).add 2) (.slice x17a x17n x17c) → (w16.cell? (Addr.mk b 0 none) = some (.slice x12a x12n x12c) ∧
 (∃ p4 : Addr, x12a = some p4 ∧ 0 ≤ s202 ∧ s202 < (x12n : Int) ∧ ((w16.cell? ((p4.add ((s202).toNat * 4)).add 3)).isSome = true ∧ w16.frozen? ((p4.add ((s202).toNat * 4)).add 3) = false ∧
 (∀ w17 : World, w17 = w16.setCell ((p4.add ((s202).toNat * 4)).add 3) (.slice x18a x18n x18c) → (Jv (IntKind.i64.wrap (s202 + 1)) w17 ∧ mu (IntKind.i64.wrap (s202 + 1)) w17 < mu s202 w8))))))))))))))))))))))))))))))))) (Jm s202 w8))) ∧ ∀ (jk_ : Nat → Value) (w18 : World), ∀ (s20 : Int), Jm s20 w18 →
 (∃ (x19a : Option Addr) (x19n x19c : Nat), w18.cell? ((Addr.mk b 0 none).add 1) = some (.slice x19a x19n x19c) ∧
 (∃ (Jv2 : Int → World → Prop) (mu2 : Int → World → Nat), Jv2 0 w18 ∧ ∀ (jk_3 : Nat → Value) (w19 : World), ∀ (s54 : Int), Jv2 s54 w19 →
 (cond (decide (s54 < (x19n : Int))) (∃ p5 : Addr, x19a = some p5 ∧ 0 ≤ s54 ∧ s54 < (x19n : Int) ∧
 (∃ (x20 : Int) (x21a : Option Addr) (x21n x21c : Nat) (x22 : Int), w19.cell? (p5.add ((s54).toNat * 3)) = some (.int .i64 x20) ∧ w19.cell? ((p5.add ((s54).toNat * 3)).add 1) = some (.slice x21a x21n x21c) ∧ w19.cell? ((p5.add ((s54).toNat * 3)).add 2) = some (.int .i64 x22) ∧
 (∀ (b4 : Nat) (w20 : World), b4 = w19.heap.size → w20 = w19.alloc (.cells #[.int .i64 0, .slice none 0 0, .int .i64 0] 94) → ((w20.cell? (Addr.mk b4 0 none)).isSome = true ∧ w20.frozen? (Addr.mk b4 0 none) = false ∧ ((w20.cell? ((Addr.mk b4 0 none).add 1)).isSome = true ∧ w20.frozen? ((Addr.mk b4 0 none).add 1) = false ∧ ((w20.cell? ((Addr.mk b4 0 none).add 2)).isSome = true ∧ w20.frozen? ((Addr.mk b4 0 none).add 2) = false ∧
 (∀ w21 : World, w21 = ((w20.setCell (Addr.mk b4 0 none) (.int .i64 x20)).setCell ((Addr.mk b4 0 none).add 1) (.slice x21a x21n x21c)).setCell ((Addr.mk b4 0 none).add 2) (.int .i64 x22) →
 (∀ w22 : World, w22 = w21.drew →
 (∃ (x23a : Option Addr) (x23n x23c : Nat), w22.cell? ((Addr.mk b 0 none).add 1) = some (.slice x23a x23n x23c) ∧
 (∃ (x24a : Option Addr) (x24n x24c : Nat), w22.cell? ((Addr.mk b4 0 none).add 1) = some (.slice x24a x24n x24c) ∧
 (Cl Tryz.prog 69 #[.slice x24a x24n x24c] w22 fun v6 w23 => ∃ (x25a : Option Addr) (x25n x25c : Nat), v6 = .slice x25a x25n x25c ∧ (w23.cell? ((Addr.mk b 0 none).add 1) = some (.slice x23a x23n x23c) ∧
 (∃ p6 : Addr, x23a = some p6 ∧ 0 ≤ s54 ∧ s54 < (x23n : Int) ∧ ((w23.cell? ((p6.add ((s54).toNat * 3)).add 1)).isSome = true ∧ w23.frozen? ((p6.add ((s54).toNat * 3)).add 1) = false ∧
 (∀ w24 : World, w24 = w23.setCell ((p6.add ((s54).toNat * 3)).add 1) (.slice x25a x25n x25c) → (Jv2 (IntKind.i64.wrap (s54 + 1)) w24 ∧ mu2 (IntKind.i64.wrap (s54 + 1)) w24 < mu2 s54 w19)))))))))))))))) (∃ (x26a : Option Addr) (x26n x26c : Nat) (x27a : Option Addr) (x27n x27c : Nat), w19.cell? (Addr.mk b 0 none) = some (.slice x26a x26n x26c) ∧ w19.cell? ((Addr.mk b 0 none).add 1) = some (.slice x27a x27n x27c) ∧ ((w19.cell? (Addr.mk b2 0 none)).isSome = true ∧ w19.frozen? (Addr.mk b2 0 none) = false ∧ ((w19.cell? ((Addr.mk b2 0 none).add 1)).isSome = true ∧ w19.frozen? ((Addr.mk b2 0 none).add 1) = false ∧
 (∀ w25 : World, w25 = (w19.setCell (Addr.mk b2 0 none) (.slice x26a x26n x26c)).setCell ((Addr.mk b2 0 none).add 1) (.slice x27a x27n x27c) →
 (∃ (ra : Option Addr) (rn rc : Nat) (r2a : Option Addr) (r2n r2c : Nat), w25.cell? (Addr.mk b2 0 none) = some (.slice ra rn rc) ∧ w25.cell? ((Addr.mk b2 0 none).add 1) = some (.slice r2a r2n r2c) ∧ (R (.agg #[.slice ra rn rc, .slice r2a r2n r2c]) w25))))))))))))))))))))))
theorem c62 (ga : Option Addr) (gn gc : Nat) (g2a : Option Addr) (g2n g2c : Nat) {w : World} {R : Value → World → Prop} (hV : V62 ga gn gc g2a g2n g2c w R) : Cl Tryz.prog 62 #[.agg #[.slice ga gn gc, .slice g2a g2n g2c]] w R :=
 fn_sound hmTryz (TT := []) (f := 62) Tryz.func62 (ent_of Tryz.func62 (by kernel_rfl) rfl) (Eq.mpr (by kernel_rfl) hV)
/-- windrose/graph.Drop$1 -/
def V63 (s s2 : Int) (cap0 : Addr) (w : World) (R : Value → World → Prop) : Prop :=
 ∀ (b : Nat) (w1 : World), b = w.heap.size → w1 = w.alloc (.cells #[.int .u64 s, .int .i64 s2] 71) →
 (∃ (x1 : Int), w1.cell? ((Addr.mk b 0 none).add 1) = some (.int .i64 x1) ∧
 (∃ (x2 : Int), w1.cell? cap0 = some (.int .i64 x2) ∧ (R (.bool (x1 == x2)) w1)))
theorem c63 (s s2 : Int) (cap0 : Addr) {w : World} {R : Value → World → Prop} (hV : V63 s s2 cap0 w R) : Cl Tryz.prog 63 #[.agg #[.int .u64 s, .int .i64 s2], .pointer (some cap0)] w R :=
 fn_sound hmTryz (TT := []) (f := 63) Tryz.func63 (ent_of Tryz.func63 (by kernel_rfl) rfl) (Eq.mpr (by kernel_rfl) hV)
/-- slices.DeleteFunc[[]windrose/api.Step,windrose/api.Step] -/
def V64 (sa : Option Addr) (sn sc : Nat) (delf : FuncId) (delc : List Value) (w : World) (R : Value → World → Prop) : Prop :=
 Cl Tryz.prog 112 #[.slice sa sn sc, .func (.func delf) #[] delc.toArray] w fun v w1 => ∃ (x1 : Int), v = .int .i64 x1 ∧
 (cond (x1 == (-1)) (R (.slice sa sn sc) w1) (∃ (Jv : Int → Int → World → Prop) (mu : Int → Int → World → Nat), Jv x1 (IntKind.i64.wrap (x1 + 1)) w1 ∧ ∀ (jk_ : Nat → Value) (w2 : World), ∀ (i j : Int), Jv i j w2 →
 (cond (decide (j < (sn : Int))) (∃ p : Addr, sa = some p ∧ 0 ≤ j ∧ j < (sn : Int) ∧
 (∃ (x2 x3 : Int), w2.cell? (p.add ((j).toNat * 2)) = some (.int .u64 x2) ∧ w2.cell? ((p.add ((j).toNat * 2)).add 1) = some (.int .i64 x3) ∧
 (∀ (b : Nat) (w3 : World), b = w2.heap.size → w3 = w2.alloc (.cells #[.int .u64 0, .int .i64 0] 71) → ((w3.cell? (Addr.mk b 0 none)).isSome = true ∧ w3.frozen? (Addr.mk b 0 none) = false ∧ ((w3.cell? ((Addr.mk b 0 none).add 1)).isSome = true ∧ w3.frozen? ((Addr.mk b 0 none).add 1) = false ∧
 (∀ w4 : World, w4 = (w3.setCell (Addr.mk b 0 none) (.int .u64 x2)).setCell ((Addr.mk b 0 none).add 1) (.int .i64 x3) →
 (∃ (x4 x5 : Int), w4.cell? (Addr.mk b 0 none) = some (.int .u64 x4) ∧ w4.cell? ((Addr.mk b 0 none).add 1) = some (.int .i64 x5) ∧
 (Cl Tryz.prog delf (([.agg #[.int .u64 x4, .int .i64 x5]] : List Value) ++ delc).toArray w4 fun v2 w5 => ∃ (x6 : Bool), v2 = .bool x6 ∧
 (cond (!x6) (∃ (x7 x8 : Int), w5.cell? (Addr.mk b 0 none) = some (.int .u64 x7) ∧ w5.cell? ((Addr.mk b 0 none).add 1) = some (.int .i64 x8) ∧
 (∃ p2 : Addr, sa = some p2 ∧ 0 ≤ i ∧ i < (sn : Int) ∧ ((w5.cell? (p2.add ((i).toNat * 2))).isSome = true ∧ w5.frozen? (p2.add ((i).toNat * 2)) = false ∧ ((w5.cell? ((p2.add ((i).toNat * 2)).add 1)).isSome = true ∧ w5.frozen? ((p2.add ((i).toNat * 2)).add 1) = false ∧
 (∀ w6 : World, w6 = (w5.setCell (p2.add ((i).toNat * 2)) (.int .u64 x7)).setCell ((p2.add ((i).toNat * 2)).add 1) (.int .i64 x8) → (Jv (IntKind.i64.wrap (i + 1)) (IntKind.i64.wrap (j + 1)) w6 ∧ mu (IntKind.i64.wrap (i + 1)) (IntKind.i64.wrap (j + 1)) w6 < mu i j w2)))))) (Jv i (IntKind.i64.wrap (j + 1)) w5 ∧ mu i (IntKind.i64.wrap (j + 1)) w5 < mu i j w2)))))))))) (0 ≤ i ∧ i ≤ (sn : Int) ∧
 (∃ (w7 : World), Sem.run Tryz.prog (Builtin.clear_ #[54] 0 #[.slice (offA sa (((sc : Int)).toNat) ((i).toNat) 2) (((sn : Int)).toNat - (i).toNat) (((sc : Int)).toNat - (i).toNat)]) w2 = .ok (.tuple #[]) w7 ∧ (0 ≤ i ∧ i ≤ (sc : Int) ∧ (R (.slice sa ((i).toNat) (((sc : Int)).toNat)) w7)))))))
theorem c64 (sa : Option Addr) (sn sc : Nat) (delf : FuncId) (delc : List Value) {w : World} {R : Value → World → Prop} (hV : V64 sa sn sc delf delc w R) : Cl Tryz.prog 64 #[.slice sa sn sc, .func (.func delf) #[] delc.toArray] w R :=
 fn_sound hmTryz (TT := []) (f := 64) Tryz.func64 (ent_of Tryz.func64 (by kernel_rfl) rfl) (Eq.mpr (by kernel_rfl) hV)
/-- windrose/windroseref12.Same -/
def V66 (aa : Option Addr) (an ac : Nat) (ba : Option Addr) (bn bc : Nat) (w : World) (R : Value → World → Prop) : Prop :=
 cond ((an : Int) != (bn : Int)) (R (.bool false) w) (∃ (Jv : Bool → Int → World → Prop) (mu : Bool → Int → World → Nat), Jv false 0 w ∧ ∀ (jk_ : Nat → Value) (w1 : World), ∀ (s4 : Bool) (s15 : Int), Jv s4 s15 w1 →
 (cond (decide (s15 < (an : Int))) (∃ p : Addr, aa = some p ∧ 0 ≤ s15 ∧ s15 < (an : Int) ∧
 (∃ (x1 : Bool) (x2a : Option Addr) (x2n x2c : Nat) (x3a : Option Addr) (x3n x3c : Nat) (x4a : Option Addr) (x4n x4c : Nat), w1.cell? (p.add ((s15).toNat * 4)) = some (.bool x1) ∧ w1.cell? ((p.add ((s15).toNat * 4)).add 1) = some (.slice x2a x2n x2c) ∧ w1.cell? ((p.add ((s15).toNat * 4)).add 2) = some (.slice x3a x3n x3c) ∧ w1.cell? ((p.add ((s15).toNat * 4)).add 3) = some (.slice x4a x4n x4c) ∧
 (∀ (b2 : Nat) (w2 : World), b2 = w1.heap.size → w2 = w1.alloc (.cells #[.bool false, .slice none 0 0, .slice none 0 0, .slice none 0 0] 56) → ((w2.cell? (Addr.mk b2 0 none)).isSome = true ∧ w2.frozen? (Addr.mk b2 0 none) = false ∧ ((w2.cell? ((Addr.mk b2 0 none).add 1)).isSome = true ∧ w2.frozen? ((Addr.mk b2 0 none).add 1) = false ∧ ((w2.cell? ((Addr.mk b2 0 none).add 2)).isSome = true ∧ w2.frozen? ((Addr.mk b2 0 none).add 2) = false ∧ ((w2.cell? ((Addr.mk b2 0 none).add 3)).isSome = true ∧ w2.frozen? ((Addr.mk b2 0 none).add 3) = false ∧
 (∀ w3 : World, w3 = (((w2.setCell (Addr.mk b2 0 none) (.bool x1)).setCell ((Addr.mk b2 0 none).add 1) (.slice x2a x2n x2c)).setCell ((Addr.mk b2 0 none).add 2) (.slice x3a x3n x3c)).setCell ((Addr.mk b2 0 none).add 3) (.slice x4a x4n x4c) →
 (∃ p2 : Addr, ba = some p2 ∧ 0 ≤ s15 ∧ s15 < (bn : Int) ∧
 (∃ (x5 : Bool) (x6a : Option Addr) (x6n x6c : Nat) (x7a : Option Addr) (x7n x7c : Nat) (x8a : Option Addr) (x8n x8c : Nat), w3.cell? (p2.add ((s15).toNat * 4)) = some (.bool x5) ∧ w3.cell? ((p2.add ((s15).toNat * 4)).add 1) = some (.slice x6a x6n x6c) ∧ w3.cell? ((p2.add ((s15).toNat * 4)).add 2) = some (.slice x7a x7n x7c) ∧ w3.cell? ((p2.add ((s15).toNat * 4)).add 3) = some (.slice x8a x8n x8c) ∧
 (∀ (b3 : Nat) (w4 : World), b3 = w3.heap.size → w4 = w3.alloc (.cells #[.bool false, .slice none 0 0, .slice none 0 0, .slice none 0 0] 56) → ((w4.cell? (Addr.mk b3 0 none)).isSome = true ∧ w4.frozen? (Addr.mk b3 0 none) = false ∧ ((w4.cell? ((Addr.mk b3 0 none).add 1)).isSome = true ∧ w4.frozen? ((Addr.mk b3 0 none).add 1) = false ∧ ((w4.cell? ((Addr.mk b3 0 none).add 2)).isSome = true ∧ w4.frozen? ((Addr.mk b3 0 none).add 2) = false ∧ ((w4.cell? ((Addr.mk b3 0 none).add 3)).isSome = true ∧ w4.frozen? ((Addr.mk b3 0 none).add 3) = false ∧
 (∀ w5 : World, w5 = (((w4.setCell (Addr.mk b3 0 none) (.bool x5)).setCell ((Addr.mk b3 0 none).add 1) (.slice x6a x6n x6c)).setCell ((Addr.mk b3 0 none).add 2) (.slice x7a x7n x7c)).setCell ((Addr.mk b3 0 none).add 3) (.slice x8a x8n x8c) →
 (∃ (x9 : Bool), w5.cell? (Addr.mk b2 0 none) = some (.bool x9) ∧
 (∃ (x10 : Bool), w5.cell? (Addr.mk b3 0 none) = some (.bool x10) ∧
 (cond (!(x9 == x10)) (R (.bool false) w5) (∃ (x11a : Option Addr) (x11n x11c : Nat), w5.cell? ((Addr.mk b2 0 none).add 1) = some (.slice x11a x11n x11c) ∧
 (∃ (x12a : Option Addr) (x12n x12c : Nat), w5.cell? ((Addr.mk b3 0 none).add 1) = some (.slice x12a x12n x12c) ∧
 (Cl Tryz.prog 89 #[.slice x11a x11n x11c, .slice x12a x12n x12c] w5 fun v w6 => ∃ (x13 : Bool), v = .bool x13 ∧
 (cond (!x13) (R (.bool false) w6) (∃ (x14a : Option Addr) (x14n x14c : Nat), w6.cell? ((Addr.mk b2 0 none).add 2) = some (.slice x14a x14n x14c) ∧
 (∃ (x15a : Option Addr) (x15n x15c : Nat), w6.cell? ((Addr.mk b3 0 none).add 2) = some (.slice x15a x15n x15c) ∧
 (Cl Tryz.prog 113 #[.slice x14a x14n x14c, .slice x15a x15n x15c] w6 fun v2 w7 => ∃ (x16 : Bool), v2 = .bool x16 ∧
 (cond (!x16) (R (.bool false) w7) (∃ (x17a : Option Addr) (x17n x17c : Nat), w7.cell? ((Addr.mk b2 0 none).add 3) = some (.slice x17a x17n x17c) ∧
 (∃ (x18a : Option Addr) (x18n x18c : Nat), w7.cell? ((Addr.mk b3 0 none).add 3) = some (.slice x18a x18n x18c) ∧
 (Cl Tryz.prog 113 #[.slice x17a x17n x17c, .slice x18a x18n x18c] w7 fun v3 w8 => ∃ (x19 : Bool), v3 = .bool x19 ∧
 (cond (!x19) (R (.bool false) w8) (Jv s4 (IntKind.i64.wrap (s15 + 1)) w8 ∧ mu s4 (IntKind.i64.wrap (s15 + 1)) w8 < mu s4 s15 w1)))))))))))))))))))))))))))))))) (R (.bool true) w1)))
theorem c66 (aa : Option Addr) (an ac : Nat) (ba : Option Addr) (bn bc : Nat) {w : World} {R : Value → World → Prop} (hV : V66 aa an ac ba bn bc w R) : Cl Tryz.prog 66 #[.slice aa an ac, .slice ba bn bc] w R :=
 fn_sound hmTryz (TT := []) (f := 66) Tryz.func66 (ent_of Tryz.func66 (by kernel_rfl) rfl) (Eq.mpr (by kernel_rfl) hV)
/-- slices.EqualFunc[[]windrose/api.Entry,[]windrose/api.Entry,windrose/api.Entry,windrose/api.Entry] -/
def V67 (s1a : Option Addr) (s1n s1c : Nat) (s2a : Option Addr) (s2n s2c : Nat) (eqf : FuncId) (eqc : List Value) (w : World) (R : Value → World → Prop) : Prop :=
 cond ((s1n : Int) != (s2n : Int)) (R (.bool false) w) (∃ (Jv : Bool → Int → World → Prop) (mu : Bool → Int → World → Nat), Jv false 0 w ∧ ∀ (jk_ : Nat → Value) (w1 : World), ∀ (s6 : Bool) (s17 : Int), Jv s6 s17 w1 →
 (cond (decide (s17 < (s1n : Int))) (∃ p : Addr, s1a = some p ∧ 0 ≤ s17 ∧ s17 < (s1n : Int) ∧
 (∃ (x1 : Int) (x2a : Option Addr) (x2n x2c : Nat) (x3 : Int), w1.cell? (p.add ((s17).toNat * 3)) = some (.int .i64 x1) ∧ w1.cell? ((p.add ((s17).toNat * 3)).add 1) = some (.slice x2a x2n x2c) ∧ w1.cell? ((p.add ((s17).toNat * 3)).add 2) = some (.int .i64 x3) ∧
 (∀ (b : Nat) (w2 : World), b = w1.heap.size → w2 = w1.alloc (.cells #[.int .i64 0, .slice none 0 0, .int .i64 0] 94) → ((w2.cell? (Addr.mk b 0 none)).isSome = true ∧ w2.frozen? (Addr.mk b 0 none) = false ∧ ((w2.cell? ((Addr.mk b 0 none).add 1)).isSome = true ∧ w2.frozen? ((Addr.mk b 0 none).add 1) = false ∧ ((w2.cell? ((Addr.mk b 0 none).add 2)).isSome = true ∧ w2.frozen? ((Addr.mk b 0 none).add 2) = false ∧
 (∀ w3 : World, w3 = ((w2.setCell (Addr.mk b 0 none) (.int .i64 x1)).setCell ((Addr.mk b 0 none).add 1) (.slice x2a x2n x2c)).setCell ((Addr.mk b 0 none).add 2) (.int .i64 x3) →
 (∃ p2 : Addr, s2a = some p2 ∧ 0 ≤ s17 ∧ s17 < (s2n : Int) ∧
 (∃ (x4 : Int) (x5a : Option Addr) (x5n x5c : Nat) (x6 : Int), w3.cell? (p2.add ((s17).toNat * 3)) = some (.int .i64 x4) ∧ w3.cell? ((p2.add ((s17).toNat * 3)).add 1) = some (.slice x5a x5n x5c) ∧ w3.cell? ((p2.add ((s17).toNat * 3)).add 2) = some (.int .i64 x6) ∧
 (∀ (b2 : Nat) (w4 : World), b2 = w3.heap.size → w4 = w3.alloc (.cells #[.int .i64 0, .slice none 0 0, .int .i64 0] 94) → ((w4.cell? (Addr.mk b2 0 none)).isSome = true ∧ w4.frozen? (Addr.mk b2 0 none) = false ∧ ((w4.cell? ((Addr.mk b2 0 none).add 1)).isSome = true ∧ w4.frozen? ((Addr.mk b2 0 none).add 1) = false ∧ ((w4.cell? ((Addr.mk b2 0 none).add 2)).isSome = true ∧ w4.frozen? ((Addr.mk b2 0 none).add 2) = false ∧
 (∀ w5 : World, w5 = ((w4.setCell (Addr.mk b2 0 none) (.int .i64 x4)).setCell ((Addr.mk b2 0 none).add 1) (.slice x5a x5n x5c)).setCell ((Addr.mk b2 0 none).add 2) (.int .i64 x6) →
 (∃ (x7 : Int) (x8a : Option Addr) (x8n x8c : Nat) (x9 : Int), w5.cell? (Addr.mk b 0 none) = some (.int .i64 x7) ∧ w5.cell? ((Addr.mk b 0 none).add 1) = some (.slice x8a x8n x8c) ∧ w5.cell? ((Addr.mk b 0 none).add 2) = some (.int .i64 x9) ∧
 (∃ (x10 : Int) (x11a : Option Addr) (x11n x11c : Nat) (x12 : Int), w5.cell? (Addr.mk b2 0 none) = some (.int .i64 x10) ∧ w5.cell? ((Addr.mk b2 0 none).add 1) = some (.slice x11a x11n x11c) ∧ w5.cell? ((Addr.mk b2 0 none).add 2) = some (.int .i64 x12) ∧
 (Cl Tryz.prog eqf (([.agg #[.int .i64 x7, .slice x8a x8n x8c, .int .i64 x9], .agg #[.int .i64 x10, .slice x11a x11n x11c, .int .i64 x12]] : List Value) ++ eqc).toArray w5 fun v w6 => ∃ (x13 : Bool), v = .bool x13 ∧
 (cond (!x13) (R (.bool false) w6) (Jv s6 (IntKind.i64.wrap (s17 + 1)) w6 ∧ mu s6 (IntKind.i64.wrap (s17 + 1)) w6 < mu s6 s17 w1))))))))))))))))))) (R (.bool true) w1)))
theorem c67 (s1a : Option Addr) (s1n s1c : Nat) (s2a : Option Addr) (s2n s2c : Nat) (eqf : FuncId) (eqc : List Value) {w : World} {R : Value → World → Prop} (hV : V67 s1a s1n s1c s2a s2n s2c eqf eqc w R) : Cl Tryz.prog 67 #[.slice s1a s1n s1c, .slice s2a s2n s2c, .func (.func eqf) #[] eqc.toArray] w R :=
 fn_sound hmTryz (TT := []) (f := 67) Tryz.func67 (ent_of Tryz.func67 (by kernel_rfl) rfl) (Eq.mpr (by kernel_rfl) hV)
/-- windrose/windroselaw12.same$1 -/
def V68 (s : Int) (s2a : Option Addr) (s2n s2c : Nat) (s3 t : Int) (t2a : Option Addr) (t2n t2c : Nat) (t3 : Int) (w : World) (R : Value → World → Prop) : Prop :=
 ∀ (b : Nat) (w1 : World), b = w.heap.size → w1 = w.alloc (.cells #[.int .i64 s, .slice s2a s2n s2c, .int .i64 s3] 94) →
 (∀ (b2 : Nat) (w2 : World), b2 = w1.heap.size → w2 = w1.alloc (.cells #[.int .i64 t, .slice t2a t2n t2c, .int .i64 t3] 94) →
 (∃ (x1 : Int), w2.cell? (Addr.mk b 0 none) = some (.int .i64 x1) ∧
 (∃ (x2 : Int), w2.cell? (Addr.mk b2 0 none) = some (.int .i64 x2) ∧
 (cond (x1 == x2) (∃ (x3 : Int), w2.cell? ((Addr.mk b 0 none).add 2) = some (.int .i64 x3) ∧
 (∃ (x4 : Int), w2.cell? ((Addr.mk b2 0 none).add 2) = some (.int .i64 x4) ∧
 (cond (x3 == x4) (∃ (x5a : Option Addr) (x5n x5c : Nat), w2.cell? ((Addr.mk b 0 none).add 1) = some (.slice x5a x5n x5c) ∧
 (∃ (x6a : Option Addr) (x6n x6c : Nat), w2.cell? ((Addr.mk b2 0 none).add 1) = some (.slice x6a x6n x6c) ∧
 (Cl Tryz.prog 22 #[.slice x5a x5n x5c, .slice x6a x6n x6c] w2 fun v w3 => ∃ (x7 : Bool), v = .bool x7 ∧ (R (.bool x7) w3)))) (R (.bool false) w2)))) (R (.bool false) w2)))))
theorem c68 (s : Int) (s2a : Option Addr) (s2n s2c : Nat) (s3 t : Int) (t2a : Option Addr) (t2n t2c : Nat) (t3 : Int) {w : World} {R : Value → World → Prop} (hV : V68 s s2a s2n s2c s3 t t2a t2n t2c t3 w R) : Cl Tryz.prog 68 #[.agg #[.int .i64 s, .slice s2a s2n s2c, .int .i64 s3], .agg #[.int .i64 t, .slice t2a t2n t2c, .int .i64 t3]] w R :=
 fn_sound hmTryz (TT := []) (f := 68) Tryz.func68 (ent_of Tryz.func68 (by kernel_rfl) rfl) (Eq.mpr (by kernel_rfl) hV)
/-- windrose/graph.cloned[windrose/api.Id] -/
def V69 (la : Option Addr) (ln lc : Nat) (w : World) (R : Value → World → Prop) : Prop :=
 ∃ (x1a : Option Addr) (x1n x1c : Nat) (w1 : World), Sem.run Tryz.prog (Instr.makeSlice 33 (.int .i64 (ln : Int)) (.int .i64 (ln : Int))) w = .ok (.slice x1a x1n x1c) w1 ∧
 (∃ (n : Int) (w2 : World), Sem.run Tryz.prog (Builtin.copy_ #[33, 33] 3 #[.slice x1a x1n x1c, .slice la ln lc]) w1 = .ok (.int .i64 n) w2 ∧ (R (.slice x1a x1n x1c) w2))
theorem c69 (la : Option Addr) (ln lc : Nat) {w : World} {R : Value → World → Prop} (hV : V69 la ln lc w R) : Cl Tryz.prog 69 #[.slice la ln lc] w R :=
 fn_sound hmTryz (TT := []) (f := 69) Tryz.func69 (ent_of Tryz.func69 (by kernel_rfl) rfl) (Eq.mpr (by kernel_rfl) hV)
/-- windrose/types.may -/
def V70 (id : Int) (w : World) (R : Value → World → Prop) : Prop :=
 Cl Tryz.prog 114 #[.int .u64 id] w fun v w1 => ∃ (x1 : Int), v = .int .i64 x1 ∧
 (cond (x1 == 2) (R (.bool true) w1) (R (.bool (x1 == 3)) w1))
theorem c70 (id : Int) {w : World} {R : Value → World → Prop} (hV : V70 id w R) : Cl Tryz.prog 70 #[.int .u64 id] w R :=
 fn_sound hmTryz (TT := []) (f := 70) Tryz.func70 (ent_of Tryz.func70 (by kernel_rfl) rfl) (Eq.mpr (by kernel_rfl) hV)
/-- windrose/types.own -/
def V71 (la : Option Addr) (ln lc : Nat) (w : World) (R : Value → World → Prop) : Prop :=
 ∃ (x1a : Option Addr) (x1n x1c : Nat) (w1 : World), Sem.run Tryz.prog (Instr.makeSlice 33 (.int .i64 (ln : Int)) (.int .i64 (ln : Int))) w = .ok (.slice x1a x1n x1c) w1 ∧
 (∃ (n : Int) (w2 : World), Sem.run Tryz.prog (Builtin.copy_ #[33, 33] 3 #[.slice x1a x1n x1c, .slice la ln lc]) w1 = .ok (.int .i64 n) w2 ∧ (R (.slice x1a x1n x1c) w2))
theorem c71 (la : Option Addr) (ln lc : Nat) {w : World} {R : Value → World → Prop} (hV : V71 la ln lc w R) : Cl Tryz.prog 71 #[.slice la ln lc] w R :=
 fn_sound hmTryz (TT := []) (f := 71) Tryz.func71 (ent_of Tryz.func71 (by kernel_rfl) rfl) (Eq.mpr (by kernel_rfl) hV)
/-- windrose/types.with -/
def V72 (la : Option Addr) (ln lc : Nat) (id : Int) (w : World) (R : Value → World → Prop) : Prop :=
 Cl Tryz.prog 104 #[.slice la ln lc, .int .u64 id] w fun v w1 => ∃ (x1 : Int) (x2 : Bool), v = .tuple #[.int .i64 x1, .bool x2] ∧
 (cond x2 (R (.slice la ln lc) w1) (∀ w2 : World, w2 = w1.drew → (0 ≤ x1 ∧ x1 ≤ (lc : Int) ∧ (0 ≤ x1 ∧ x1 ≤ x1 ∧ (0 ≤ x1 ∧ x1 ≤ (ln : Int) ∧
 (∀ (b : Nat) (w3 : World), b = w2.heap.size → w3 = w2.alloc (.cells #[.int .u64 id] 32) →
 (∃ (x3a : Option Addr) (x3n x3c : Nat) (w4 : World), Sem.run Tryz.prog (Builtin.append_ #[33, 33] 33 #[.slice la ((x1).toNat) ((x1).toNat), .slice (some (Addr.mk b 0 none)) 1 1]) w3 = .ok (.slice x3a x3n x3c) w4 ∧
 (∃ (x4a : Option Addr) (x4n x4c : Nat) (w5 : World), Sem.run Tryz.prog (Builtin.append_ #[33, 33] 33 #[.slice x3a x3n x3c, .slice (offA la (((lc : Int)).toNat) ((x1).toNat) 1) (((ln : Int)).toNat - (x1).toNat) (((lc : Int)).toNat - (x1).toNat)]) w4 = .ok (.slice x4a x4n x4c) w5 ∧ (R (.slice x4a x4n x4c) w5)))))))))
theorem c72 (la : Option Addr) (ln lc : Nat) (id : Int) {w : World} {R : Value → World → Prop} (hV : V72 la ln lc id w R) : Cl Tryz.prog 72 #[.slice la ln lc, .int .u64 id] w R :=
 fn_sound hmTryz (TT := []) (f := 72) Tryz.func72 (ent_of Tryz.func72 (by kernel_rfl) rfl) (Eq.mpr (by kernel_rfl) hV)
end Go.Eng
namespace Go.Eng
open Go Go.Proofs
set_option maxRecDepth 100000
set_option maxHeartbeats 4000000
/-- windrose/lookup.Check -/
def V73 (la : Option Addr) (ln lc : Nat) (w : World) (R : Value → World → Prop) : Prop :=
 ∀ (b : Nat) (w1 : World), b = w.heap.size → w1 = w.alloc (.cells #[.slice la ln lc] 25) →
 (∃ (x1a : Option Addr) (x1n x1c : Nat), w1.cell? (Addr.mk b 0 none) = some (.slice x1a x1n x1c) ∧
 (∃ (x2a : Option Addr) (x2n x2c : Nat), w1.cell? (Addr.mk b 0 none) = some (.slice x2a x2n x2c) ∧
 (Cl Tryz.prog 115 #[.agg #[.slice x2a x2n x2c]] w1 fun v w2 => ∃ (x3 x4 x5 : Int) (x6 : Bool), v = .tuple #[.agg #[.int .i64 x3, .int .i64 x4, .int .i64 x5], .bool x6] ∧
 (∀ (b2 : Nat) (w3 : World), b2 = w2.heap.size → w3 = w2.alloc (.cells #[.int .i64 0, .int .i64 0, .int .i64 0] 152) → ((w3.cell? (Addr.mk b2 0 none)).isSome = true ∧ w3.frozen? (Addr.mk b2 0 none) = false ∧ ((w3.cell? ((Addr.mk b2 0 none).add 1)).isSome = true ∧ w3.frozen? ((Addr.mk b2 0 none).add 1) = false ∧ ((w3.cell? ((Addr.mk b2 0 none).add 2)).isSome = true ∧ w3.frozen? ((Addr.mk b2 0 none).add 2) = false ∧
 (∀ w4 : World, w4 = ((w3.setCell (Addr.mk b2 0 none) (.int .i64 x3)).setCell ((Addr.mk b2 0 none).add 1) (.int .i64 x4)).setCell ((Addr.mk b2 0 none).add 2) (.int .i64 x5) → (0 ≤ (1 : Int) ∧ (1 : Int) < ((3 : Nat) : Int) ∧
 (∃ (x7 : Int), w4.cell? ((Addr.mk b2 0 none).add (((1 : Int)).toNat * 1)) = some (.int .i64 x7) ∧ (0 ≤ (2 : Int) ∧ (2 : Int) < ((3 : Nat) : Int) ∧
 (∃ (x8 : Int), w4.cell? ((Addr.mk b2 0 none).add (((2 : Int)).toNat * 1)) = some (.int .i64 x8) ∧
 (cond x6 (cond (decide (8 ≤ (x1n : Int)))
 (cond ((band .i64 (x1n : Int) (IntKind.i64.wrap ((x1n : Int) - 1))) == 0)
 (cond (decide ((IntKind.i64.wrap (4 * (IntKind.i64.wrap (x7 + x8)))) ≤ (IntKind.i64.wrap (3 * (x1n : Int)))))
 (cond (!(decide ((IntKind.i64.wrap (x7 + x8)) ≤ 4000))) (R (.int .i64 170) w4) (∃ (x9a : Option Addr) (x9n x9c : Nat), w4.cell? (Addr.mk b 0 none) = some (.slice x9a x9n x9c) ∧
 (∃ (Jv : Bool → Int → World → Prop) (mu : Bool → Int → World → Nat), Jv (decide ((IntKind.i64.wrap (x7 + x8)) ≤ 4000)) 0 w4 ∧ ∀ (jk_ : Nat → Value) (w5 : World), ∀ (ok : Bool) (s50 : Int), Jv ok s50 w5 →
 (cond (decide (s50 < (x9n : Int))) (∃ p : Addr, x9a = some p ∧ 0 ≤ s50 ∧ s50 < (x9n : Int) ∧
 (∃ (x10 : Int) (x11a : Option Addr) (x11n x11c : Nat) (x12 : Int), w5.cell? (p.add ((s50).toNat * 3)) = some (.int .i64 x10) ∧ w5.cell? ((p.add ((s50).toNat * 3)).add 1) = some (.slice x11a x11n x11c) ∧ w5.cell? ((p.add ((s50).toNat * 3)).add 2) = some (.int .i64 x12) ∧
 (∀ (b3 : Nat) (w6 : World), b3 = w5.heap.size → w6 = w5.alloc (.cells #[.int .i64 0, .slice none 0 0, .int .i64 0] 94) → ((w6.cell? (Addr.mk b3 0 none)).isSome = true ∧ w6.frozen? (Addr.mk b3 0 none) = false ∧ ((w6.cell? ((Addr.mk b3 0 none).add 1)).isSome = true ∧ w6.frozen? ((Addr.mk b3 0 none).add 1) = false ∧ ((w6.cell? ((Addr.mk b3 0 none).add 2)).isSome = true ∧ w6.frozen? ((Addr.mk b3 0 none).add 2) = false ∧
 (∀ w7 : World, w7 = ((w6.setCell (Addr.mk b3 0 none) (.int .i64 x10)).setCell ((Addr.mk b3 0 none).add 1) (.slice x11a x11n x11c)).setCell ((Addr.mk b3 0 none).add 2) (.int .i64 x12) →
 (∃ (x13 : Int), w7.cell? (Addr.mk b3 0 none) = some (.int .i64 x13) ∧
 (cond (x13 == 1)
 (cond ok (∃ (x14a : Option Addr) (x14n x14c : Nat), w7.cell? ((Addr.mk b3 0 none).add 1) = some (.slice x14a x14n x14c) ∧
 (Cl Tryz.prog 39 #[.slice x14a x14n x14c] w7 fun v2 w8 => ∃ (x15 : Int), v2 = .int .i64 x15 ∧
 (cond (x15 == 0) (∃ (x16 : Int), w8.cell? ((Addr.mk b3 0 none).add 2) = some (.int .i64 x16) ∧
 (cond (decide (0 ≤ x16)) (∃ (x17a : Option Addr) (x17n x17c : Nat), w8.cell? (Addr.mk b 0 none) = some (.slice x17a x17n x17c) ∧
 (∃ (x18a : Option Addr) (x18n x18c : Nat), w8.cell? ((Addr.mk b3 0 none).add 1) = some (.slice x18a x18n x18c) ∧
 (Cl Tryz.prog 107 #[.agg #[.slice x17a x17n x17c], .slice x18a x18n x18c] w8 fun v3 w9 => ∃ (x19 : Int), v3 = .int .i64 x19 ∧ (Jv (x19 == s50) (IntKind.i64.wrap (s50 + 1)) w9 ∧ mu (x19 == s50) (IntKind.i64.wrap (s50 + 1)) w9 < mu ok s50 w5)))) (Jv false (IntKind.i64.wrap (s50 + 1)) w8 ∧ mu false (IntKind.i64.wrap (s50 + 1)) w8 < mu ok s50 w5))) (Jv false (IntKind.i64.wrap (s50 + 1)) w8 ∧ mu false (IntKind.i64.wrap (s50 + 1)) w8 < mu ok s50 w5)))) (Jv false (IntKind.i64.wrap (s50 + 1)) w7 ∧ mu false (IntKind.i64.wrap (s50 + 1)) w7 < mu ok s50 w5))
 (cond ok (∃ (x20a : Option Addr) (x20n x20c : Nat), w7.cell? ((Addr.mk b3 0 none).add 1) = some (.slice x20a x20n x20c) ∧
 (cond ((x20n : Int) == 0) (∃ (x21 : Int), w7.cell? ((Addr.mk b3 0 none).add 2) = some (.int .i64 x21) ∧ (Jv (x21 == 0) (IntKind.i64.wrap (s50 + 1)) w7 ∧ mu (x21 == 0) (IntKind.i64.wrap (s50 + 1)) w7 < mu ok s50 w5)) (Jv false (IntKind.i64.wrap (s50 + 1)) w7 ∧ mu false (IntKind.i64.wrap (s50 + 1)) w7 < mu ok s50 w5))) (Jv false (IntKind.i64.wrap (s50 + 1)) w7 ∧ mu false (IntKind.i64.wrap (s50 + 1)) w7 < mu ok s50 w5)))))))))))
 (cond (!ok) (R (.int .i64 170) w5) (R (.int .i64 0) w5)))))) (R (.int .i64 170) w4)) (R (.int .i64 170) w4)) (R (.int .i64 170) w4)) (R (.int .i64 170) w4))))))))))))))
theorem c73 (la : Option Addr) (ln lc : Nat) {w : World} {R : Value → World → Prop} (hV : V73 la ln lc w R) : Cl Tryz.prog 73 #[.agg #[.slice la ln lc]] w R :=
 fn_sound hmTryz (TT := []) (f := 73) Tryz.func73 (ent_of Tryz.func73 (by kernel_rfl) rfl) (Eq.mpr (by kernel_rfl) hV)
/-- windrose/lookup.Find -/
def V74 (la : Option Addr) (ln lc : Nat) (ta : Option Addr) (tn tc : Nat) (w : World) (R : Value → World → Prop) : Prop :=
 ∀ (b : Nat) (w1 : World), b = w.heap.size → w1 = w.alloc (.cells #[.slice la ln lc] 25) →
 (∃ (x1a : Option Addr) (x1n x1c : Nat), w1.cell? (Addr.mk b 0 none) = some (.slice x1a x1n x1c) ∧
 (Cl Tryz.prog 73 #[.agg #[.slice x1a x1n x1c]] w1 fun v w2 => ∃ (x2 : Int), v = .int .i64 x2 ∧
 (cond (x2 != 0) (R (.tuple #[.int .i64 0, .bool false]) w2) (∃ (x3a : Option Addr) (x3n x3c : Nat), w2.cell? (Addr.mk b 0 none) = some (.slice x3a x3n x3c) ∧
 (Cl Tryz.prog 107 #[.agg #[.slice x3a x3n x3c], .slice ta tn tc] w2 fun v2 w3 => ∃ (x4 : Int), v2 = .int .i64 x4 ∧
 (cond (decide (x4 < 0)) (R (.tuple #[.int .i64 0, .bool false]) w3) (∃ (x5a : Option Addr) (x5n x5c : Nat), w3.cell? (Addr.mk b 0 none) = some (.slice x5a x5n x5c) ∧
 (∃ p : Addr, x5a = some p ∧ 0 ≤ x4 ∧ x4 < (x5n : Int) ∧
 (∃ (x6 : Int), w3.cell? ((p.add ((x4).toNat * 3)).add 2) = some (.int .i64 x6) ∧ (R (.tuple #[.int .i64 x6, .bool true]) w3))))))))))
theorem c74 (la : Option Addr) (ln lc : Nat) (ta : Option Addr) (tn tc : Nat) {w : World} {R : Value → World → Prop} (hV : V74 la ln lc ta tn tc w R) : Cl Tryz.prog 74 #[.agg #[.slice la ln lc], .slice ta tn tc] w R :=
 fn_sound hmTryz (TT := []) (f := 74) Tryz.func74 (ent_of Tryz.func74 (by kernel_rfl) rfl) (Eq.mpr (by kernel_rfl) hV)
/-- windrose/graph.steps -/
def V75 (ga : Option Addr) (gn gc : Nat) (g2a : Option Addr) (g2n g2c : Nat) (n : Int) (rowa : Option Addr) (rown rowc : Nat) (plus : Bool) (w : World) (R : Value → World → Prop) : Prop :=
 ∀ (b : Nat) (w1 : World), b = w.heap.size → w1 = w.alloc (.cells #[.slice ga gn gc, .slice g2a g2n g2c] 27) →
 (∃ (x1a : Option Addr) (x1n x1c : Nat), w1.cell? (Addr.mk b 0 none) = some (.slice x1a x1n x1c) ∧
 (∃ p : Addr, x1a = some p ∧ 0 ≤ (IntKind.i64.wrap (n - 1)) ∧ (IntKind.i64.wrap (n - 1)) < (x1n : Int) ∧
 (∃ (x2a : Option Addr) (x2n x2c : Nat), w1.cell? ((p.add (((IntKind.i64.wrap (n - 1))).toNat * 4)).add 1) = some (.slice x2a x2n x2c) ∧
 (∃ (Jv : Bool → Int → World → Prop) (mu : Bool → Int → World → Nat), Jv true 0 w1 ∧ ∀ (jk_ : Nat → Value) (w2 : World), ∀ (ok : Bool) (s26 : Int), Jv ok s26 w2 →
 (cond (decide (s26 < (rown : Int))) (∃ p2 : Addr, rowa = some p2 ∧ 0 ≤ s26 ∧ s26 < (rown : Int) ∧
 (∃ (x3 x4 : Int), w2.cell? (p2.add ((s26).toNat * 2)) = some (.int .u64 x3) ∧ w2.cell? ((p2.add ((s26).toNat * 2)).add 1) = some (.int .i64 x4) ∧
 (∀ (b2 : Nat) (w3 : World), b2 = w2.heap.size → w3 = w2.alloc (.cells #[.int .u64 0, .int .i64 0] 71) → ((w3.cell? (Addr.mk b2 0 none)).isSome = true ∧ w3.frozen? (Addr.mk b2 0 none) = false ∧ ((w3.cell? ((Addr.mk b2 0 none).add 1)).isSome = true ∧ w3.frozen? ((Addr.mk b2 0 none).add 1) = false ∧
 (∀ w4 : World, w4 = (w3.setCell (Addr.mk b2 0 none) (.int .u64 x3)).setCell ((Addr.mk b2 0 none).add 1) (.int .i64 x4) →
 (∀ w5 : World, w5 = w4.drew →
 (cond (decide (0 < s26)) (∃ p3 : Addr, rowa = some p3 ∧ 0 ≤ (IntKind.i64.wrap (s26 - 1)) ∧ (IntKind.i64.wrap (s26 - 1)) < (rown : Int) ∧
 (∃ (x5 x6 : Int), w5.cell? (p3.add (((IntKind.i64.wrap (s26 - 1))).toNat * 2)) = some (.int .u64 x5) ∧ w5.cell? ((p3.add (((IntKind.i64.wrap (s26 - 1))).toNat * 2)).add 1) = some (.int .i64 x6) ∧
 (∃ (x7 x8 : Int), w5.cell? (Addr.mk b2 0 none) = some (.int .u64 x7) ∧ w5.cell? ((Addr.mk b2 0 none).add 1) = some (.int .i64 x8) ∧
 (Cl Tryz.prog 102 #[.agg #[.int .u64 x5, .int .i64 x6], .agg #[.int .u64 x7, .int .i64 x8]] w5 fun v w6 => ∃ (x9 : Int), v = .int .i64 x9 ∧
 (cond (decide (0 ≤ x9)) (R (.bool false) w6) (∃ (x10a : Option Addr) (x10n x10c : Nat) (x11a : Option Addr) (x11n x11c : Nat), w6.cell? (Addr.mk b 0 none) = some (.slice x10a x10n x10c) ∧ w6.cell? ((Addr.mk b 0 none).add 1) = some (.slice x11a x11n x11c) ∧
 (∃ (x12 : Int), w6.cell? ((Addr.mk b2 0 none).add 1) = some (.int .i64 x12) ∧
 (Cl Tryz.prog 60 #[.agg #[.slice x10a x10n x10c, .slice x11a x11n x11c], .int .i64 x12] w6 fun v2 w7 => ∃ (x13 : Bool), v2 = .bool x13 ∧
 (cond (!x13) (R (.bool false) w7) (∃ (x14 : Int), w7.cell? (Addr.mk b2 0 none) = some (.int .u64 x14) ∧
 (Cl Tryz.prog 27 #[.slice x2a x2n x2c, .int .u64 x14] w7 fun v3 w8 => ∃ (x15 : Bool), v3 = .bool x15 ∧
 (cond (x15 == plus) (R (.bool false) w8) (∃ (x16a : Option Addr) (x16n x16c : Nat), w8.cell? (Addr.mk b 0 none) = some (.slice x16a x16n x16c) ∧
 (∃ (x17 : Int), w8.cell? ((Addr.mk b2 0 none).add 1) = some (.int .i64 x17) ∧
 (∃ p4 : Addr, x16a = some p4 ∧ 0 ≤ (IntKind.i64.wrap (x17 - 1)) ∧ (IntKind.i64.wrap (x17 - 1)) < (x16n : Int) ∧
 (∃ (x18 : Bool) (x19a : Option Addr) (x19n x19c : Nat) (x20a : Option Addr) (x20n x20c : Nat) (x21a : Option Addr) (x21n x21c : Nat), w8.cell? (p4.add (((IntKind.i64.wrap (x17 - 1))).toNat * 4)) = some (.bool x18) ∧ w8.cell? ((p4.add (((IntKind.i64.wrap (x17 - 1))).toNat * 4)).add 1) = some (.slice x19a x19n x19c) ∧ w8.cell? ((p4.add (((IntKind.i64.wrap (x17 - 1))).toNat * 4)).add 2) = some (.slice x20a x20n x20c) ∧ w8.cell? ((p4.add (((IntKind.i64.wrap (x17 - 1))).toNat * 4)).add 3) = some (.slice x21a x21n x21c) ∧
 (∀ (b3 : Nat) (w9 : World), b3 = w8.heap.size → w9 = w8.alloc (.cells #[.bool false, .slice none 0 0, .slice none 0 0, .slice none 0 0] 56) → ((w9.cell? (Addr.mk b3 0 none)).isSome = true ∧ w9.frozen? (Addr.mk b3 0 none) = false ∧ ((w9.cell? ((Addr.mk b3 0 none).add 1)).isSome = true ∧ w9.frozen? ((Addr.mk b3 0 none).add 1) = false ∧ ((w9.cell? ((Addr.mk b3 0 none).add 2)).isSome = true ∧ w9.frozen? ((Addr.mk b3 0 none).add 2) = false ∧ ((w9.cell? ((Addr.mk b3 0 none).add 3)).isSome = true ∧ w9.frozen? ((Addr.mk b3 0 none).add 3) = false ∧
 (∀ w10 : World, w10 = (((w9.setCell (Addr.mk b3 0 none) (.bool x18)).setCell ((Addr.mk b3 0 none).add 1) (.slice x19a x19n x19c)).setCell ((Addr.mk b3 0 none).add 2) (.slice x20a x20n x20c)).setCell ((Addr.mk b3 0 none).add 3) (.slice x21a x21n x21c) →
 (cond plus (∃ (x22 : Int), w10.cell? (Addr.mk b2 0 none) = some (.int .u64 x22) ∧
 (Cl Tryz.prog 25 #[.slice x2a x2n x2c, .int .u64 x22] w10 fun v4 w11 => ∃ (x23a : Option Addr) (x23n x23c : Nat) (x24 : Int), v4 = .tuple #[.slice x23a x23n x23c, .int .i64 x24] ∧
 (∃ (x25a : Option Addr) (x25n x25c : Nat), w11.cell? ((Addr.mk b3 0 none).add 3) = some (.slice x25a x25n x25c) ∧
 (cond (x24 != 0) (R (.bool false) w11) (∃ (x26a : Option Addr) (x26n x26c : Nat), w11.cell? ((Addr.mk b3 0 none).add 1) = some (.slice x26a x26n x26c) ∧
 (Cl Tryz.prog 22 #[.slice x26a x26n x26c, .slice x23a x23n x23c] w11 fun v5 w12 => ∃ (x27 : Bool), v5 = .bool x27 ∧
 (cond (!x27) (R (.bool false) w12) (∃ (x28 : Int), w12.cell? (Addr.mk b2 0 none) = some (.int .u64 x28) ∧
 (Cl Tryz.prog 116 #[.slice x25a x25n x25c, .agg #[.int .u64 x28, .int .i64 n]] w12 fun v6 w13 => ∃ (x29 : Bool), v6 = .bool x29 ∧
 (cond (!x29) (R (.bool false) w13) (Jv ok (IntKind.i64.wrap (s26 + 1)) w13 ∧ mu ok (IntKind.i64.wrap (s26 + 1)) w13 < mu ok s26 w2))))))))))) (∃ (x30 : Int), w10.cell? (Addr.mk b2 0 none) = some (.int .u64 x30) ∧
 (Cl Tryz.prog 54 #[.slice x2a x2n x2c, .int .u64 x30] w10 fun v7 w14 => ∃ (x31a : Option Addr) (x31n x31c : Nat) (x32 : Int), v7 = .tuple #[.slice x31a x31n x31c, .int .i64 x32] ∧
 (∃ (x33a : Option Addr) (x33n x33c : Nat), w14.cell? ((Addr.mk b3 0 none).add 2) = some (.slice x33a x33n x33c) ∧
 (cond (x32 != 0) (R (.bool false) w14) (∃ (x34a : Option Addr) (x34n x34c : Nat), w14.cell? ((Addr.mk b3 0 none).add 1) = some (.slice x34a x34n x34c) ∧
 (Cl Tryz.prog 22 #[.slice x34a x34n x34c, .slice x31a x31n x31c] w14 fun v8 w15 => ∃ (x35 : Bool), v8 = .bool x35 ∧
 (cond (!x35) (R (.bool false) w15) (∃ (x36 : Int), w15.cell? (Addr.mk b2 0 none) = some (.int .u64 x36) ∧
 (Cl Tryz.prog 116 #[.slice x33a x33n x33c, .agg #[.int .u64 x36, .int .i64 n]] w15 fun v9 w16 => ∃ (x37 : Bool), v9 = .bool x37 ∧
 (cond (!x37) (R (.bool false) w16) (Jv ok (IntKind.i64.wrap (s26 + 1)) w16 ∧ mu ok (IntKind.i64.wrap (s26 + 1)) w16 < mu ok s26 w2)))))))))))))))))))))))))))))))))) (∃ (x38a : Option Addr) (x38n x38c : Nat) (x39a : Option Addr) (x39n x39c : Nat), w5.cell? (Addr.mk b 0 none) = some (.slice x38a x38n x38c) ∧ w5.cell? ((Addr.mk b 0 none).add 1) = some (.slice x39a x39n x39c) ∧
 (∃ (x40 : Int), w5.cell? ((Addr.mk b2 0 none).add 1) = some (.int .i64 x40) ∧
 (Cl Tryz.prog 60 #[.agg #[.slice x38a x38n x38c, .slice x39a x39n x39c], .int .i64 x40] w5 fun v10 w17 => ∃ (x41 : Bool), v10 = .bool x41 ∧
 (cond (!x41) (R (.bool false) w17) (∃ (x42 : Int), w17.cell? (Addr.mk b2 0 none) = some (.int .u64 x42) ∧
 (Cl Tryz.prog 27 #[.slice x2a x2n x2c, .int .u64 x42] w17 fun v11 w18 => ∃ (x43 : Bool), v11 = .bool x43 ∧
 (cond (x43 == plus) (R (.bool false) w18) (∃ (x44a : Option Addr) (x44n x44c : Nat), w18.cell? (Addr.mk b 0 none) = some (.slice x44a x44n x44c) ∧
 (∃ (x45 : Int), w18.cell? ((Addr.mk b2 0 none).add 1) = some (.int .i64 x45) ∧
 (∃ p5 : Addr, x44a = some p5 ∧ 0 ≤ (IntKind.i64.wrap (x45 - 1)) ∧ (IntKind.i64.wrap (x45 - 1)) < (x44n : Int) ∧
 (∃ (x46 : Bool) (x47a : Option Addr) (x47n x47c : Nat) (x48a : Option Addr) (x48n x48c : Nat) (x49a : Option Addr) (x49n x49c : Nat), w18.cell? (p5.add (((IntKind.i64.wrap (x45 - 1))).toNat * 4)) = some (.bool x46) ∧ w18.cell? ((p5.add (((IntKind.i64.wrap (x45 - 1))).toNat * 4)).add 1) = some (.slice x47a x47n x47c) ∧ w18.cell? ((p5.add (((IntKind.i64.wrap (x45 - 1))).toNat * 4)).add 2) = some (.slice x48a x48n x48c) ∧ w18.cell? ((p5.add (((IntKind.i64.wrap (x45 - 1))).toNat * 4)).add 3) = some (.slice x49a x49n x49c) ∧
 (∀ (b4 : Nat) (w19 : World), b4 = w18.heap.size → w19 = w18.alloc (.cells #[.bool false, .slice none 0 0, .slice none 0 0, .slice none 0 0] 56) → ((w19.cell? (Addr.mk b4 0 none)).isSome = true ∧ w19.frozen? (Addr.mk b4 0 none) = false ∧ ((w19.cell? ((Addr.mk b4 0 none).add 1)).isSome = true ∧ w19.frozen? ((Addr.mk b4 0 none).add 1) = false ∧ ((w19.cell? ((Addr.mk b4 0 none).add 2)).isSome = true ∧ w19.frozen? ((Addr.mk b4 0 none).add 2) = false ∧ ((w19.cell? ((Addr.mk b4 0 none).add 3)).isSome = true ∧ w19.frozen? ((Addr.mk b4 0 none).add 3) = false ∧
 (∀ w20 : World, w20 = (((w19.setCell (Addr.mk b4 0 none) (.bool x46)).setCell ((Addr.mk b4 0 none).add 1) (.slice x47a x47n x47c)).setCell ((Addr.mk b4 0 none).add 2) (.slice x48a x48n x48c)).setCell ((Addr.mk b4 0 none).add 3) (.slice x49a x49n x49c) →
 (cond plus (∃ (x50 : Int), w20.cell? (Addr.mk b2 0 none) = some (.int .u64 x50) ∧
 (Cl Tryz.prog 25 #[.slice x2a x2n x2c, .int .u64 x50] w20 fun v12 w21 => ∃ (x51a : Option Addr) (x51n x51c : Nat) (x52 : Int), v12 = .tuple #[.slice x51a x51n x51c, .int .i64 x52] ∧
 (∃ (x53a : Option Addr) (x53n x53c : Nat), w21.cell? ((Addr.mk b4 0 none).add 3) = some (.slice x53a x53n x53c) ∧
 (cond (x52 != 0) (R (.bool false) w21) (∃ (x54a : Option Addr) (x54n x54c : Nat), w21.cell? ((Addr.mk b4 0 none).add 1) = some (.slice x54a x54n x54c) ∧
 (Cl Tryz.prog 22 #[.slice x54a x54n x54c, .slice x51a x51n x51c] w21 fun v13 w22 => ∃ (x55 : Bool), v13 = .bool x55 ∧
 (cond (!x55) (R (.bool false) w22) (∃ (x56 : Int), w22.cell? (Addr.mk b2 0 none) = some (.int .u64 x56) ∧
 (Cl Tryz.prog 116 #[.slice x53a x53n x53c, .agg #[.int .u64 x56, .int .i64 n]] w22 fun v14 w23 => ∃ (x57 : Bool), v14 = .bool x57 ∧
 (cond (!x57) (R (.bool false) w23) (Jv ok (IntKind.i64.wrap (s26 + 1)) w23 ∧ mu ok (IntKind.i64.wrap (s26 + 1)) w23 < mu ok s26 w2))))))))))) (∃ (x58 : Int), w20.cell? (Addr.mk b2 0 none) = some (.int .u64 x58) ∧
 (Cl Tryz.prog 54 #[.slice x2a x2n x2c, .int .u64 x58] w20 fun v15 w24 => ∃ (x59a : Option Addr) (x59n x59c : Nat) (x60 : Int), v15 = .tuple #[.slice x59a x59n x59c, .int .i64 x60] ∧
 (∃ (x61a : Option Addr) (x61n x61c : Nat), w24.cell? ((Addr.mk b4 0 none).add 2) = some (.slice x61a x61n x61c) ∧
 (cond (x60 != 0) (R (.bool false) w24) (∃ (x62a : Option Addr) (x62n x62c : Nat), w24.cell? ((Addr.mk b4 0 none).add 1) = some (.slice x62a x62n x62c) ∧
 (Cl Tryz.prog 22 #[.slice x62a x62n x62c, .slice x59a x59n x59c] w24 fun v16 w25 => ∃ (x63 : Bool), v16 = .bool x63 ∧
 (cond (!x63) (R (.bool false) w25) (∃ (x64 : Int), w25.cell? (Addr.mk b2 0 none) = some (.int .u64 x64) ∧
 (Cl Tryz.prog 116 #[.slice x61a x61n x61c, .agg #[.int .u64 x64, .int .i64 n]] w25 fun v17 w26 => ∃ (x65 : Bool), v17 = .bool x65 ∧
 (cond (!x65) (R (.bool false) w26) (Jv ok (IntKind.i64.wrap (s26 + 1)) w26 ∧ mu ok (IntKind.i64.wrap (s26 + 1)) w26 < mu ok s26 w2))))))))))))))))))))))))))))))))))))) (R (.bool ok) w2))))))
theorem c75 (ga : Option Addr) (gn gc : Nat) (g2a : Option Addr) (g2n g2c : Nat) (n : Int) (rowa : Option Addr) (rown rowc : Nat) (plus : Bool) {w : World} {R : Value → World → Prop} (hV : V75 ga gn gc g2a g2n g2c n rowa rown rowc plus w R) : Cl Tryz.prog 75 #[.agg #[.slice ga gn gc, .slice g2a g2n g2c], .int .i64 n, .slice rowa rown rowc, .bool plus] w R :=
 fn_sound hmTryz (TT := []) (f := 75) Tryz.func75 (ent_of Tryz.func75 (by kernel_rfl) rfl) (Eq.mpr (by kernel_rfl) hV)
/-- windrose/lookup.Many -/
def V76 (la : Option Addr) (ln lc : Nat) (w : World) (R : Value → World → Prop) : Prop :=
 ∀ (b : Nat) (w1 : World), b = w.heap.size → w1 = w.alloc (.cells #[.slice la ln lc] 25) →
 (∃ (x1a : Option Addr) (x1n x1c : Nat), w1.cell? (Addr.mk b 0 none) = some (.slice x1a x1n x1c) ∧
 (Cl Tryz.prog 84 #[.agg #[.slice x1a x1n x1c]] w1 fun v w2 => ∃ (x2a : Option Addr) (x2n x2c : Nat), v = .slice x2a x2n x2c ∧ (R (.int .i64 (x2n : Int)) w2)))
theorem c76 (la : Option Addr) (ln lc : Nat) {w : World} {R : Value → World → Prop} (hV : V76 la ln lc w R) : Cl Tryz.prog 76 #[.agg #[.slice la ln lc]] w R :=
 fn_sound hmTryz (TT := []) (f := 76) Tryz.func76 (ent_of Tryz.func76 (by kernel_rfl) rfl) (Eq.mpr (by kernel_rfl) hV)
/-- windrose/types.some -/
def V77 (la : Option Addr) (ln lc : Nat) (holdsf : FuncId) (holdsc : List Value) (w : World) (R : Value → World → Prop) : Prop :=
 ∀ (b : Nat) (w1 : World), b = w.heap.size → w1 = w.alloc (.cells #[.slice la ln lc] 33) →
 (∀ (b2 : Nat) (w2 : World), b2 = w1.heap.size → w2 = w1.alloc (.cells #[.func (.func holdsf) #[] holdsc.toArray] 101) → (R (.func (.func 117) #[] #[.pointer (some (Addr.mk b 0 none)), .pointer (some (Addr.mk b2 0 none))]) w2))
theorem c77 (la : Option Addr) (ln lc : Nat) (holdsf : FuncId) (holdsc : List Value) {w : World} {R : Value → World → Prop} (hV : V77 la ln lc holdsf holdsc w R) : Cl Tryz.prog 77 #[.slice la ln lc, .func (.func holdsf) #[] holdsc.toArray] w R :=
 fn_sound hmTryz (TT := []) (f := 77) Tryz.func77 (ent_of Tryz.func77 (by kernel_rfl) rfl) (Eq.mpr (by kernel_rfl) hV)
/-- windrose/types.Has$1 -/
def V78 (x1 : Int) (cap0 : Addr) (w : World) (R : Value → World → Prop) : Prop :=
 ∃ (x2 : Int), w.cell? cap0 = some (.int .u64 x2) ∧ (R (.bool (x1 == x2)) w)
theorem c78 (x1 : Int) (cap0 : Addr) {w : World} {R : Value → World → Prop} (hV : V78 x1 cap0 w R) : Cl Tryz.prog 78 #[.int .u64 x1, .pointer (some cap0)] w R :=
 fn_sound hmTryz (TT := []) (f := 78) Tryz.func78 (ent_of Tryz.func78 (by kernel_rfl) rfl) (Eq.mpr (by kernel_rfl) hV)
/-- windrose/graph.used -/
def V79 (ga : Option Addr) (gn gc : Nat) (g2a : Option Addr) (g2n g2c : Nat) (w : World) (R : Value → World → Prop) : Prop :=
 ∀ (b : Nat) (w1 : World), b = w.heap.size → w1 = w.alloc (.cells #[.slice ga gn gc, .slice g2a g2n g2c] 27) → (R (.func (.func 118) #[] #[.pointer (some (Addr.mk b 0 none))]) w1)
theorem c79 (ga : Option Addr) (gn gc : Nat) (g2a : Option Addr) (g2n g2c : Nat) {w : World} {R : Value → World → Prop} (hV : V79 ga gn gc g2a g2n g2c w R) : Cl Tryz.prog 79 #[.agg #[.slice ga gn gc, .slice g2a g2n g2c]] w R :=
 fn_sound hmTryz (TT := []) (f := 79) Tryz.func79 (ent_of Tryz.func79 (by kernel_rfl) rfl) (Eq.mpr (by kernel_rfl) hV)
/-- windrose/lookup.All -/
def V84 (la : Option Addr) (ln lc : Nat) (w : World) (R : Value → World → Prop) : Prop :=
 ∀ (b : Nat) (w1 : World), b = w.heap.size → w1 = w.alloc (.cells #[.slice la ln lc] 25) →
 (∃ (x1a : Option Addr) (x1n x1c : Nat), w1.cell? (Addr.mk b 0 none) = some (.slice x1a x1n x1c) ∧
 (Cl Tryz.prog 73 #[.agg #[.slice x1a x1n x1c]] w1 fun v w2 => ∃ (x2 : Int), v = .int .i64 x2 ∧
 (cond (x2 != 0) (R (.slice none 0 0) w2) (∃ (x3a : Option Addr) (x3n x3c : Nat), w2.cell? (Addr.mk b 0 none) = some (.slice x3a x3n x3c) ∧
 (Cl Tryz.prog 119 #[.agg #[.slice x3a x3n x3c]] w2 fun v2 w3 => ∃ (x4a : Option Addr) (x4n x4c : Nat), v2 = .slice x4a x4n x4c ∧ (R (.slice x4a x4n x4c) w3))))))
theorem c84 (la : Option Addr) (ln lc : Nat) {w : World} {R : Value → World → Prop} (hV : V84 la ln lc w R) : Cl Tryz.prog 84 #[.agg #[.slice la ln lc]] w R :=
 fn_sound hmTryz (TT := []) (f := 84) Tryz.func84 (ent_of Tryz.func84 (by kernel_rfl) rfl) (Eq.mpr (by kernel_rfl) hV)
end Go.Eng
namespace Go.Eng
open Go Go.Proofs
set_option maxRecDepth 100000
set_option maxHeartbeats 4000000
/-- windrose/lookup.Put -/
def V87 (la : Option Addr) (ln lc : Nat) (ta : Option Addr) (tn tc : Nat) (number : Int) (w : World) (R : Value → World → Prop) : Prop :=
 ∀ (b : Nat) (w1 : World), b = w.heap.size → w1 = w.alloc (.cells #[.slice la ln lc] 25) →
 (∀ (b2 : Nat) (w2 : World), b2 = w1.heap.size → w2 = w1.alloc (.cells #[.slice none 0 0] 25) →
 (∃ (x1a : Option Addr) (x1n x1c : Nat), w2.cell? (Addr.mk b 0 none) = some (.slice x1a x1n x1c) ∧
 (Cl Tryz.prog 73 #[.agg #[.slice x1a x1n x1c]] w2 fun v w3 => ∃ (x2 : Int), v = .int .i64 x2 ∧
 (cond (x2 != 0) ((w3.cell? (Addr.mk b2 0 none)).isSome = true ∧ w3.frozen? (Addr.mk b2 0 none) = false ∧
 (∀ w4 : World, w4 = w3.setCell (Addr.mk b2 0 none) (.slice none 0 0) →
 (∃ (ra : Option Addr) (rn rc : Nat), w4.cell? (Addr.mk b2 0 none) = some (.slice ra rn rc) ∧ (R (.tuple #[.agg #[.slice ra rn rc], .int .i64 x2]) w4)))) (∃ (x3a : Option Addr) (x3n x3c : Nat), w3.cell? (Addr.mk b 0 none) = some (.slice x3a x3n x3c) ∧
 (Cl Tryz.prog 119 #[.agg #[.slice x3a x3n x3c]] w3 fun v2 w5 => ∃ (x4a : Option Addr) (x4n x4c : Nat), v2 = .slice x4a x4n x4c ∧
 (Cl Tryz.prog 39 #[.slice ta tn tc] w5 fun v3 w6 => ∃ (x5 : Int), v3 = .int .i64 x5 ∧
 (cond (x5 != 0) ((w6.cell? (Addr.mk b2 0 none)).isSome = true ∧ w6.frozen? (Addr.mk b2 0 none) = false ∧
 (∀ w7 : World, w7 = w6.setCell (Addr.mk b2 0 none) (.slice none 0 0) →
 (∃ (r2a : Option Addr) (r2n r2c : Nat), w7.cell? (Addr.mk b2 0 none) = some (.slice r2a r2n r2c) ∧ (R (.tuple #[.agg #[.slice r2a r2n r2c], .int .i64 130]) w7))))
 (cond (decide (number < 0)) ((w6.cell? (Addr.mk b2 0 none)).isSome = true ∧ w6.frozen? (Addr.mk b2 0 none) = false ∧
 (∀ w8 : World, w8 = w6.setCell (Addr.mk b2 0 none) (.slice none 0 0) →
 (∃ (r3a : Option Addr) (r3n r3c : Nat), w8.cell? (Addr.mk b2 0 none) = some (.slice r3a r3n r3c) ∧ (R (.tuple #[.agg #[.slice r3a r3n r3c], .int .i64 2]) w8)))) (∃ (x6a : Option Addr) (x6n x6c : Nat), w6.cell? (Addr.mk b 0 none) = some (.slice x6a x6n x6c) ∧
 (Cl Tryz.prog 107 #[.agg #[.slice x6a x6n x6c], .slice ta tn tc] w6 fun v4 w9 => ∃ (x7 : Int), v4 = .int .i64 x7 ∧
 (cond (decide (0 ≤ x7)) ((w9.cell? (Addr.mk b2 0 none)).isSome = true ∧ w9.frozen? (Addr.mk b2 0 none) = false ∧
 (∀ w10 : World, w10 = w9.setCell (Addr.mk b2 0 none) (.slice none 0 0) →
 (∃ (r4a : Option Addr) (r4n r4c : Nat), w10.cell? (Addr.mk b2 0 none) = some (.slice r4a r4n r4c) ∧ (R (.tuple #[.agg #[.slice r4a r4n r4c], .int .i64 5]) w10))))
 (cond ((x4n : Int) == 4000) ((w9.cell? (Addr.mk b2 0 none)).isSome = true ∧ w9.frozen? (Addr.mk b2 0 none) = false ∧
 (∀ w11 : World, w11 = w9.setCell (Addr.mk b2 0 none) (.slice none 0 0) →
 (∃ (r5a : Option Addr) (r5n r5c : Nat), w11.cell? (Addr.mk b2 0 none) = some (.slice r5a r5n r5c) ∧ (R (.tuple #[.agg #[.slice r5a r5n r5c], .int .i64 6]) w11))))
 (Cl Tryz.prog 10 #[.slice ta tn tc] w9 fun v5 w12 => ∃ (x8a : Option Addr) (x8n x8c : Nat), v5 = .slice x8a x8n x8c ∧
 (∀ (b3 : Nat) (w13 : World), b3 = w12.heap.size → w13 = w12.alloc (.cells #[.int .i64 1, .slice x8a x8n x8c, .int .i64 number] 94) →
 (∃ (x9a : Option Addr) (x9n x9c : Nat) (w14 : World), Sem.run Tryz.prog (Builtin.append_ #[23, 23] 23 #[.slice x4a x4n x4c, .slice (some (Addr.mk b3 0 none)) 1 1]) w13 = .ok (.slice x9a x9n x9c) w14 ∧
 (∃ (Jv : Int → World → Prop) (mu : Int → World → Nat), Jv 8 w14 ∧ ∀ (jk_ : Nat → Value) (w15 : World), ∀ (many : Int), Jv many w15 →
 (cond (decide ((IntKind.i64.wrap (2 * many)) < (IntKind.i64.wrap (4 * (x9n : Int))))) (Jv (IntKind.i64.wrap (many * 2)) w15 ∧ mu (IntKind.i64.wrap (many * 2)) w15 < mu many w15)
 (Cl Tryz.prog 120 #[.slice x9a x9n x9c, .int .i64 many] w15 fun v6 w16 => ∃ (x10a : Option Addr) (x10n x10c : Nat), v6 = .agg #[.slice x10a x10n x10c] ∧ ((w16.cell? (Addr.mk b2 0 none)).isSome = true ∧ w16.frozen? (Addr.mk b2 0 none) = false ∧
 (∀ w17 : World, w17 = w16.setCell (Addr.mk b2 0 none) (.slice x10a x10n x10c) →
 (∃ (r6a : Option Addr) (r6n r6c : Nat), w17.cell? (Addr.mk b2 0 none) = some (.slice r6a r6n r6c) ∧ (R (.tuple #[.agg #[.slice r6a r6n r6c], .int .i64 0]) w17)))))))))))))))))))))))
theorem c87 (la : Option Addr) (ln lc : Nat) (ta : Option Addr) (tn tc : Nat) (number : Int) {w : World} {R : Value → World → Prop} (hV : V87 la ln lc ta tn tc number w R) : Cl Tryz.prog 87 #[.agg #[.slice la ln lc], .slice ta tn tc, .int .i64 number] w R :=
 fn_sound hmTryz (TT := []) (f := 87) Tryz.func87 (ent_of Tryz.func87 (by kernel_rfl) rfl) (Eq.mpr (by kernel_rfl) hV)
/-- windrose/lookup.New -/
def V88  (w : World) (R : Value → World → Prop) : Prop :=
 ∀ (b : Nat) (w1 : World), b = w.heap.size → w1 = w.alloc (.cells #[.slice none 0 0] 25) →
 (∃ (x1a : Option Addr) (x1n x1c : Nat) (w2 : World), Sem.run Tryz.prog (Instr.makeSlice 23 (.int .i64 8) (.int .i64 8)) w1 = .ok (.slice x1a x1n x1c) w2 ∧ ((w2.cell? (Addr.mk b 0 none)).isSome = true ∧ w2.frozen? (Addr.mk b 0 none) = false ∧
 (∀ w3 : World, w3 = w2.setCell (Addr.mk b 0 none) (.slice x1a x1n x1c) →
 (∃ (ra : Option Addr) (rn rc : Nat), w3.cell? (Addr.mk b 0 none) = some (.slice ra rn rc) ∧ (R (.agg #[.slice ra rn rc]) w3)))))
theorem c88  {w : World} {R : Value → World → Prop} (hV : V88  w R) : Cl Tryz.prog 88 #[] w R :=
 fn_sound hmTryz (TT := []) (f := 88) Tryz.func88 (ent_of Tryz.func88 (by kernel_rfl) rfl) (Eq.mpr (by kernel_rfl) hV)
/-- windrose/windroseref03.Same -/
def V89 (aa : Option Addr) (an ac : Nat) (ba : Option Addr) (bn bc : Nat) (w : World) (R : Value → World → Prop) : Prop :=
 cond ((an : Int) != (bn : Int)) (R (.bool false) w) (∃ (Jv : Bool → Int → World → Prop) (mu : Bool → Int → World → Nat), Jv false 0 w ∧ ∀ (jk_ : Nat → Value) (w1 : World), ∀ (s4 : Bool) (s13 : Int), Jv s4 s13 w1 →
 (cond (decide (s13 < (an : Int))) (∀ w2 : World, w2 = w1.drew →
 (∃ p : Addr, aa = some p ∧ 0 ≤ s13 ∧ s13 < (an : Int) ∧
 (∃ (x1 : Int), w2.cell? (p.add ((s13).toNat * 1)) = some (.int .u64 x1) ∧
 (∃ p2 : Addr, ba = some p2 ∧ 0 ≤ s13 ∧ s13 < (bn : Int) ∧
 (∃ (x2 : Int), w2.cell? (p2.add ((s13).toNat * 1)) = some (.int .u64 x2) ∧
 (cond (x1 != x2) (R (.bool false) w2) (Jv s4 (IntKind.i64.wrap (s13 + 1)) w2 ∧ mu s4 (IntKind.i64.wrap (s13 + 1)) w2 < mu s4 s13 w1))))))) (R (.bool true) w1)))
theorem c89 (aa : Option Addr) (an ac : Nat) (ba : Option Addr) (bn bc : Nat) {w : World} {R : Value → World → Prop} (hV : V89 aa an ac ba bn bc w R) : Cl Tryz.prog 89 #[.slice aa an ac, .slice ba bn bc] w R :=
 fn_sound hmTryz (TT := []) (f := 89) Tryz.func89 (ent_of Tryz.func89 (by kernel_rfl) rfl) (Eq.mpr (by kernel_rfl) hV)
/-- slices.CompareFunc[[]windrose/api.Id,[]windrose/api.Id,windrose/api.Id,windrose/api.Id] -/
def V92 (s1a : Option Addr) (s1n s1c : Nat) (s2a : Option Addr) (s2n s2c : Nat) (cmpf : FuncId) (cmpc : List Value) (w : World) (R : Value → World → Prop) : Prop :=
 ∃ (Jv : Int → Int → World → Prop) (mu : Int → Int → World → Nat), Jv 0 0 w ∧ ∀ (jk_ : Nat → Value) (w1 : World), ∀ (s6 s13 : Int), Jv s6 s13 w1 →
 (cond (decide (s13 < (s1n : Int))) (∃ p : Addr, s1a = some p ∧ 0 ≤ s13 ∧ s13 < (s1n : Int) ∧
 (∃ (x1 : Int), w1.cell? (p.add ((s13).toNat * 1)) = some (.int .u64 x1) ∧
 (cond (decide ((s2n : Int) ≤ s13)) (R (.int .i64 1) w1) (∃ p2 : Addr, s2a = some p2 ∧ 0 ≤ s13 ∧ s13 < (s2n : Int) ∧
 (∃ (x2 : Int), w1.cell? (p2.add ((s13).toNat * 1)) = some (.int .u64 x2) ∧
 (Cl Tryz.prog cmpf (([.int .u64 x1, .int .u64 x2] : List Value) ++ cmpc).toArray w1 fun v w2 => ∃ (x3 : Int), v = .int .i64 x3 ∧
 (cond (x3 != 0) (R (.int .i64 x3) w2) (Jv s6 (IntKind.i64.wrap (s13 + 1)) w2 ∧ mu s6 (IntKind.i64.wrap (s13 + 1)) w2 < mu s6 s13 w1))))))))
 (cond (decide ((s1n : Int) < (s2n : Int))) (R (.int .i64 (-1)) w1) (R (.int .i64 0) w1)))
theorem c92 (s1a : Option Addr) (s1n s1c : Nat) (s2a : Option Addr) (s2n s2c : Nat) (cmpf : FuncId) (cmpc : List Value) {w : World} {R : Value → World → Prop} (hV : V92 s1a s1n s1c s2a s2n s2c cmpf cmpc w R) : Cl Tryz.prog 92 #[.slice s1a s1n s1c, .slice s2a s2n s2c, .func (.func cmpf) #[] cmpc.toArray] w R :=
 fn_sound hmTryz (TT := []) (f := 92) Tryz.func92 (ent_of Tryz.func92 (by kernel_rfl) rfl) (Eq.mpr (by kernel_rfl) hV)
/-- cmp.Compare[windrose/api.Id] -/
def V93 (x1 y : Int) (w : World) (R : Value → World → Prop) : Prop :=
 Cl Tryz.prog 131 #[.int .u64 x1] w fun v w1 => ∃ (x2 : Bool), v = .bool x2 ∧
 (Cl Tryz.prog 131 #[.int .u64 y] w1 fun v2 w2 => ∃ (x3 : Bool), v2 = .bool x3 ∧
 (cond x2 (cond x3 (R (.int .i64 0) w2) (R (.int .i64 (-1)) w2))
 (cond x3 (R (.int .i64 1) w2)
 (cond (decide (x1 < y)) (R (.int .i64 (-1)) w2)
 (cond (decide (y < x1)) (R (.int .i64 1) w2) (R (.int .i64 0) w2))))))
theorem c93 (x1 y : Int) {w : World} {R : Value → World → Prop} (hV : V93 x1 y w R) : Cl Tryz.prog 93 #[.int .u64 x1, .int .u64 y] w R :=
 fn_sound hmTryz (TT := []) (f := 93) Tryz.func93 (ent_of Tryz.func93 (by kernel_rfl) rfl) (Eq.mpr (by kernel_rfl) hV)
/-- windrose/ident.within -/
def V95 (low most : Int) (la : Option Addr) (ln lc : Nat) (w : World) (R : Value → World → Prop) : Prop :=
 ∃ (Jv : Bool → Int → World → Prop) (mu : Bool → Int → World → Nat), Jv true 0 w ∧ ∀ (jk_ : Nat → Value) (w1 : World), ∀ (ok : Bool) (s12 : Int), Jv ok s12 w1 →
 (cond (decide (s12 < (ln : Int))) (∃ p : Addr, la = some p ∧ 0 ≤ s12 ∧ s12 < (ln : Int) ∧
 (∃ (x1 : Int), w1.cell? (p.add ((s12).toNat * 1)) = some (.int .i64 x1) ∧
 (cond (decide (low ≤ x1))
 (cond (!(decide (x1 ≤ most))) (R (.bool (decide (x1 ≤ most))) w1) (Jv (decide (x1 ≤ most)) (IntKind.i64.wrap (s12 + 1)) w1 ∧ mu (decide (x1 ≤ most)) (IntKind.i64.wrap (s12 + 1)) w1 < mu ok s12 w1)) (R (.bool false) w1)))) (R (.bool ok) w1))
theorem c95 (low most : Int) (la : Option Addr) (ln lc : Nat) {w : World} {R : Value → World → Prop} (hV : V95 low most la ln lc w R) : Cl Tryz.prog 95 #[.int .i64 low, .int .i64 most, .slice la ln lc] w R :=
 fn_sound hmTryz (TT := []) (f := 95) Tryz.func95 (ent_of Tryz.func95 (by kernel_rfl) rfl) (Eq.mpr (by kernel_rfl) hV)
/-- windrose/ident.packed -/
def V96 (mark second first : Int) (w : World) (R : Value → World → Prop) : Prop :=
 R (.int .u64 (bor .u64 (bor .u64 mark (bshl .u64 (IntKind.u64.wrap second) 32)) (IntKind.u64.wrap first))) w
theorem c96 (mark second first : Int) {w : World} {R : Value → World → Prop} (hV : V96 mark second first w R) : Cl Tryz.prog 96 #[.int .u64 mark, .int .i64 second, .int .i64 first] w R :=
 fn_sound hmTryz (TT := []) (f := 96) Tryz.func96 (ent_of Tryz.func96 (by kernel_rfl) rfl) (Eq.mpr (by kernel_rfl) hV)
/-- windrose/windroseref12.steps -/
def V97 (la : Option Addr) (ln lc : Nat) (n : Int) (rowa : Option Addr) (rown rowc : Nat) (plus : Bool) (w : World) (R : Value → World → Prop) : Prop :=
 ∃ p : Addr, la = some p ∧ 0 ≤ (IntKind.i64.wrap (n - 1)) ∧ (IntKind.i64.wrap (n - 1)) < (ln : Int) ∧
 (∃ (x1 : Bool) (x2a : Option Addr) (x2n x2c : Nat) (x3a : Option Addr) (x3n x3c : Nat) (x4a : Option Addr) (x4n x4c : Nat), w.cell? (p.add (((IntKind.i64.wrap (n - 1))).toNat * 4)) = some (.bool x1) ∧ w.cell? ((p.add (((IntKind.i64.wrap (n - 1))).toNat * 4)).add 1) = some (.slice x2a x2n x2c) ∧ w.cell? ((p.add (((IntKind.i64.wrap (n - 1))).toNat * 4)).add 2) = some (.slice x3a x3n x3c) ∧ w.cell? ((p.add (((IntKind.i64.wrap (n - 1))).toNat * 4)).add 3) = some (.slice x4a x4n x4c) ∧
 (∀ (b : Nat) (w1 : World), b = w.heap.size → w1 = w.alloc (.cells #[.bool false, .slice none 0 0, .slice none 0 0, .slice none 0 0] 56) → ((w1.cell? (Addr.mk b 0 none)).isSome = true ∧ w1.frozen? (Addr.mk b 0 none) = false ∧ ((w1.cell? ((Addr.mk b 0 none).add 1)).isSome = true ∧ w1.frozen? ((Addr.mk b 0 none).add 1) = false ∧ ((w1.cell? ((Addr.mk b 0 none).add 2)).isSome = true ∧ w1.frozen? ((Addr.mk b 0 none).add 2) = false ∧ ((w1.cell? ((Addr.mk b 0 none).add 3)).isSome = true ∧ w1.frozen? ((Addr.mk b 0 none).add 3) = false ∧
 (∀ w2 : World, w2 = (((w1.setCell (Addr.mk b 0 none) (.bool x1)).setCell ((Addr.mk b 0 none).add 1) (.slice x2a x2n x2c)).setCell ((Addr.mk b 0 none).add 2) (.slice x3a x3n x3c)).setCell ((Addr.mk b 0 none).add 3) (.slice x4a x4n x4c) →
 (∃ (Jv : Bool → Int → World → Prop) (mu : Bool → Int → World → Nat), Jv false 0 w2 ∧ ∀ (jk_ : Nat → Value) (w3 : World), ∀ (s8 : Bool) (s21 : Int), Jv s8 s21 w3 →
 (cond (decide (s21 < (rown : Int))) (∃ p2 : Addr, rowa = some p2 ∧ 0 ≤ s21 ∧ s21 < (rown : Int) ∧
 (∃ (x5 x6 : Int), w3.cell? (p2.add ((s21).toNat * 2)) = some (.int .u64 x5) ∧ w3.cell? ((p2.add ((s21).toNat * 2)).add 1) = some (.int .i64 x6) ∧
 (∀ (b2 : Nat) (w4 : World), b2 = w3.heap.size → w4 = w3.alloc (.cells #[.int .u64 0, .int .i64 0] 71) → ((w4.cell? (Addr.mk b2 0 none)).isSome = true ∧ w4.frozen? (Addr.mk b2 0 none) = false ∧ ((w4.cell? ((Addr.mk b2 0 none).add 1)).isSome = true ∧ w4.frozen? ((Addr.mk b2 0 none).add 1) = false ∧
 (∀ w5 : World, w5 = (w4.setCell (Addr.mk b2 0 none) (.int .u64 x5)).setCell ((Addr.mk b2 0 none).add 1) (.int .i64 x6) →
 (∀ w6 : World, w6 = w5.drew →
 (cond (decide (0 < s21)) (∃ p3 : Addr, rowa = some p3 ∧ 0 ≤ (IntKind.i64.wrap (s21 - 1)) ∧ (IntKind.i64.wrap (s21 - 1)) < (rown : Int) ∧
 (∃ (x7 : Int), w6.cell? (p3.add (((IntKind.i64.wrap (s21 - 1))).toNat * 2)) = some (.int .u64 x7) ∧
 (∃ (x8 : Int), w6.cell? (Addr.mk b2 0 none) = some (.int .u64 x8) ∧
 (cond (decide (x8 ≤ x7)) (R (.bool false) w6) (∃ (x9 : Int), w6.cell? ((Addr.mk b2 0 none).add 1) = some (.int .i64 x9) ∧
 (Cl Tryz.prog 36 #[.slice la ln lc, .int .i64 x9] w6 fun v w7 => ∃ (x10 : Bool), v = .bool x10 ∧
 (cond (!x10) (R (.bool false) w7) (∃ (x11a : Option Addr) (x11n x11c : Nat), w7.cell? ((Addr.mk b 0 none).add 1) = some (.slice x11a x11n x11c) ∧
 (∃ (x12 : Int), w7.cell? (Addr.mk b2 0 none) = some (.int .u64 x12) ∧
 (Cl Tryz.prog 55 #[.slice x11a x11n x11c, .int .u64 x12] w7 fun v2 w8 => ∃ (x13 : Bool), v2 = .bool x13 ∧
 (cond (x13 == plus) (R (.bool false) w8) (∃ (x14 : Int), w8.cell? ((Addr.mk b2 0 none).add 1) = some (.int .i64 x14) ∧
 (∃ p4 : Addr, la = some p4 ∧ 0 ≤ (IntKind.i64.wrap (x14 - 1)) ∧ (IntKind.i64.wrap (x14 - 1)) < (ln : Int) ∧
 (∃ (x15 : Bool) (x16a : Option Addr) (x16n x16c : Nat) (x17a : Option Addr) (x17n x17c : Nat) (x18a : Option Addr) (x18n x18c : Nat), w8.cell? (p4.add (((IntKind.i64.wrap (x14 - 1))).toNat * 4)) = some (.bool x15) ∧ w8.cell? ((p4.add (((IntKind.i64.wrap (x14 - 1))).toNat * 4)).add 1) = some (.slice x16a x16n x16c) ∧ w8.cell? ((p4.add (((IntKind.i64.wrap (x14 - 1))).toNat * 4)).add 2) = some (.slice x17a x17n x17c) ∧ w8.cell? ((p4.add (((IntKind.i64.wrap (x14 - 1))).toNat * 4)).add 3) = some (.slice x18a x18n x18c) ∧
 (∀ (b3 : Nat) (w9 : World), b3 = w8.heap.size → w9 = w8.alloc (.cells #[.bool false, .slice none 0 0, .slice none 0 0, .slice none 0 0] 56) → ((w9.cell? (Addr.mk b3 0 none)).isSome = true ∧ w9.frozen? (Addr.mk b3 0 none) = false ∧ ((w9.cell? ((Addr.mk b3 0 none).add 1)).isSome = true ∧ w9.frozen? ((Addr.mk b3 0 none).add 1) = false ∧ ((w9.cell? ((Addr.mk b3 0 none).add 2)).isSome = true ∧ w9.frozen? ((Addr.mk b3 0 none).add 2) = false ∧ ((w9.cell? ((Addr.mk b3 0 none).add 3)).isSome = true ∧ w9.frozen? ((Addr.mk b3 0 none).add 3) = false ∧
 (∀ w10 : World, w10 = (((w9.setCell (Addr.mk b3 0 none) (.bool x15)).setCell ((Addr.mk b3 0 none).add 1) (.slice x16a x16n x16c)).setCell ((Addr.mk b3 0 none).add 2) (.slice x17a x17n x17c)).setCell ((Addr.mk b3 0 none).add 3) (.slice x18a x18n x18c) →
 (∃ (x19 : Int), w10.cell? (Addr.mk b2 0 none) = some (.int .u64 x19) ∧
 (∀ (b4 : Nat) (w11 : World), b4 = w10.heap.size → w11 = w10.alloc (.cells #[.int .u64 0, .int .i64 0] 71) → ((w11.cell? (Addr.mk b4 0 none)).isSome = true ∧ w11.frozen? (Addr.mk b4 0 none) = false ∧ ((w11.cell? ((Addr.mk b4 0 none).add 1)).isSome = true ∧ w11.frozen? ((Addr.mk b4 0 none).add 1) = false ∧
 (∀ w12 : World, w12 = (w11.setCell (Addr.mk b4 0 none) (.int .u64 x19)).setCell ((Addr.mk b4 0 none).add 1) (.int .i64 n) →
 (∀ w13 : World, w13 = w12.drew →
 (cond plus (∃ (x20a : Option Addr) (x20n x20c : Nat), w13.cell? ((Addr.mk b3 0 none).add 3) = some (.slice x20a x20n x20c) ∧
 (∃ (x21 x22 : Int), w13.cell? (Addr.mk b4 0 none) = some (.int .u64 x21) ∧ w13.cell? ((Addr.mk b4 0 none).add 1) = some (.int .i64 x22) ∧
 (Cl Tryz.prog 132 #[.slice x20a x20n x20c, .agg #[.int .u64 x21, .int .i64 x22]] w13 fun v3 w14 => ∃ (x23 : Bool), v3 = .bool x23 ∧
 (cond (!x23) (R (.bool false) w14) (∃ (x24a : Option Addr) (x24n x24c : Nat), w14.cell? ((Addr.mk b3 0 none).add 1) = some (.slice x24a x24n x24c) ∧
 (∃ (x25a : Option Addr) (x25n x25c : Nat), w14.cell? ((Addr.mk b 0 none).add 1) = some (.slice x25a x25n x25c) ∧
 (∃ (x26 : Int), w14.cell? (Addr.mk b2 0 none) = some (.int .u64 x26) ∧
 (Cl Tryz.prog 58 #[.slice x25a x25n x25c, .int .u64 x26] w14 fun v4 w15 => ∃ (x27a : Option Addr) (x27n x27c : Nat), v4 = .slice x27a x27n x27c ∧ (w15.cell? ((Addr.mk b3 0 none).add 1) = some (.slice x24a x24n x24c) ∧
 (Cl Tryz.prog 89 #[.slice x24a x24n x24c, .slice x27a x27n x27c] w15 fun v5 w16 => ∃ (x28 : Bool), v5 = .bool x28 ∧
 (cond (!x28) (R (.bool false) w16) (∀ w17 : World, w17 = w16.drew →
 (cond (!plus) (∃ (x29a : Option Addr) (x29n x29c : Nat), w17.cell? ((Addr.mk b3 0 none).add 2) = some (.slice x29a x29n x29c) ∧
 (∃ (x30 x31 : Int), w17.cell? (Addr.mk b4 0 none) = some (.int .u64 x30) ∧ w17.cell? ((Addr.mk b4 0 none).add 1) = some (.int .i64 x31) ∧
 (Cl Tryz.prog 132 #[.slice x29a x29n x29c, .agg #[.int .u64 x30, .int .i64 x31]] w17 fun v6 w18 => ∃ (x32 : Bool), v6 = .bool x32 ∧
 (cond (!x32) (R (.bool false) w18) (∃ (x33a : Option Addr) (x33n x33c : Nat), w18.cell? ((Addr.mk b3 0 none).add 1) = some (.slice x33a x33n x33c) ∧
 (∃ (x34a : Option Addr) (x34n x34c : Nat), w18.cell? ((Addr.mk b 0 none).add 1) = some (.slice x34a x34n x34c) ∧
 (∃ (x35 : Int), w18.cell? (Addr.mk b2 0 none) = some (.int .u64 x35) ∧
 (Cl Tryz.prog 57 #[.slice x34a x34n x34c, .int .u64 x35] w18 fun v7 w19 => ∃ (x36a : Option Addr) (x36n x36c : Nat), v7 = .slice x36a x36n x36c ∧ (w19.cell? ((Addr.mk b3 0 none).add 1) = some (.slice x33a x33n x33c) ∧
 (Cl Tryz.prog 89 #[.slice x33a x33n x33c, .slice x36a x36n x36c] w19 fun v8 w20 => ∃ (x37 : Bool), v8 = .bool x37 ∧
 (cond (!x37) (R (.bool false) w20) (Jv s8 (IntKind.i64.wrap (s21 + 1)) w20 ∧ mu s8 (IntKind.i64.wrap (s21 + 1)) w20 < mu s8 s21 w3)))))))))))) (Jv s8 (IntKind.i64.wrap (s21 + 1)) w17 ∧ mu s8 (IntKind.i64.wrap (s21 + 1)) w17 < mu s8 s21 w3)))))))))))))) (∀ w21 : World, w21 = w13.drew →
 (cond (!plus) (∃ (x38a : Option Addr) (x38n x38c : Nat), w21.cell? ((Addr.mk b3 0 none).add 2) = some (.slice x38a x38n x38c) ∧
 (∃ (x39 x40 : Int), w21.cell? (Addr.mk b4 0 none) = some (.int .u64 x39) ∧ w21.cell? ((Addr.mk b4 0 none).add 1) = some (.int .i64 x40) ∧
 (Cl Tryz.prog 132 #[.slice x38a x38n x38c, .agg #[.int .u64 x39, .int .i64 x40]] w21 fun v9 w22 => ∃ (x41 : Bool), v9 = .bool x41 ∧
 (cond (!x41) (R (.bool false) w22) (∃ (x42a : Option Addr) (x42n x42c : Nat), w22.cell? ((Addr.mk b3 0 none).add 1) = some (.slice x42a x42n x42c) ∧
 (∃ (x43a : Option Addr) (x43n x43c : Nat), w22.cell? ((Addr.mk b 0 none).add 1) = some (.slice x43a x43n x43c) ∧
 (∃ (x44 : Int), w22.cell? (Addr.mk b2 0 none) = some (.int .u64 x44) ∧
 (Cl Tryz.prog 57 #[.slice x43a x43n x43c, .int .u64 x44] w22 fun v10 w23 => ∃ (x45a : Option Addr) (x45n x45c : Nat), v10 = .slice x45a x45n x45c ∧ (w23.cell? ((Addr.mk b3 0 none).add 1) = some (.slice x42a x42n x42c) ∧
 (Cl Tryz.prog 89 #[.slice x42a x42n x42c, .slice x45a x45n x45c] w23 fun v11 w24 => ∃ (x46 : Bool), v11 = .bool x46 ∧
 (cond (!x46) (R (.bool false) w24) (Jv s8 (IntKind.i64.wrap (s21 + 1)) w24 ∧ mu s8 (IntKind.i64.wrap (s21 + 1)) w24 < mu s8 s21 w3)))))))))))) (Jv s8 (IntKind.i64.wrap (s21 + 1)) w21 ∧ mu s8 (IntKind.i64.wrap (s21 + 1)) w21 < mu s8 s21 w3)))))))))))))))))))))))))))))) (∃ (x47 : Int), w6.cell? ((Addr.mk b2 0 none).add 1) = some (.int .i64 x47) ∧
 (Cl Tryz.prog 36 #[.slice la ln lc, .int .i64 x47] w6 fun v12 w25 => ∃ (x48 : Bool), v12 = .bool x48 ∧
 (cond (!x48) (R (.bool false) w25) (∃ (x49a : Option Addr) (x49n x49c : Nat), w25.cell? ((Addr.mk b 0 none).add 1) = some (.slice x49a x49n x49c) ∧
 (∃ (x50 : Int), w25.cell? (Addr.mk b2 0 none) = some (.int .u64 x50) ∧
 (Cl Tryz.prog 55 #[.slice x49a x49n x49c, .int .u64 x50] w25 fun v13 w26 => ∃ (x51 : Bool), v13 = .bool x51 ∧
 (cond (x51 == plus) (R (.bool false) w26) (∃ (x52 : Int), w26.cell? ((Addr.mk b2 0 none).add 1) = some (.int .i64 x52) ∧
 (∃ p5 : Addr, la = some p5 ∧ 0 ≤ (IntKind.i64.wrap (x52 - 1)) ∧ (IntKind.i64.wrap (x52 - 1)) < (ln : Int) ∧
 (∃ (x53 : Bool) (x54a : Option Addr) (x54n x54c : Nat) (x55a : Option Addr) (x55n x55c : Nat) (x56a : Option Addr) (x56n x56c : Nat), w26.cell? (p5.add (((IntKind.i64.wrap (x52 - 1))).toNat * 4)) = some (.bool x53) ∧ w26.cell? ((p5.add (((IntKind.i64.wrap (x52 - 1))).toNat * 4)).add 1) = some (.slice x54a x54n x54c) ∧ w26.cell? ((p5.add (((IntKind.i64.wrap (x52 - 1))).toNat * 4)).add 2) = some (.slice x55a x55n x55c) ∧ w26.cell? ((p5.add (((IntKind.i64.wrap (x52 - 1))).toNat * 4)).add 3) = some (.slice x56a x56n x56c) ∧
 (∀ (b5 : Nat) (w27 : World), b5 = w26.heap.size → w27 = w26.alloc (.cells #[.bool false, .slice none 0 0, .slice none 0 0, .slice none 0 0] 56) → ((w27.cell? (Addr.mk b5 0 none)).isSome = true ∧ w27.frozen? (Addr.mk b5 0 none) = false ∧ ((w27.cell? ((Addr.mk b5 0 none).add 1)).isSome = true ∧ w27.frozen? ((Addr.mk b5 0 none).add 1) = false ∧ ((w27.cell? ((Addr.mk b5 0 none).add 2)).isSome = true ∧ w27.frozen? ((Addr.mk b5 0 none).add 2) = false ∧ ((w27.cell? ((Addr.mk b5 0 none).add 3)).isSome = true ∧ w27.frozen? ((Addr.mk b5 0 none).add 3) = false ∧
 (∀ w28 : World, w28 = (((w27.setCell (Addr.mk b5 0 none) (.bool x53)).setCell ((Addr.mk b5 0 none).add 1) (.slice x54a x54n x54c)).setCell ((Addr.mk b5 0 none).add 2) (.slice x55a x55n x55c)).setCell ((Addr.mk b5 0 none).add 3) (.slice x56a x56n x56c) →
 (∃ (x57 : Int), w28.cell? (Addr.mk b2 0 none) = some (.int .u64 x57) ∧
 (∀ (b6 : Nat) (w29 : World), b6 = w28.heap.size → w29 = w28.alloc (.cells #[.int .u64 0, .int .i64 0] 71) → ((w29.cell? (Addr.mk b6 0 none)).isSome = true ∧ w29.frozen? (Addr.mk b6 0 none) = false ∧ ((w29.cell? ((Addr.mk b6 0 none).add 1)).isSome = true ∧ w29.frozen? ((Addr.mk b6 0 none).add 1) = false ∧
 (∀ w30 : World, w30 = (w29.setCell (Addr.mk b6 0 none) (.int .u64 x57)).setCell ((Addr.mk b6 0 none).add 1) (.int .i64 n) →
 (∀ w31 : World, w31 = w30.drew →
 (cond plus (∃ (x58a : Option Addr) (x58n x58c : Nat), w31.cell? ((Addr.mk b5 0 none).add 3) = some (.slice x58a x58n x58c) ∧
 (∃ (x59 x60 : Int), w31.cell? (Addr.mk b6 0 none) = some (.int .u64 x59) ∧ w31.cell? ((Addr.mk b6 0 none).add 1) = some (.int .i64 x60) ∧
 (Cl Tryz.prog 132 #[.slice x58a x58n x58c, .agg #[.int .u64 x59, .int .i64 x60]] w31 fun v14 w32 => ∃ (x61 : Bool), v14 = .bool x61 ∧
 (cond (!x61) (R (.bool false) w32) (∃ (x62a : Option Addr) (x62n x62c : Nat), w32.cell? ((Addr.mk b5 0 none).add 1) = some (.slice x62a x62n x62c) ∧
 (∃ (x63a : Option Addr) (x63n x63c : Nat), w32.cell? ((Addr.mk b 0 none).add 1) = some (.slice x63a x63n x63c) ∧
 (∃ (x64 : Int), w32.cell? (Addr.mk b2 0 none) = some (.int .u64 x64) ∧
 (Cl Tryz.prog 58 #[.slice x63a x63n x63c, .int .u64 x64] w32 fun v15 w33 => ∃ (x65a : Option Addr) (x65n x65c : Nat), v15 = .slice x65a x65n x65c ∧ (w33.cell? ((Addr.mk b5 0 none).add 1) = some (.slice x62a x62n x62c) ∧
 (Cl Tryz.prog 89 #[.slice x62a x62n x62c, .slice x65a x65n x65c] w33 fun v16 w34 => ∃ (x66 : Bool), v16 = .bool x66 ∧
 (cond (!x66) (R (.bool false) w34) (∀ w35 : World, w35 = w34.drew →
 (cond (!plus) (∃ (x67a : Option Addr) (x67n x67c : Nat), w35.cell? ((Addr.mk b5 0 none).add 2) = some (.slice x67a x67n x67c) ∧
 (∃ (x68 x69 : Int), w35.cell? (Addr.mk b6 0 none) = some (.int .u64 x68) ∧ w35.cell? ((Addr.mk b6 0 none).add 1) = some (.int .i64 x69) ∧
 (Cl Tryz.prog 132 #[.slice x67a x67n x67c, .agg #[.int .u64 x68, .int .i64 x69]] w35 fun v17 w36 => ∃ (x70 : Bool), v17 = .bool x70 ∧
 (cond (!x70) (R (.bool false) w36) (∃ (x71a : Option Addr) (x71n x71c : Nat), w36.cell? ((Addr.mk b5 0 none).add 1) = some (.slice x71a x71n x71c) ∧
 (∃ (x72a : Option Addr) (x72n x72c : Nat), w36.cell? ((Addr.mk b 0 none).add 1) = some (.slice x72a x72n x72c) ∧
 (∃ (x73 : Int), w36.cell? (Addr.mk b2 0 none) = some (.int .u64 x73) ∧
 (Cl Tryz.prog 57 #[.slice x72a x72n x72c, .int .u64 x73] w36 fun v18 w37 => ∃ (x74a : Option Addr) (x74n x74c : Nat), v18 = .slice x74a x74n x74c ∧ (w37.cell? ((Addr.mk b5 0 none).add 1) = some (.slice x71a x71n x71c) ∧
 (Cl Tryz.prog 89 #[.slice x71a x71n x71c, .slice x74a x74n x74c] w37 fun v19 w38 => ∃ (x75 : Bool), v19 = .bool x75 ∧
 (cond (!x75) (R (.bool false) w38) (Jv s8 (IntKind.i64.wrap (s21 + 1)) w38 ∧ mu s8 (IntKind.i64.wrap (s21 + 1)) w38 < mu s8 s21 w3)))))))))))) (Jv s8 (IntKind.i64.wrap (s21 + 1)) w35 ∧ mu s8 (IntKind.i64.wrap (s21 + 1)) w35 < mu s8 s21 w3)))))))))))))) (∀ w39 : World, w39 = w31.drew →
 (cond (!plus) (∃ (x76a : Option Addr) (x76n x76c : Nat), w39.cell? ((Addr.mk b5 0 none).add 2) = some (.slice x76a x76n x76c) ∧
 (∃ (x77 x78 : Int), w39.cell? (Addr.mk b6 0 none) = some (.int .u64 x77) ∧ w39.cell? ((Addr.mk b6 0 none).add 1) = some (.int .i64 x78) ∧
 (Cl Tryz.prog 132 #[.slice x76a x76n x76c, .agg #[.int .u64 x77, .int .i64 x78]] w39 fun v20 w40 => ∃ (x79 : Bool), v20 = .bool x79 ∧
 (cond (!x79) (R (.bool false) w40) (∃ (x80a : Option Addr) (x80n x80c : Nat), w40.cell? ((Addr.mk b5 0 none).add 1) = some (.slice x80a x80n x80c) ∧
 (∃ (x81a : Option Addr) (x81n x81c : Nat), w40.cell? ((Addr.mk b 0 none).add 1) = some (.slice x81a x81n x81c) ∧
 (∃ (x82 : Int), w40.cell? (Addr.mk b2 0 none) = some (.int .u64 x82) ∧
 (Cl Tryz.prog 57 #[.slice x81a x81n x81c, .int .u64 x82] w40 fun v21 w41 => ∃ (x83a : Option Addr) (x83n x83c : Nat), v21 = .slice x83a x83n x83c ∧ (w41.cell? ((Addr.mk b5 0 none).add 1) = some (.slice x80a x80n x80c) ∧
 (Cl Tryz.prog 89 #[.slice x80a x80n x80c, .slice x83a x83n x83c] w41 fun v22 w42 => ∃ (x84 : Bool), v22 = .bool x84 ∧
 (cond (!x84) (R (.bool false) w42) (Jv s8 (IntKind.i64.wrap (s21 + 1)) w42 ∧ mu s8 (IntKind.i64.wrap (s21 + 1)) w42 < mu s8 s21 w3)))))))))))) (Jv s8 (IntKind.i64.wrap (s21 + 1)) w39 ∧ mu s8 (IntKind.i64.wrap (s21 + 1)) w39 < mu s8 s21 w3)))))))))))))))))))))))))))))))))) (R (.bool true) w3))))))))))
theorem c97 (la : Option Addr) (ln lc : Nat) (n : Int) (rowa : Option Addr) (rown rowc : Nat) (plus : Bool) {w : World} {R : Value → World → Prop} (hV : V97 la ln lc n rowa rown rowc plus w R) : Cl Tryz.prog 97 #[.slice la ln lc, .int .i64 n, .slice rowa rown rowc, .bool plus] w R :=
 fn_sound hmTryz (TT := []) (f := 97) Tryz.func97 (ent_of Tryz.func97 (by kernel_rfl) rfl) (Eq.mpr (by kernel_rfl) hV)
/-- windrose/windroseref07.Found -/
def V98 (la : Option Addr) (ln lc : Nat) (ta : Option Addr) (tn tc : Nat) (at_ : Int) (w : World) (R : Value → World → Prop) : Prop :=
 ∀ (b : Nat) (w1 : World), b = w.heap.size → w1 = w.alloc (.cells #[.slice la ln lc] 25) →
 (Cl Tryz.prog 133 #[.slice ta tn tc] w1 fun v w2 => ∃ (x1 : Int), v = .int .u64 x1 ∧
 (∃ (x2a : Option Addr) (x2n x2c : Nat), w2.cell? (Addr.mk b 0 none) = some (.slice x2a x2n x2c) ∧
 (∃ (Jv : Bool → Int → World → Prop) (mu : Bool → Int → World → Nat), Jv false 0 w2 ∧ ∀ (jk_ : Nat → Value) (w3 : World), ∀ (s6 : Bool) (s15 : Int), Jv s6 s15 w3 →
 (cond (decide (s15 < (x2n : Int))) (∃ (x3a : Option Addr) (x3n x3c : Nat), w3.cell? (Addr.mk b 0 none) = some (.slice x3a x3n x3c) ∧
 (Cl Tryz.prog 134 #[.int .u64 x1, .int .i64 (x3n : Int), .int .i64 s15] w3 fun v2 w4 => ∃ (x4 : Int), v2 = .int .i64 x4 ∧
 (cond (x4 == at_) (∃ (x5a : Option Addr) (x5n x5c : Nat), w4.cell? (Addr.mk b 0 none) = some (.slice x5a x5n x5c) ∧
 (∃ p : Addr, x5a = some p ∧ 0 ≤ at_ ∧ at_ < (x5n : Int) ∧
 (∃ (x6 : Int), w4.cell? (p.add ((at_).toNat * 3)) = some (.int .i64 x6) ∧
 (cond (x6 == 1) (∃ (x7a : Option Addr) (x7n x7c : Nat), w4.cell? (Addr.mk b 0 none) = some (.slice x7a x7n x7c) ∧
 (∃ p2 : Addr, x7a = some p2 ∧ 0 ≤ at_ ∧ at_ < (x7n : Int) ∧
 (∃ (x8a : Option Addr) (x8n x8c : Nat), w4.cell? ((p2.add ((at_).toNat * 3)).add 1) = some (.slice x8a x8n x8c) ∧
 (Cl Tryz.prog 89 #[.slice x8a x8n x8c, .slice ta tn tc] w4 fun v3 w5 => ∃ (x9 : Bool), v3 = .bool x9 ∧ (R (.bool x9) w5))))) (R (.bool false) w4))))) (∃ (x10a : Option Addr) (x10n x10c : Nat), w4.cell? (Addr.mk b 0 none) = some (.slice x10a x10n x10c) ∧
 (∃ p3 : Addr, x10a = some p3 ∧ 0 ≤ x4 ∧ x4 < (x10n : Int) ∧
 (∃ (x11 : Int), w4.cell? (p3.add ((x4).toNat * 3)) = some (.int .i64 x11) ∧
 (cond (x11 == 0) (R (.bool false) w4) (Jv s6 (IntKind.i64.wrap (s15 + 1)) w4 ∧ mu s6 (IntKind.i64.wrap (s15 + 1)) w4 < mu s6 s15 w3)))))))) (R (.bool false) w3)))))
theorem c98 (la : Option Addr) (ln lc : Nat) (ta : Option Addr) (tn tc : Nat) (at_ : Int) {w : World} {R : Value → World → Prop} (hV : V98 la ln lc ta tn tc at_ w R) : Cl Tryz.prog 98 #[.agg #[.slice la ln lc], .slice ta tn tc, .int .i64 at_] w R :=
 fn_sound hmTryz (TT := []) (f := 98) Tryz.func98 (ent_of Tryz.func98 (by kernel_rfl) rfl) (Eq.mpr (by kernel_rfl) hV)
/-- windrose/windroseref07.With -/
def V99 (la : Option Addr) (ln lc : Nat) (x1 : Int) (x2a : Option Addr) (x2n x2c : Nat) (x3 : Int) (w : World) (R : Value → World → Prop) : Prop :=
 ∀ (b : Nat) (w1 : World), b = w.heap.size → w1 = w.alloc (.cells #[.int .i64 x1, .slice x2a x2n x2c, .int .i64 x3] 94) →
 (∃ (Jv : Option Addr → Nat → Nat → Bool → Int → World → Prop) (mu : Option Addr → Nat → Nat → Bool → Int → World → Nat), Jv none 0 0 false 0 w1 ∧ ∀ (jk_ : Nat → Value) (w2 : World), ∀ (outa : Option Addr) (outn outc : Nat) (laid : Bool) (s11 : Int), Jv outa outn outc laid s11 w2 →
 (cond (decide (s11 < (ln : Int))) (∃ p : Addr, la = some p ∧ 0 ≤ s11 ∧ s11 < (ln : Int) ∧
 (∃ (x4 : Int) (x5a : Option Addr) (x5n x5c : Nat) (x6 : Int), w2.cell? (p.add ((s11).toNat * 3)) = some (.int .i64 x4) ∧ w2.cell? ((p.add ((s11).toNat * 3)).add 1) = some (.slice x5a x5n x5c) ∧ w2.cell? ((p.add ((s11).toNat * 3)).add 2) = some (.int .i64 x6) ∧
 (∀ (b2 : Nat) (w3 : World), b2 = w2.heap.size → w3 = w2.alloc (.cells #[.int .i64 0, .slice none 0 0, .int .i64 0] 94) → ((w3.cell? (Addr.mk b2 0 none)).isSome = true ∧ w3.frozen? (Addr.mk b2 0 none) = false ∧ ((w3.cell? ((Addr.mk b2 0 none).add 1)).isSome = true ∧ w3.frozen? ((Addr.mk b2 0 none).add 1) = false ∧ ((w3.cell? ((Addr.mk b2 0 none).add 2)).isSome = true ∧ w3.frozen? ((Addr.mk b2 0 none).add 2) = false ∧
 (∀ w4 : World, w4 = ((w3.setCell (Addr.mk b2 0 none) (.int .i64 x4)).setCell ((Addr.mk b2 0 none).add 1) (.slice x5a x5n x5c)).setCell ((Addr.mk b2 0 none).add 2) (.int .i64 x6) →
 (cond (!laid) (∃ (x7a : Option Addr) (x7n x7c : Nat), w4.cell? ((Addr.mk b 0 none).add 1) = some (.slice x7a x7n x7c) ∧
 (∃ (x8a : Option Addr) (x8n x8c : Nat), w4.cell? ((Addr.mk b2 0 none).add 1) = some (.slice x8a x8n x8c) ∧
 (Cl Tryz.prog 135 #[.slice x7a x7n x7c, .slice x8a x8n x8c] w4 fun v w5 => ∃ (x9 : Int), v = .int .i64 x9 ∧
 (cond (decide (x9 < 0)) (∃ (x10 : Int) (x11a : Option Addr) (x11n x11c : Nat) (x12 : Int), w5.cell? (Addr.mk b 0 none) = some (.int .i64 x10) ∧ w5.cell? ((Addr.mk b 0 none).add 1) = some (.slice x11a x11n x11c) ∧ w5.cell? ((Addr.mk b 0 none).add 2) = some (.int .i64 x12) ∧
 (∀ (b3 : Nat) (w6 : World), b3 = w5.heap.size → w6 = w5.alloc (.cells #[.int .i64 x10, .slice x11a x11n x11c, .int .i64 x12] 94) →
 (∃ (x13a : Option Addr) (x13n x13c : Nat) (w7 : World), Sem.run Tryz.prog (Builtin.append_ #[23, 23] 23 #[.slice outa outn outc, .slice (some (Addr.mk b3 0 none)) 1 1]) w6 = .ok (.slice x13a x13n x13c) w7 ∧
 (∃ (x14 : Int) (x15a : Option Addr) (x15n x15c : Nat) (x16 : Int), w7.cell? (Addr.mk b2 0 none) = some (.int .i64 x14) ∧ w7.cell? ((Addr.mk b2 0 none).add 1) = some (.slice x15a x15n x15c) ∧ w7.cell? ((Addr.mk b2 0 none).add 2) = some (.int .i64 x16) ∧
 (∀ (b4 : Nat) (w8 : World), b4 = w7.heap.size → w8 = w7.alloc (.cells #[.int .i64 x14, .slice x15a x15n x15c, .int .i64 x16] 94) →
 (∃ (x17a : Option Addr) (x17n x17c : Nat) (w9 : World), Sem.run Tryz.prog (Builtin.append_ #[23, 23] 23 #[.slice x13a x13n x13c, .slice (some (Addr.mk b4 0 none)) 1 1]) w8 = .ok (.slice x17a x17n x17c) w9 ∧ (Jv x17a x17n x17c true (IntKind.i64.wrap (s11 + 1)) w9 ∧ mu x17a x17n x17c true (IntKind.i64.wrap (s11 + 1)) w9 < mu outa outn outc laid s11 w2))))))) (∃ (x18 : Int) (x19a : Option Addr) (x19n x19c : Nat) (x20 : Int), w5.cell? (Addr.mk b2 0 none) = some (.int .i64 x18) ∧ w5.cell? ((Addr.mk b2 0 none).add 1) = some (.slice x19a x19n x19c) ∧ w5.cell? ((Addr.mk b2 0 none).add 2) = some (.int .i64 x20) ∧
 (∀ (b5 : Nat) (w10 : World), b5 = w5.heap.size → w10 = w5.alloc (.cells #[.int .i64 x18, .slice x19a x19n x19c, .int .i64 x20] 94) →
 (∃ (x21a : Option Addr) (x21n x21c : Nat) (w11 : World), Sem.run Tryz.prog (Builtin.append_ #[23, 23] 23 #[.slice outa outn outc, .slice (some (Addr.mk b5 0 none)) 1 1]) w10 = .ok (.slice x21a x21n x21c) w11 ∧ (Jv x21a x21n x21c laid (IntKind.i64.wrap (s11 + 1)) w11 ∧ mu x21a x21n x21c laid (IntKind.i64.wrap (s11 + 1)) w11 < mu outa outn outc laid s11 w2)))))))) (∃ (x22 : Int) (x23a : Option Addr) (x23n x23c : Nat) (x24 : Int), w4.cell? (Addr.mk b2 0 none) = some (.int .i64 x22) ∧ w4.cell? ((Addr.mk b2 0 none).add 1) = some (.slice x23a x23n x23c) ∧ w4.cell? ((Addr.mk b2 0 none).add 2) = some (.int .i64 x24) ∧
 (∀ (b6 : Nat) (w12 : World), b6 = w4.heap.size → w12 = w4.alloc (.cells #[.int .i64 x22, .slice x23a x23n x23c, .int .i64 x24] 94) →
 (∃ (x25a : Option Addr) (x25n x25c : Nat) (w13 : World), Sem.run Tryz.prog (Builtin.append_ #[23, 23] 23 #[.slice outa outn outc, .slice (some (Addr.mk b6 0 none)) 1 1]) w12 = .ok (.slice x25a x25n x25c) w13 ∧ (Jv x25a x25n x25c laid (IntKind.i64.wrap (s11 + 1)) w13 ∧ mu x25a x25n x25c laid (IntKind.i64.wrap (s11 + 1)) w13 < mu outa outn outc laid s11 w2))))))))))))
 (cond (!laid) (∃ (x26 : Int) (x27a : Option Addr) (x27n x27c : Nat) (x28 : Int), w2.cell? (Addr.mk b 0 none) = some (.int .i64 x26) ∧ w2.cell? ((Addr.mk b 0 none).add 1) = some (.slice x27a x27n x27c) ∧ w2.cell? ((Addr.mk b 0 none).add 2) = some (.int .i64 x28) ∧
 (∀ (b7 : Nat) (w14 : World), b7 = w2.heap.size → w14 = w2.alloc (.cells #[.int .i64 x26, .slice x27a x27n x27c, .int .i64 x28] 94) →
 (∃ (x29a : Option Addr) (x29n x29c : Nat) (w15 : World), Sem.run Tryz.prog (Builtin.append_ #[23, 23] 23 #[.slice outa outn outc, .slice (some (Addr.mk b7 0 none)) 1 1]) w14 = .ok (.slice x29a x29n x29c) w15 ∧ (R (.slice x29a x29n x29c) w15)))) (R (.slice outa outn outc) w2))))
theorem c99 (la : Option Addr) (ln lc : Nat) (x1 : Int) (x2a : Option Addr) (x2n x2c : Nat) (x3 : Int) {w : World} {R : Value → World → Prop} (hV : V99 la ln lc x1 x2a x2n x2c x3 w R) : Cl Tryz.prog 99 #[.slice la ln lc, .agg #[.int .i64 x1, .slice x2a x2n x2c, .int .i64 x3]] w R :=
 fn_sound hmTryz (TT := []) (f := 99) Tryz.func99 (ent_of Tryz.func99 (by kernel_rfl) rfl) (Eq.mpr (by kernel_rfl) hV)
end Go.Eng
namespace Go.Eng
open Go Go.Proofs
set_option maxRecDepth 100000
set_option maxHeartbeats 4000000
/-- windrose/graph.gone$1 -/
def V100 (row : Option Addr) (to : Int) (cap0 : Addr) (w : World) (R : Value → World → Prop) : Prop :=
 ∀ w1 : World, w1 = w.drew →
 (∃ p : Addr, row = some p ∧
 (∃ (x1a : Option Addr) (x1n x1c : Nat), w1.cell? p = some (.slice x1a x1n x1c) ∧
 (∃ (x2 : Int), w1.cell? cap0 = some (.int .u64 x2) ∧
 (Cl Tryz.prog 101 #[.slice x1a x1n x1c, .agg #[.int .u64 x2, .int .i64 0], .func (.func 102) #[] #[]] w1 fun v w2 => ∃ (x3 : Int) (x4 : Bool), v = .tuple #[.int .i64 x3, .bool x4] ∧
 (cond (!x4) (∀ w3 : World, w3 = w2.drew →
 (∃ p2 : Addr, row = some p2 ∧
 (∃ (x5a : Option Addr) (x5n x5c : Nat), w3.cell? p2 = some (.slice x5a x5n x5c) ∧
 (∃ (x6 : Int), w3.cell? cap0 = some (.int .u64 x6) ∧
 (∀ (b : Nat) (w4 : World), b = w3.heap.size → w4 = w3.alloc (.cells #[.int .u64 x6, .int .i64 to] 71) → (w4.cell? p2 = some (.slice x5a x5n x5c) ∧
 (Cl Tryz.prog 103 #[.slice x5a x5n x5c, .int .i64 x3, .slice (some (Addr.mk b 0 none)) 1 1] w4 fun v2 w5 => ∃ (x7a : Option Addr) (x7n x7c : Nat), v2 = .slice x7a x7n x7c ∧
 (∃ p3 : Addr, row = some p3 ∧ ((w5.cell? p3).isSome = true ∧ w5.frozen? p3 = false ∧
 (∀ w6 : World, w6 = w5.setCell p3 (.slice x7a x7n x7c) → (R (.tuple #[]) w6))))))))))) (R (.tuple #[]) w2))))))
theorem c100 (row : Option Addr) (to : Int) (cap0 : Addr) {w : World} {R : Value → World → Prop} (hV : V100 row to cap0 w R) : Cl Tryz.prog 100 #[.pointer row, .int .i64 to, .pointer (some cap0)] w R :=
 fn_sound hmTryz (TT := []) (f := 100) Tryz.func100 (ent_of Tryz.func100 (by kernel_rfl) rfl) (Eq.mpr (by kernel_rfl) hV)
/-- slices.BinarySearchFunc[[]windrose/api.Step,windrose/api.Step,windrose/api.Step] -/
def V101 (x1a : Option Addr) (x1n x1c : Nat) (target target2 : Int) (cmpf : FuncId) (cmpc : List Value) (w : World) (R : Value → World → Prop) : Prop :=
 ∀ (b : Nat) (w1 : World), b = w.heap.size → w1 = w.alloc (.cells #[.int .u64 target, .int .i64 target2] 71) →
 (∃ (Jv : Int → Int → World → Prop) (mu : Int → Int → World → Nat), Jv 0 (x1n : Int) w1 ∧ ∀ (jk_ : Nat → Value) (w2 : World), ∀ (i j : Int), Jv i j w2 →
 (cond (decide (i < j)) (∀ w3 : World, w3 = w2.drew →
 (∃ p : Addr, x1a = some p ∧ 0 ≤ (IntKind.i64.wrap (bshr .u64 (IntKind.u64.wrap (IntKind.i64.wrap (i + j))) 1)) ∧ (IntKind.i64.wrap (bshr .u64 (IntKind.u64.wrap (IntKind.i64.wrap (i + j))) 1)) < (x1n : Int) ∧
 (∃ (x2 x3 : Int), w3.cell? (p.add (((IntKind.i64.wrap (bshr .u64 (IntKind.u64.wrap (IntKind.i64.wrap (i + j))) 1))).toNat * 2)) = some (.int .u64 x2) ∧ w3.cell? ((p.add (((IntKind.i64.wrap (bshr .u64 (IntKind.u64.wrap (IntKind.i64.wrap (i + j))) 1))).toNat * 2)).add 1) = some (.int .i64 x3) ∧
 (∃ (x4 x5 : Int), w3.cell? (Addr.mk b 0 none) = some (.int .u64 x4) ∧ w3.cell? ((Addr.mk b 0 none).add 1) = some (.int .i64 x5) ∧
 (Cl Tryz.prog cmpf (([.agg #[.int .u64 x2, .int .i64 x3], .agg #[.int .u64 x4, .int .i64 x5]] : List Value) ++ cmpc).toArray w3 fun v w4 => ∃ (x6 : Int), v = .int .i64 x6 ∧
 (cond (decide (x6 < 0)) (Jv (IntKind.i64.wrap ((IntKind.i64.wrap (bshr .u64 (IntKind.u64.wrap (IntKind.i64.wrap (i + j))) 1)) + 1)) j w4 ∧ mu (IntKind.i64.wrap ((IntKind.i64.wrap (bshr .u64 (IntKind.u64.wrap (IntKind.i64.wrap (i + j))) 1)) + 1)) j w4 < mu i j w2) (Jv i (IntKind.i64.wrap (bshr .u64 (IntKind.u64.wrap (IntKind.i64.wrap (i + j))) 1)) w4 ∧ mu i (IntKind.i64.wrap (bshr .u64 (IntKind.u64.wrap (IntKind.i64.wrap (i + j))) 1)) w4 < mu i j w2))))))) (∀ w5 : World, w5 = w2.drew →
 (cond (decide (i < (x1n : Int))) (∃ p2 : Addr, x1a = some p2 ∧ 0 ≤ i ∧ i < (x1n : Int) ∧
 (∃ (x7 x8 : Int), w5.cell? (p2.add ((i).toNat * 2)) = some (.int .u64 x7) ∧ w5.cell? ((p2.add ((i).toNat * 2)).add 1) = some (.int .i64 x8) ∧
 (∃ (x9 x10 : Int), w5.cell? (Addr.mk b 0 none) = some (.int .u64 x9) ∧ w5.cell? ((Addr.mk b 0 none).add 1) = some (.int .i64 x10) ∧
 (Cl Tryz.prog cmpf (([.agg #[.int .u64 x7, .int .i64 x8], .agg #[.int .u64 x9, .int .i64 x10]] : List Value) ++ cmpc).toArray w5 fun v2 w6 => ∃ (x11 : Int), v2 = .int .i64 x11 ∧ (R (.tuple #[.int .i64 i, .bool (x11 == 0)]) w6))))) (R (.tuple #[.int .i64 i, .bool false]) w5)))))
theorem c101 (x1a : Option Addr) (x1n x1c : Nat) (target target2 : Int) (cmpf : FuncId) (cmpc : List Value) {w : World} {R : Value → World → Prop} (hV : V101 x1a x1n x1c target target2 cmpf cmpc w R) : Cl Tryz.prog 101 #[.slice x1a x1n x1c, .agg #[.int .u64 target, .int .i64 target2], .func (.func cmpf) #[] cmpc.toArray] w R :=
 fn_sound hmTryz (TT := []) (f := 101) Tryz.func101 (ent_of Tryz.func101 (by kernel_rfl) rfl) (Eq.mpr (by kernel_rfl) hV)
/-- windrose/graph.compare -/
def V102 (a a2 : Int) (b b2 : Int) (w : World) (R : Value → World → Prop) : Prop :=
 ∀ (b3 : Nat) (w1 : World), b3 = w.heap.size → w1 = w.alloc (.cells #[.int .u64 a, .int .i64 a2] 71) →
 (∀ (b4 : Nat) (w2 : World), b4 = w1.heap.size → w2 = w1.alloc (.cells #[.int .u64 b, .int .i64 b2] 71) →
 (∃ (x1 : Int), w2.cell? (Addr.mk b3 0 none) = some (.int .u64 x1) ∧
 (∃ (x2 : Int), w2.cell? (Addr.mk b4 0 none) = some (.int .u64 x2) ∧
 (Cl Tryz.prog 93 #[.int .u64 x1, .int .u64 x2] w2 fun v w3 => ∃ (x3 : Int), v = .int .i64 x3 ∧ (R (.int .i64 x3) w3)))))
theorem c102 (a a2 : Int) (b b2 : Int) {w : World} {R : Value → World → Prop} (hV : V102 a a2 b b2 w R) : Cl Tryz.prog 102 #[.agg #[.int .u64 a, .int .i64 a2], .agg #[.int .u64 b, .int .i64 b2]] w R :=
 fn_sound hmTryz (TT := []) (f := 102) Tryz.func102 (ent_of Tryz.func102 (by kernel_rfl) rfl) (Eq.mpr (by kernel_rfl) hV)
/-- slices.Insert[[]windrose/api.Step,windrose/api.Step] -/
def V103 (sa : Option Addr) (sn sc : Nat) (i : Int) (va : Option Addr) (vn vc : Nat) (w : World) (R : Value → World → Prop) : Prop :=
 0 ≤ i ∧ i ≤ (sn : Int) ∧
 (cond ((vn : Int) == 0) (R (.slice sa sn sc) w)
 (cond (i == (sn : Int)) (∃ (x1a : Option Addr) (x1n x1c : Nat) (w1 : World), Sem.run Tryz.prog (Builtin.append_ #[54, 54] 54 #[.slice sa sn sc, .slice va vn vc]) w = .ok (.slice x1a x1n x1c) w1 ∧ (R (.slice x1a x1n x1c) w1)) (∃ n : Int, Sem.run Tryz.prog (Builtin.cap_ #[54] 3 #[.slice sa sn sc]) w = .ok (.int .i64 n) w ∧
 (cond (decide (n < (IntKind.i64.wrap ((sn : Int) + (vn : Int))))) (0 ≤ i ∧ i ≤ (sc : Int) ∧
 (∃ (x2a : Option Addr) (x2n x2c : Nat) (w2 : World), Sem.run Tryz.prog (Builtin.append_ #[54, 3] 54 #[.slice sa ((i).toNat) (((sc : Int)).toNat), .int .i64 (IntKind.i64.wrap ((IntKind.i64.wrap ((sn : Int) + (vn : Int))) - i))]) w = .ok (.slice x2a x2n x2c) w2 ∧ (0 ≤ i ∧ i ≤ (x2n : Int) ∧
 (∃ (n2 : Int) (w3 : World), Sem.run Tryz.prog (Builtin.copy_ #[54, 54] 3 #[.slice (offA x2a (((x2c : Int)).toNat) ((i).toNat) 2) (((x2n : Int)).toNat - (i).toNat) (((x2c : Int)).toNat - (i).toNat), .slice va vn vc]) w2 = .ok (.int .i64 n2) w3 ∧
 (∀ w4 : World, w4 = w3.drew → (0 ≤ (IntKind.i64.wrap (i + (vn : Int))) ∧ (IntKind.i64.wrap (i + (vn : Int))) ≤ (x2n : Int) ∧ (0 ≤ i ∧ i ≤ (sn : Int) ∧
 (∃ (n3 : Int) (w5 : World), Sem.run Tryz.prog (Builtin.copy_ #[54, 54] 3 #[.slice (offA x2a (((x2c : Int)).toNat) ((IntKind.i64.wrap (i + (vn : Int))).toNat) 2) (((x2n : Int)).toNat - (IntKind.i64.wrap (i + (vn : Int))).toNat) (((x2c : Int)).toNat - (IntKind.i64.wrap (i + (vn : Int))).toNat), .slice (offA sa (((sc : Int)).toNat) ((i).toNat) 2) (((sn : Int)).toNat - (i).toNat) (((sc : Int)).toNat - (i).toNat)]) w4 = .ok (.int .i64 n3) w5 ∧ (R (.slice x2a x2n x2c) w5))))))))) (0 ≤ (IntKind.i64.wrap ((sn : Int) + (vn : Int))) ∧ (IntKind.i64.wrap ((sn : Int) + (vn : Int))) ≤ (sc : Int) ∧ (0 ≤ (IntKind.i64.wrap (i + (vn : Int))) ∧ (IntKind.i64.wrap (i + (vn : Int))) ≤ ((IntKind.i64.wrap ((sn : Int) + (vn : Int))).toNat : Int) ∧
 (Cl Tryz.prog 136 #[.slice va vn vc, .slice (offA sa (((((sc : Int)).toNat : Int)).toNat) ((IntKind.i64.wrap (i + (vn : Int))).toNat) 2) ((((IntKind.i64.wrap ((sn : Int) + (vn : Int))).toNat : Int)).toNat - (IntKind.i64.wrap (i + (vn : Int))).toNat) (((((sc : Int)).toNat : Int)).toNat - (IntKind.i64.wrap (i + (vn : Int))).toNat)] w fun v2 w6 => ∃ (x3 : Bool), v2 = .bool x3 ∧
 (cond (!x3) (∀ w7 : World, w7 = w6.drew → (0 ≤ (IntKind.i64.wrap (i + (vn : Int))) ∧ (IntKind.i64.wrap (i + (vn : Int))) ≤ ((IntKind.i64.wrap ((sn : Int) + (vn : Int))).toNat : Int) ∧ (0 ≤ i ∧ i ≤ ((IntKind.i64.wrap ((sn : Int) + (vn : Int))).toNat : Int) ∧
 (∃ (n4 : Int) (w8 : World), Sem.run Tryz.prog (Builtin.copy_ #[54, 54] 3 #[.slice (offA sa (((((sc : Int)).toNat : Int)).toNat) ((IntKind.i64.wrap (i + (vn : Int))).toNat) 2) ((((IntKind.i64.wrap ((sn : Int) + (vn : Int))).toNat : Int)).toNat - (IntKind.i64.wrap (i + (vn : Int))).toNat) (((((sc : Int)).toNat : Int)).toNat - (IntKind.i64.wrap (i + (vn : Int))).toNat), .slice (offA sa (((((sc : Int)).toNat : Int)).toNat) ((i).toNat) 2) ((((IntKind.i64.wrap ((sn : Int) + (vn : Int))).toNat : Int)).toNat - (i).toNat) (((((sc : Int)).toNat : Int)).toNat - (i).toNat)]) w7 = .ok (.int .i64 n4) w8 ∧ (0 ≤ i ∧ i ≤ ((IntKind.i64.wrap ((sn : Int) + (vn : Int))).toNat : Int) ∧
 (∃ (n5 : Int) (w9 : World), Sem.run Tryz.prog (Builtin.copy_ #[54, 54] 3 #[.slice (offA sa (((((sc : Int)).toNat : Int)).toNat) ((i).toNat) 2) ((((IntKind.i64.wrap ((sn : Int) + (vn : Int))).toNat : Int)).toNat - (i).toNat) (((((sc : Int)).toNat : Int)).toNat - (i).toNat), .slice va vn vc]) w8 = .ok (.int .i64 n5) w9 ∧ (R (.slice sa ((IntKind.i64.wrap ((sn : Int) + (vn : Int))).toNat) (((sc : Int)).toNat)) w9))))))) (0 ≤ (sn : Int) ∧ (sn : Int) ≤ ((IntKind.i64.wrap ((sn : Int) + (vn : Int))).toNat : Int) ∧
 (∃ (n6 : Int) (w10 : World), Sem.run Tryz.prog (Builtin.copy_ #[54, 54] 3 #[.slice (offA sa (((((sc : Int)).toNat : Int)).toNat) (((sn : Int)).toNat) 2) ((((IntKind.i64.wrap ((sn : Int) + (vn : Int))).toNat : Int)).toNat - ((sn : Int)).toNat) (((((sc : Int)).toNat : Int)).toNat - ((sn : Int)).toNat), .slice va vn vc]) w6 = .ok (.int .i64 n6) w10 ∧ (0 ≤ i ∧ i ≤ ((IntKind.i64.wrap ((sn : Int) + (vn : Int))).toNat : Int) ∧
 (Cl Tryz.prog 137 #[.slice (offA sa (((((sc : Int)).toNat : Int)).toNat) ((i).toNat) 2) ((((IntKind.i64.wrap ((sn : Int) + (vn : Int))).toNat : Int)).toNat - (i).toNat) (((((sc : Int)).toNat : Int)).toNat - (i).toNat), .int .i64 (vn : Int)] w10 fun v3 w11 => v3 = undef ∧ (R (.slice sa ((IntKind.i64.wrap ((sn : Int) + (vn : Int))).toNat) (((sc : Int)).toNat)) w11)))))))))))))
theorem c103 (sa : Option Addr) (sn sc : Nat) (i : Int) (va : Option Addr) (vn vc : Nat) {w : World} {R : Value → World → Prop} (hV : V103 sa sn sc i va vn vc w R) : Cl Tryz.prog 103 #[.slice sa sn sc, .int .i64 i, .slice va vn vc] w R :=
 fn_sound hmTryz (TT := []) (f := 103) Tryz.func103 (ent_of Tryz.func103 (by kernel_rfl) rfl) (Eq.mpr (by kernel_rfl) hV)
/-- slices.BinarySearch[[]windrose/api.Id,windrose/api.Id] -/
def V104 (x1a : Option Addr) (x1n x1c : Nat) (target : Int) (w : World) (R : Value → World → Prop) : Prop :=
 ∃ (Jm : Int → Int → World → Prop), (∃ (Jv : Int → Int → World → Prop) (mu : Int → Int → World → Nat), Jv 0 (x1n : Int) w ∧ ∀ (jk_2 : Nat → Value) (w1 : World), ∀ (i2 j2 : Int), Jv i2 j2 w1 →
 (cond (decide (i2 < j2)) (∃ p : Addr, x1a = some p ∧ 0 ≤ (IntKind.i64.wrap (bshr .u64 (IntKind.u64.wrap (IntKind.i64.wrap (i2 + j2))) 1)) ∧ (IntKind.i64.wrap (bshr .u64 (IntKind.u64.wrap (IntKind.i64.wrap (i2 + j2))) 1)) < (x1n : Int) ∧
 (∃ (x2 : Int), w1.cell? (p.add (((IntKind.i64.wrap (bshr .u64 (IntKind.u64.wrap (IntKind.i64.wrap (i2 + j2))) 1))).toNat * 1)) = some (.int .u64 x2) ∧
 (Cl Tryz.prog 138 #[.int .u64 x2, .int .u64 target] w1 fun v w2 => ∃ (x3 : Bool), v = .bool x3 ∧
 (cond x3 (Jv (IntKind.i64.wrap ((IntKind.i64.wrap (bshr .u64 (IntKind.u64.wrap (IntKind.i64.wrap (i2 + j2))) 1)) + 1)) j2 w2 ∧ mu (IntKind.i64.wrap ((IntKind.i64.wrap (bshr .u64 (IntKind.u64.wrap (IntKind.i64.wrap (i2 + j2))) 1)) + 1)) j2 w2 < mu i2 j2 w1) (Jv i2 (IntKind.i64.wrap (bshr .u64 (IntKind.u64.wrap (IntKind.i64.wrap (i2 + j2))) 1)) w2 ∧ mu i2 (IntKind.i64.wrap (bshr .u64 (IntKind.u64.wrap (IntKind.i64.wrap (i2 + j2))) 1)) w2 < mu i2 j2 w1))))) (Jm i2 j2 w1))) ∧ ∀ (jk_ : Nat → Value) (w3 : World), ∀ (i j : Int), Jm i j w3 →
 (cond (decide (i < (x1n : Int))) (∃ p2 : Addr, x1a = some p2 ∧ 0 ≤ i ∧ i < (x1n : Int) ∧
 (∃ (x4 : Int), w3.cell? (p2.add ((i).toNat * 1)) = some (.int .u64 x4) ∧
 (cond (x4 == target) (R (.tuple #[.int .i64 i, .bool true]) w3) (∃ p3 : Addr, x1a = some p3 ∧ 0 ≤ i ∧ i < (x1n : Int) ∧
 (∃ (x5 : Int), w3.cell? (p3.add ((i).toNat * 1)) = some (.int .u64 x5) ∧
 (Cl Tryz.prog 139 #[.int .u64 x5] w3 fun v2 w4 => ∃ (x6 : Bool), v2 = .bool x6 ∧
 (cond x6
 (Cl Tryz.prog 139 #[.int .u64 target] w4 fun v3 w5 => ∃ (x7 : Bool), v3 = .bool x7 ∧ (R (.tuple #[.int .i64 i, .bool x7]) w5)) (R (.tuple #[.int .i64 i, .bool false]) w4)))))))) (R (.tuple #[.int .i64 i, .bool false]) w3))
theorem c104 (x1a : Option Addr) (x1n x1c : Nat) (target : Int) {w : World} {R : Value → World → Prop} (hV : V104 x1a x1n x1c target w R) : Cl Tryz.prog 104 #[.slice x1a x1n x1c, .int .u64 target] w R :=
 fn_sound hmTryz (TT := []) (f := 104) Tryz.func104 (ent_of Tryz.func104 (by kernel_rfl) rfl) (Eq.mpr (by kernel_rfl) hV)
/-- slices.Delete[[]windrose/api.Id,windrose/api.Id] -/
def V105 (sa : Option Addr) (sn sc : Nat) (i j : Int) (w : World) (R : Value → World → Prop) : Prop :=
 0 ≤ (sn : Int) ∧ (sn : Int) ≤ (sc : Int) ∧ (0 ≤ j ∧ j ≤ (sn : Int) ∧ (0 ≤ i ∧ i ≤ j ∧
 (cond (i == j) (R (.slice sa sn sc) w) (∀ w1 : World, w1 = w.drew → (0 ≤ i ∧ i ≤ (sc : Int) ∧ (0 ≤ j ∧ j ≤ (sn : Int) ∧
 (∃ (x1a : Option Addr) (x1n x1c : Nat) (w2 : World), Sem.run Tryz.prog (Builtin.append_ #[33, 33] 33 #[.slice sa ((i).toNat) (((sc : Int)).toNat), .slice (offA sa (((sc : Int)).toNat) ((j).toNat) 1) (((sn : Int)).toNat - (j).toNat) (((sc : Int)).toNat - (j).toNat)]) w1 = .ok (.slice x1a x1n x1c) w2 ∧ (0 ≤ (sn : Int) ∧ (sn : Int) ≤ (x1c : Int) ∧ (0 ≤ (x1n : Int) ∧ (x1n : Int) ≤ (sn : Int) ∧
 (∃ (w3 : World), Sem.run Tryz.prog (Builtin.clear_ #[33] 0 #[.slice (offA x1a (((x1c : Int)).toNat) (((x1n : Int)).toNat) 1) (((sn : Int)).toNat - ((x1n : Int)).toNat) (((x1c : Int)).toNat - ((x1n : Int)).toNat)]) w2 = .ok (.tuple #[]) w3 ∧ (R (.slice x1a x1n x1c) w3)))))))))))
theorem c105 (sa : Option Addr) (sn sc : Nat) (i j : Int) {w : World} {R : Value → World → Prop} (hV : V105 sa sn sc i j w R) : Cl Tryz.prog 105 #[.slice sa sn sc, .int .i64 i, .int .i64 j] w R :=
 fn_sound hmTryz (TT := []) (f := 105) Tryz.func105 (ent_of Tryz.func105 (by kernel_rfl) rfl) (Eq.mpr (by kernel_rfl) hV)
/-- windrose/windroseref01.Kind -/
def V106 (id : Int) (w : World) (R : Value → World → Prop) : Prop :=
 Cl Tryz.prog 140 #[.int .u64 id] w fun v w1 => ∃ (x1 x2 : Int), v = .tuple #[.int .i64 x1, .int .i64 x2] ∧
 (Cl Tryz.prog 141 #[.int .u64 0, .int .i64 x1, .int .i64 x2] w1 fun v2 w2 => ∃ (x3 : Int), v2 = .int .u64 x3 ∧
 (cond (id == x3)
 (Cl Tryz.prog 142 #[.int .i64 x2, .int .i64 1, .int .i64 1048578] w2 fun v3 w3 => ∃ (x4 : Bool), v3 = .bool x4 ∧
 (cond x4
 (Cl Tryz.prog 142 #[.int .i64 x1, .int .i64 0, .int .i64 7] w3 fun v4 w4 => ∃ (x5 : Bool), v4 = .bool x5 ∧
 (cond x5 (R (.int .i64 1) w4)
 (Cl Tryz.prog 141 #[.int .u64 4611686018427387904, .int .i64 0, .int .i64 x2] w4 fun v5 w5 => ∃ (x6 : Int), v5 = .int .u64 x6 ∧
 (cond (id == x6)
 (Cl Tryz.prog 142 #[.int .i64 x2, .int .i64 1, .int .i64 24] w5 fun v6 w6 => ∃ (x7 : Bool), v6 = .bool x7 ∧
 (cond x7 (R (.int .i64 2) w6)
 (Cl Tryz.prog 141 #[.int .u64 9223372036854775808, .int .i64 x1, .int .i64 x2] w6 fun v7 w7 => ∃ (x8 : Int), v7 = .int .u64 x8 ∧
 (cond (id == x8)
 (Cl Tryz.prog 142 #[.int .i64 x1, .int .i64 1, .int .i64 1048578] w7 fun v8 w8 => ∃ (x9 : Bool), v8 = .bool x9 ∧
 (cond x9
 (Cl Tryz.prog 142 #[.int .i64 x2, .int .i64 1, .int .i64 1048578] w8 fun v9 w9 => ∃ (x10 : Bool), v9 = .bool x10 ∧
 (cond x10 (R (.int .i64 3) w9)
 (Cl Tryz.prog 141 #[.int .u64 9223372036854775808, .int .i64 x1, .int .i64 x2] w9 fun v10 w10 => ∃ (x11 : Int), v10 = .int .u64 x11 ∧
 (cond (id == x11)
 (Cl Tryz.prog 142 #[.int .i64 x1, .int .i64 0, .int .i64 1048578] w10 fun v11 w11 => ∃ (x12 : Bool), v11 = .bool x12 ∧
 (cond x12
 (Cl Tryz.prog 142 #[.int .i64 x2, .int .i64 0, .int .i64 1048578] w11 fun v12 w12 => ∃ (x13 : Bool), v12 = .bool x13 ∧
 (cond x13 (R (.int .i64 4) w12) (R (.int .i64 0) w12))) (R (.int .i64 0) w11))) (R (.int .i64 0) w10)))))
 (Cl Tryz.prog 141 #[.int .u64 9223372036854775808, .int .i64 x1, .int .i64 x2] w8 fun v13 w13 => ∃ (x14 : Int), v13 = .int .u64 x14 ∧
 (cond (id == x14)
 (Cl Tryz.prog 142 #[.int .i64 x1, .int .i64 0, .int .i64 1048578] w13 fun v14 w14 => ∃ (x15 : Bool), v14 = .bool x15 ∧
 (cond x15
 (Cl Tryz.prog 142 #[.int .i64 x2, .int .i64 0, .int .i64 1048578] w14 fun v15 w15 => ∃ (x16 : Bool), v15 = .bool x16 ∧
 (cond x16 (R (.int .i64 4) w15) (R (.int .i64 0) w15))) (R (.int .i64 0) w14))) (R (.int .i64 0) w13)))))
 (Cl Tryz.prog 141 #[.int .u64 9223372036854775808, .int .i64 x1, .int .i64 x2] w7 fun v16 w16 => ∃ (x17 : Int), v16 = .int .u64 x17 ∧
 (cond (id == x17)
 (Cl Tryz.prog 142 #[.int .i64 x1, .int .i64 0, .int .i64 1048578] w16 fun v17 w17 => ∃ (x18 : Bool), v17 = .bool x18 ∧
 (cond x18
 (Cl Tryz.prog 142 #[.int .i64 x2, .int .i64 0, .int .i64 1048578] w17 fun v18 w18 => ∃ (x19 : Bool), v18 = .bool x19 ∧
 (cond x19 (R (.int .i64 4) w18) (R (.int .i64 0) w18))) (R (.int .i64 0) w17))) (R (.int .i64 0) w16)))))))
 (Cl Tryz.prog 141 #[.int .u64 9223372036854775808, .int .i64 x1, .int .i64 x2] w5 fun v19 w19 => ∃ (x20 : Int), v19 = .int .u64 x20 ∧
 (cond (id == x20)
 (Cl Tryz.prog 142 #[.int .i64 x1, .int .i64 1, .int .i64 1048578] w19 fun v20 w20 => ∃ (x21 : Bool), v20 = .bool x21 ∧
 (cond x21
 (Cl Tryz.prog 142 #[.int .i64 x2, .int .i64 1, .int .i64 1048578] w20 fun v21 w21 => ∃ (x22 : Bool), v21 = .bool x22 ∧
 (cond x22 (R (.int .i64 3) w21)
 (Cl Tryz.prog 141 #[.int .u64 9223372036854775808, .int .i64 x1, .int .i64 x2] w21 fun v22 w22 => ∃ (x23 : Int), v22 = .int .u64 x23 ∧
 (cond (id == x23)
 (Cl Tryz.prog 142 #[.int .i64 x1, .int .i64 0, .int .i64 1048578] w22 fun v23 w23 => ∃ (x24 : Bool), v23 = .bool x24 ∧
 (cond x24
 (Cl Tryz.prog 142 #[.int .i64 x2, .int .i64 0, .int .i64 1048578] w23 fun v24 w24 => ∃ (x25 : Bool), v24 = .bool x25 ∧
 (cond x25 (R (.int .i64 4) w24) (R (.int .i64 0) w24))) (R (.int .i64 0) w23))) (R (.int .i64 0) w22)))))
 (Cl Tryz.prog 141 #[.int .u64 9223372036854775808, .int .i64 x1, .int .i64 x2] w20 fun v25 w25 => ∃ (x26 : Int), v25 = .int .u64 x26 ∧
 (cond (id == x26)
 (Cl Tryz.prog 142 #[.int .i64 x1, .int .i64 0, .int .i64 1048578] w25 fun v26 w26 => ∃ (x27 : Bool), v26 = .bool x27 ∧
 (cond x27
 (Cl Tryz.prog 142 #[.int .i64 x2, .int .i64 0, .int .i64 1048578] w26 fun v27 w27 => ∃ (x28 : Bool), v27 = .bool x28 ∧
 (cond x28 (R (.int .i64 4) w27) (R (.int .i64 0) w27))) (R (.int .i64 0) w26))) (R (.int .i64 0) w25)))))
 (Cl Tryz.prog 141 #[.int .u64 9223372036854775808, .int .i64 x1, .int .i64 x2] w19 fun v28 w28 => ∃ (x29 : Int), v28 = .int .u64 x29 ∧
 (cond (id == x29)
 (Cl Tryz.prog 142 #[.int .i64 x1, .int .i64 0, .int .i64 1048578] w28 fun v29 w29 => ∃ (x30 : Bool), v29 = .bool x30 ∧
 (cond x30
 (Cl Tryz.prog 142 #[.int .i64 x2, .int .i64 0, .int .i64 1048578] w29 fun v30 w30 => ∃ (x31 : Bool), v30 = .bool x31 ∧
 (cond x31 (R (.int .i64 4) w30) (R (.int .i64 0) w30))) (R (.int .i64 0) w29))) (R (.int .i64 0) w28)))))))))
 (Cl Tryz.prog 141 #[.int .u64 4611686018427387904, .int .i64 0, .int .i64 x2] w3 fun v31 w31 => ∃ (x32 : Int), v31 = .int .u64 x32 ∧
 (cond (id == x32)
 (Cl Tryz.prog 142 #[.int .i64 x2, .int .i64 1, .int .i64 24] w31 fun v32 w32 => ∃ (x33 : Bool), v32 = .bool x33 ∧
 (cond x33 (R (.int .i64 2) w32)
 (Cl Tryz.prog 141 #[.int .u64 9223372036854775808, .int .i64 x1, .int .i64 x2] w32 fun v33 w33 => ∃ (x34 : Int), v33 = .int .u64 x34 ∧
 (cond (id == x34)
 (Cl Tryz.prog 142 #[.int .i64 x1, .int .i64 1, .int .i64 1048578] w33 fun v34 w34 => ∃ (x35 : Bool), v34 = .bool x35 ∧
 (cond x35
 (Cl Tryz.prog 142 #[.int .i64 x2, .int .i64 1, .int .i64 1048578] w34 fun v35 w35 => ∃ (x36 : Bool), v35 = .bool x36 ∧
 (cond x36 (R (.int .i64 3) w35)
 (Cl Tryz.prog 141 #[.int .u64 9223372036854775808, .int .i64 x1, .int .i64 x2] w35 fun v36 w36 => ∃ (x37 : Int), v36 = .int .u64 x37 ∧
 (cond (id == x37)
 (Cl Tryz.prog 142 #[.int .i64 x1, .int .i64 0, .int .i64 1048578] w36 fun v37 w37 => ∃ (x38 : Bool), v37 = .bool x38 ∧
 (cond x38
 (Cl Tryz.prog 142 #[.int .i64 x2, .int .i64 0, .int .i64 1048578] w37 fun v38 w38 => ∃ (x39 : Bool), v38 = .bool x39 ∧
 (cond x39 (R (.int .i64 4) w38) (R (.int .i64 0) w38))) (R (.int .i64 0) w37))) (R (.int .i64 0) w36)))))
 (Cl Tryz.prog 141 #[.int .u64 9223372036854775808, .int .i64 x1, .int .i64 x2] w34 fun v39 w39 => ∃ (x40 : Int), v39 = .int .u64 x40 ∧
 (cond (id == x40)
 (Cl Tryz.prog 142 #[.int .i64 x1, .int .i64 0, .int .i64 1048578] w39 fun v40 w40 => ∃ (x41 : Bool), v40 = .bool x41 ∧
 (cond x41
 (Cl Tryz.prog 142 #[.int .i64 x2, .int .i64 0, .int .i64 1048578] w40 fun v41 w41 => ∃ (x42 : Bool), v41 = .bool x42 ∧
 (cond x42 (R (.int .i64 4) w41) (R (.int .i64 0) w41))) (R (.int .i64 0) w40))) (R (.int .i64 0) w39)))))
 (Cl Tryz.prog 141 #[.int .u64 9223372036854775808, .int .i64 x1, .int .i64 x2] w33 fun v42 w42 => ∃ (x43 : Int), v42 = .int .u64 x43 ∧
 (cond (id == x43)
 (Cl Tryz.prog 142 #[.int .i64 x1, .int .i64 0, .int .i64 1048578] w42 fun v43 w43 => ∃ (x44 : Bool), v43 = .bool x44 ∧
 (cond x44
 (Cl Tryz.prog 142 #[.int .i64 x2, .int .i64 0, .int .i64 1048578] w43 fun v44 w44 => ∃ (x45 : Bool), v44 = .bool x45 ∧
 (cond x45 (R (.int .i64 4) w44) (R (.int .i64 0) w44))) (R (.int .i64 0) w43))) (R (.int .i64 0) w42)))))))
 (Cl Tryz.prog 141 #[.int .u64 9223372036854775808, .int .i64 x1, .int .i64 x2] w31 fun v45 w45 => ∃ (x46 : Int), v45 = .int .u64 x46 ∧
 (cond (id == x46)
 (Cl Tryz.prog 142 #[.int .i64 x1, .int .i64 1, .int .i64 1048578] w45 fun v46 w46 => ∃ (x47 : Bool), v46 = .bool x47 ∧
 (cond x47
 (Cl Tryz.prog 142 #[.int .i64 x2, .int .i64 1, .int .i64 1048578] w46 fun v47 w47 => ∃ (x48 : Bool), v47 = .bool x48 ∧
 (cond x48 (R (.int .i64 3) w47)
 (Cl Tryz.prog 141 #[.int .u64 9223372036854775808, .int .i64 x1, .int .i64 x2] w47 fun v48 w48 => ∃ (x49 : Int), v48 = .int .u64 x49 ∧
 (cond (id == x49)
 (Cl Tryz.prog 142 #[.int .i64 x1, .int .i64 0, .int .i64 1048578] w48 fun v49 w49 => ∃ (x50 : Bool), v49 = .bool x50 ∧
 (cond x50
 (Cl Tryz.prog 142 #[.int .i64 x2, .int .i64 0, .int .i64 1048578] w49 fun v50 w50 => ∃ (x51 : Bool), v50 = .bool x51 ∧
 (cond x51 (R (.int .i64 4) w50) (R (.int .i64 0) w50))) (R (.int .i64 0) w49))) (R (.int .i64 0) w48)))))
 (Cl Tryz.prog 141 #[.int .u64 9223372036854775808, .int .i64 x1, .int .i64 x2] w46 fun v51 w51 => ∃ (x52 : Int), v51 = .int .u64 x52 ∧
 (cond (id == x52)
 (Cl Tryz.prog 142 #[.int .i64 x1, .int .i64 0, .int .i64 1048578] w51 fun v52 w52 => ∃ (x53 : Bool), v52 = .bool x53 ∧
 (cond x53
 (Cl Tryz.prog 142 #[.int .i64 x2, .int .i64 0, .int .i64 1048578] w52 fun v53 w53 => ∃ (x54 : Bool), v53 = .bool x54 ∧
 (cond x54 (R (.int .i64 4) w53) (R (.int .i64 0) w53))) (R (.int .i64 0) w52))) (R (.int .i64 0) w51)))))
 (Cl Tryz.prog 141 #[.int .u64 9223372036854775808, .int .i64 x1, .int .i64 x2] w45 fun v54 w54 => ∃ (x55 : Int), v54 = .int .u64 x55 ∧
 (cond (id == x55)
 (Cl Tryz.prog 142 #[.int .i64 x1, .int .i64 0, .int .i64 1048578] w54 fun v55 w55 => ∃ (x56 : Bool), v55 = .bool x56 ∧
 (cond x56
 (Cl Tryz.prog 142 #[.int .i64 x2, .int .i64 0, .int .i64 1048578] w55 fun v56 w56 => ∃ (x57 : Bool), v56 = .bool x57 ∧
 (cond x57 (R (.int .i64 4) w56) (R (.int .i64 0) w56))) (R (.int .i64 0) w55))) (R (.int .i64 0) w54)))))))))
 (Cl Tryz.prog 141 #[.int .u64 4611686018427387904, .int .i64 0, .int .i64 x2] w2 fun v57 w57 => ∃ (x58 : Int), v57 = .int .u64 x58 ∧
 (cond (id == x58)
 (Cl Tryz.prog 142 #[.int .i64 x2, .int .i64 1, .int .i64 24] w57 fun v58 w58 => ∃ (x59 : Bool), v58 = .bool x59 ∧
 (cond x59 (R (.int .i64 2) w58)
 (Cl Tryz.prog 141 #[.int .u64 9223372036854775808, .int .i64 x1, .int .i64 x2] w58 fun v59 w59 => ∃ (x60 : Int), v59 = .int .u64 x60 ∧
 (cond (id == x60)
 (Cl Tryz.prog 142 #[.int .i64 x1, .int .i64 1, .int .i64 1048578] w59 fun v60 w60 => ∃ (x61 : Bool), v60 = .bool x61 ∧
 (cond x61
 (Cl Tryz.prog 142 #[.int .i64 x2, .int .i64 1, .int .i64 1048578] w60 fun v61 w61 => ∃ (x62 : Bool), v61 = .bool x62 ∧
 (cond x62 (R (.int .i64 3) w61)
 (Cl Tryz.prog 141 #[.int .u64 9223372036854775808, .int .i64 x1, .int .i64 x2] w61 fun v62 w62 => ∃ (x63 : Int), v62 = .int .u64 x63 ∧
 (cond (id == x63)
 (Cl Tryz.prog 142 #[.int .i64 x1, .int .i64 0, .int .i64 1048578] w62 fun v63 w63 => ∃ (x64 : Bool), v63 = .bool x64 ∧
 (cond x64
 (Cl Tryz.prog 142 #[.int .i64 x2, .int .i64 0, .int .i64 1048578] w63 fun v64 w64 => ∃ (x65 : Bool), v64 = .bool x65 ∧
 (cond x65 (R (.int .i64 4) w64) (R (.int .i64 0) w64))) (R (.int .i64 0) w63))) (R (.int .i64 0) w62)))))
 (Cl Tryz.prog 141 #[.int .u64 9223372036854775808, .int .i64 x1, .int .i64 x2] w60 fun v65 w65 => ∃ (x66 : Int), v65 = .int .u64 x66 ∧
 (cond (id == x66)
 (Cl Tryz.prog 142 #[.int .i64 x1, .int .i64 0, .int .i64 1048578] w65 fun v66 w66 => ∃ (x67 : Bool), v66 = .bool x67 ∧
 (cond x67
 (Cl Tryz.prog 142 #[.int .i64 x2, .int .i64 0, .int .i64 1048578] w66 fun v67 w67 => ∃ (x68 : Bool), v67 = .bool x68 ∧
 (cond x68 (R (.int .i64 4) w67) (R (.int .i64 0) w67))) (R (.int .i64 0) w66))) (R (.int .i64 0) w65)))))
 (Cl Tryz.prog 141 #[.int .u64 9223372036854775808, .int .i64 x1, .int .i64 x2] w59 fun v68 w68 => ∃ (x69 : Int), v68 = .int .u64 x69 ∧
 (cond (id == x69)
 (Cl Tryz.prog 142 #[.int .i64 x1, .int .i64 0, .int .i64 1048578] w68 fun v69 w69 => ∃ (x70 : Bool), v69 = .bool x70 ∧
 (cond x70
 (Cl Tryz.prog 142 #[.int .i64 x2, .int .i64 0, .int .i64 1048578] w69 fun v70 w70 => ∃ (x71 : Bool), v70 = .bool x71 ∧
 (cond x71 (R (.int .i64 4) w70) (R (.int .i64 0) w70))) (R (.int .i64 0) w69))) (R (.int .i64 0) w68)))))))
 (Cl Tryz.prog 141 #[.int .u64 9223372036854775808, .int .i64 x1, .int .i64 x2] w57 fun v71 w71 => ∃ (x72 : Int), v71 = .int .u64 x72 ∧
 (cond (id == x72)
 (Cl Tryz.prog 142 #[.int .i64 x1, .int .i64 1, .int .i64 1048578] w71 fun v72 w72 => ∃ (x73 : Bool), v72 = .bool x73 ∧
 (cond x73
 (Cl Tryz.prog 142 #[.int .i64 x2, .int .i64 1, .int .i64 1048578] w72 fun v73 w73 => ∃ (x74 : Bool), v73 = .bool x74 ∧
 (cond x74 (R (.int .i64 3) w73)
 (Cl Tryz.prog 141 #[.int .u64 9223372036854775808, .int .i64 x1, .int .i64 x2] w73 fun v74 w74 => ∃ (x75 : Int), v74 = .int .u64 x75 ∧
 (cond (id == x75)
 (Cl Tryz.prog 142 #[.int .i64 x1, .int .i64 0, .int .i64 1048578] w74 fun v75 w75 => ∃ (x76 : Bool), v75 = .bool x76 ∧
 (cond x76
 (Cl Tryz.prog 142 #[.int .i64 x2, .int .i64 0, .int .i64 1048578] w75 fun v76 w76 => ∃ (x77 : Bool), v76 = .bool x77 ∧
 (cond x77 (R (.int .i64 4) w76) (R (.int .i64 0) w76))) (R (.int .i64 0) w75))) (R (.int .i64 0) w74)))))
 (Cl Tryz.prog 141 #[.int .u64 9223372036854775808, .int .i64 x1, .int .i64 x2] w72 fun v77 w77 => ∃ (x78 : Int), v77 = .int .u64 x78 ∧
 (cond (id == x78)
 (Cl Tryz.prog 142 #[.int .i64 x1, .int .i64 0, .int .i64 1048578] w77 fun v78 w78 => ∃ (x79 : Bool), v78 = .bool x79 ∧
 (cond x79
 (Cl Tryz.prog 142 #[.int .i64 x2, .int .i64 0, .int .i64 1048578] w78 fun v79 w79 => ∃ (x80 : Bool), v79 = .bool x80 ∧
 (cond x80 (R (.int .i64 4) w79) (R (.int .i64 0) w79))) (R (.int .i64 0) w78))) (R (.int .i64 0) w77)))))
 (Cl Tryz.prog 141 #[.int .u64 9223372036854775808, .int .i64 x1, .int .i64 x2] w71 fun v80 w80 => ∃ (x81 : Int), v80 = .int .u64 x81 ∧
 (cond (id == x81)
 (Cl Tryz.prog 142 #[.int .i64 x1, .int .i64 0, .int .i64 1048578] w80 fun v81 w81 => ∃ (x82 : Bool), v81 = .bool x82 ∧
 (cond x82
 (Cl Tryz.prog 142 #[.int .i64 x2, .int .i64 0, .int .i64 1048578] w81 fun v82 w82 => ∃ (x83 : Bool), v82 = .bool x83 ∧
 (cond x83 (R (.int .i64 4) w82) (R (.int .i64 0) w82))) (R (.int .i64 0) w81))) (R (.int .i64 0) w80)))))))))
theorem c106 (id : Int) {w : World} {R : Value → World → Prop} (hV : V106 id w R) : Cl Tryz.prog 106 #[.int .u64 id] w R :=
 fn_sound hmTryz (TT := []) (f := 106) Tryz.func106 (ent_of Tryz.func106 (by kernel_rfl) rfl) (Eq.mpr (by kernel_rfl) hV)
/-- windrose/lookup.place -/
def V107 (la : Option Addr) (ln lc : Nat) (ta : Option Addr) (tn tc : Nat) (w : World) (R : Value → World → Prop) : Prop :=
 ∀ (b : Nat) (w1 : World), b = w.heap.size → w1 = w.alloc (.cells #[.slice la ln lc] 25) →
 (∀ (b2 : Nat) (w2 : World), b2 = w1.heap.size → w2 = w1.alloc (.cells #[.slice ta tn tc] 33) →
 (∀ (b3 : Nat) (w3 : World), b3 = w2.heap.size → w3 = w2.alloc (.cells #[.int .i64 0] 3) → ((w3.cell? (Addr.mk b3 0 none)).isSome = true ∧ w3.frozen? (Addr.mk b3 0 none) = false ∧
 (∀ w4 : World, w4 = w3.setCell (Addr.mk b3 0 none) (.int .i64 (-1)) →
 (∃ (x1a : Option Addr) (x1n x1c : Nat), w4.cell? (Addr.mk b 0 none) = some (.slice x1a x1n x1c) ∧
 (∃ (x2a : Option Addr) (x2n x2c : Nat), w4.cell? (Addr.mk b2 0 none) = some (.slice x2a x2n x2c) ∧
 (Cl Tryz.prog 143 #[.agg #[.slice x1a x1n x1c], .slice x2a x2n x2c] w4 fun v w5 => ∃ (x3f : FuncId) (x3c : List Value), v = .func (.func x3f) #[] x3c.toArray ∧
 (∃ (xs : List (List Value)) (Kp : World → World → Prop) (I : List (List Value) → World → Prop) (Ix : Option Nat → List (List Value) → World → Prop), (Enters Tryz.prog x3f ∧ Seqs Tryz.prog x3f x3c xs Kp w5 ∧
 (∀ vs ∈ xs, hasT Tryz.prog [3, 94] vs) ∧ KeepOk w5 Kp ∧ OwnFrom w5.heap.size I ∧
 (∀ e, OwnFrom w5.heap.size (Ix e)) ∧ I [] w5) ∧
 (∀ (pre : List (List Value)) (w6 : World), ∀ (e e2 : Int) (e3a : Option Addr) (e3n e3c : Nat) (e4 : Int), [.int .i64 e, .agg #[.int .i64 e2, .slice e3a e3n e3c, .int .i64 e4]] ∈ xs → I pre w6 →
 (∀ (b4 : Nat) (w7 : World), b4 = w6.heap.size → w7 = w6.alloc (.cells #[.int .i64 0, .slice none 0 0, .int .i64 0] 94) → ((w7.cell? (Addr.mk b4 0 none)).isSome = true ∧ w7.frozen? (Addr.mk b4 0 none) = false ∧ ((w7.cell? ((Addr.mk b4 0 none).add 1)).isSome = true ∧ w7.frozen? ((Addr.mk b4 0 none).add 1) = false ∧ ((w7.cell? ((Addr.mk b4 0 none).add 2)).isSome = true ∧ w7.frozen? ((Addr.mk b4 0 none).add 2) = false ∧
 (∀ w8 : World, w8 = ((w7.setCell (Addr.mk b4 0 none) (.int .i64 e2)).setCell ((Addr.mk b4 0 none).add 1) (.slice e3a e3n e3c)).setCell ((Addr.mk b4 0 none).add 2) (.int .i64 e4) → (KeepsFrom w5.heap.size w6 w8 ∧ Kp w6 w8 ∧ I pre w8 ∧ ∀ (pre2 : List (List Value)) (w9 : World), NC w5.heap.size w8 w9 → pre2.length < xs.length → I pre2 w9 →
 (∃ (x4 : Int), w9.cell? (Addr.mk b4 0 none) = some (.int .i64 x4) ∧
 (cond (x4 == 0) (KeepsFrom w5.heap.size w9 w9 ∧ Ix (some 0) (pre2 ++ [[.int .i64 e, .agg #[.int .i64 e2, .slice e3a e3n e3c, .int .i64 e4]]]) w9) (∃ (x5 : Int), w9.cell? (Addr.mk b4 0 none) = some (.int .i64 x5) ∧
 (cond (x5 == 1) (∃ (x6a : Option Addr) (x6n x6c : Nat), w9.cell? ((Addr.mk b4 0 none).add 1) = some (.slice x6a x6n x6c) ∧
 (∃ (x7a : Option Addr) (x7n x7c : Nat), w9.cell? (Addr.mk b2 0 none) = some (.slice x7a x7n x7c) ∧
 (Cl Tryz.prog 22 #[.slice x6a x6n x6c, .slice x7a x7n x7c] w9 fun v2 w10 => ∃ (x8 : Bool), v2 = .bool x8 ∧
 (cond x8 ((w10.cell? (Addr.mk b3 0 none)).isSome = true ∧ w10.frozen? (Addr.mk b3 0 none) = false ∧
 (∀ w11 : World, w11 = w10.setCell (Addr.mk b3 0 none) (.int .i64 e) → (KeepsFrom w5.heap.size w9 w11 ∧ Ix (some 0) (pre2 ++ [[.int .i64 e, .agg #[.int .i64 e2, .slice e3a e3n e3c, .int .i64 e4]]]) w11))) (KeepsFrom w5.heap.size w9 w10 ∧ Kp w9 w10 ∧ I (pre2 ++ [[.int .i64 e, .agg #[.int .i64 e2, .slice e3a e3n e3c, .int .i64 e4]]]) w10))))) (KeepsFrom w5.heap.size w9 w9 ∧ Kp w9 w9 ∧ I (pre2 ++ [[.int .i64 e, .agg #[.int .i64 e2, .slice e3a e3n e3c, .int .i64 e4]]]) w9)))))))))))) ∧
 (∀ (d : Nat) (w12 : World), w5.heap.size ≤ d → I xs w12 → w12.heap[d]? = some (.deferred (some [])) →
 (∃ (x9 : Int), w12.cell? (Addr.mk b3 0 none) = some (.int .i64 x9) ∧ (w12.heap[d]? = some (.deferred (some [])) ∧ ∀ w13 : World, w13 = w12.putObj d (.deferred none) → (R (.int .i64 x9) w13)))) ∧
 (∀ (d : Nat) (pre : List (List Value)) (w12 : World), w5.heap.size ≤ d → pre <+: xs → Ix none pre w12 → w12.heap[d]? = some (.deferred (some [])) → (w12.heap[d]? = some (.deferred (some [])) ∧ ∀ w14 : World, w14 = w12.putObj d (.deferred none) → (R (.int .i64 0) w14))) ∧ ((∀ (d : Nat) (pre : List (List Value)) (w12 : World), w5.heap.size ≤ d → pre <+: xs → Ix (some 0) pre w12 → w12.heap[d]? = some (.deferred (some [])) →
 (∃ (x10 : Int), w12.cell? (Addr.mk b3 0 none) = some (.int .i64 x10) ∧ (w12.heap[d]? = some (.deferred (some [])) ∧ ∀ w15 : World, w15 = w12.putObj d (.deferred none) → (R (.int .i64 x10) w15)))))))))))))
theorem c107 (la : Option Addr) (ln lc : Nat) (ta : Option Addr) (tn tc : Nat) {w : World} {R : Value → World → Prop} (hV : V107 la ln lc ta tn tc w R) : Cl Tryz.prog 107 #[.agg #[.slice la ln lc], .slice ta tn tc] w R :=
 fn_sound hmTryz (TT := [(11, 3), (12, 94)]) (f := 107) Tryz.func107 (ent_of Tryz.func107 (by kernel_rfl) rfl) (Eq.mpr (by kernel_rfl) hV)
/-- slices.Clone[[]windrose/api.Entry,windrose/api.Entry] -/
def V108 (sa : Option Addr) (sn sc : Nat) (w : World) (R : Value → World → Prop) : Prop :=
 ∃ eq : Bool, binRun Tryz.prog .eql 23 (.tmp 3) (.const (.slice none 0 0)) (.slice sa sn sc) (.slice none 0 0) (.bool eq) w ∧
 (cond eq (R (.slice none 0 0) w) (∀ (b : Nat) (w1 : World), b = w.heap.size → w1 = w.alloc (.cells #[] 94) →
 (∃ (x1a : Option Addr) (x1n x1c : Nat) (w2 : World), Sem.run Tryz.prog (Builtin.append_ #[23, 23] 23 #[.slice (some (Addr.mk b 0 none)) 0 0, .slice sa sn sc]) w1 = .ok (.slice x1a x1n x1c) w2 ∧ (R (.slice x1a x1n x1c) w2))))
theorem c108 (sa : Option Addr) (sn sc : Nat) {w : World} {R : Value → World → Prop} (hV : V108 sa sn sc w R) : Cl Tryz.prog 108 #[.slice sa sn sc] w R :=
 fn_sound hmTryz (TT := []) (f := 108) Tryz.func108 (ent_of Tryz.func108 (by kernel_rfl) rfl) (Eq.mpr (by kernel_rfl) hV)
/-- windrose/graph.cloned[windrose/api.Node] -/
def V109 (la : Option Addr) (ln lc : Nat) (w : World) (R : Value → World → Prop) : Prop :=
 ∃ (x1a : Option Addr) (x1n x1c : Nat) (w1 : World), Sem.run Tryz.prog (Instr.makeSlice 22 (.int .i64 (ln : Int)) (.int .i64 (ln : Int))) w = .ok (.slice x1a x1n x1c) w1 ∧
 (∃ (n : Int) (w2 : World), Sem.run Tryz.prog (Builtin.copy_ #[22, 22] 3 #[.slice x1a x1n x1c, .slice la ln lc]) w1 = .ok (.int .i64 n) w2 ∧ (R (.slice x1a x1n x1c) w2))
theorem c109 (la : Option Addr) (ln lc : Nat) {w : World} {R : Value → World → Prop} (hV : V109 la ln lc w R) : Cl Tryz.prog 109 #[.slice la ln lc] w R :=
 fn_sound hmTryz (TT := []) (f := 109) Tryz.func109 (ent_of Tryz.func109 (by kernel_rfl) rfl) (Eq.mpr (by kernel_rfl) hV)
/-- windrose/graph.cloned[windrose/api.Entry] -/
def V110 (la : Option Addr) (ln lc : Nat) (w : World) (R : Value → World → Prop) : Prop :=
 ∃ (x1a : Option Addr) (x1n x1c : Nat) (w1 : World), Sem.run Tryz.prog (Instr.makeSlice 23 (.int .i64 (ln : Int)) (.int .i64 (ln : Int))) w = .ok (.slice x1a x1n x1c) w1 ∧
 (∃ (n : Int) (w2 : World), Sem.run Tryz.prog (Builtin.copy_ #[23, 23] 3 #[.slice x1a x1n x1c, .slice la ln lc]) w1 = .ok (.int .i64 n) w2 ∧ (R (.slice x1a x1n x1c) w2))
theorem c110 (la : Option Addr) (ln lc : Nat) {w : World} {R : Value → World → Prop} (hV : V110 la ln lc w R) : Cl Tryz.prog 110 #[.slice la ln lc] w R :=
 fn_sound hmTryz (TT := []) (f := 110) Tryz.func110 (ent_of Tryz.func110 (by kernel_rfl) rfl) (Eq.mpr (by kernel_rfl) hV)
/-- windrose/graph.cloned[windrose/api.Step] -/
def V111 (la : Option Addr) (ln lc : Nat) (w : World) (R : Value → World → Prop) : Prop :=
 ∃ (x1a : Option Addr) (x1n x1c : Nat) (w1 : World), Sem.run Tryz.prog (Instr.makeSlice 54 (.int .i64 (ln : Int)) (.int .i64 (ln : Int))) w = .ok (.slice x1a x1n x1c) w1 ∧
 (∃ (n : Int) (w2 : World), Sem.run Tryz.prog (Builtin.copy_ #[54, 54] 3 #[.slice x1a x1n x1c, .slice la ln lc]) w1 = .ok (.int .i64 n) w2 ∧ (R (.slice x1a x1n x1c) w2))
theorem c111 (la : Option Addr) (ln lc : Nat) {w : World} {R : Value → World → Prop} (hV : V111 la ln lc w R) : Cl Tryz.prog 111 #[.slice la ln lc] w R :=
 fn_sound hmTryz (TT := []) (f := 111) Tryz.func111 (ent_of Tryz.func111 (by kernel_rfl) rfl) (Eq.mpr (by kernel_rfl) hV)
end Go.Eng
