/- Part 3 of the proof of GraphTurnsSaid. What is proved: what a call of each function leaves. Conditions: those that each theorem names. -/
import Derived.Test.YtfcnkaignjdpgaaGreatA1
set_option linter.unusedVariables false
set_option linter.unusedSimpArgs false
set_option linter.unusedSectionVars false
namespace Go.Eng
open Go Go.Proofs
set_option maxRecDepth 100000
set_option maxHeartbeats 4000000
/-- windrose/windroseref12.Find -/
def V37 (la : Option Addr) (ln lc : Nat) (ta : Option Addr) (tn tc : Nat) (w : World) (R : Value → World → Prop) : Prop :=
 ∃ (Jv : Int → Int → World → Prop) (mu : Int → Int → World → Nat), Jv 0 0 w ∧ ∀ (jk_ : Nat → Value) (w1 : World), ∀ (s4 s9 : Int), Jv s4 s9 w1 →
 (cond (decide (s9 < (ln : Int))) (∃ p : Addr, la = some p ∧ 0 ≤ s9 ∧ s9 < (ln : Int) ∧
 (∃ (x1 : Bool) (x2a : Option Addr) (x2n x2c : Nat) (x3a : Option Addr) (x3n x3c : Nat) (x4a : Option Addr) (x4n x4c : Nat), w1.cell? (p.add ((s9).toNat * 4)) = some (.bool x1) ∧ w1.cell? ((p.add ((s9).toNat * 4)).add 1) = some (.slice x2a x2n x2c) ∧ w1.cell? ((p.add ((s9).toNat * 4)).add 2) = some (.slice x3a x3n x3c) ∧ w1.cell? ((p.add ((s9).toNat * 4)).add 3) = some (.slice x4a x4n x4c) ∧
 (∀ (b : Nat) (w2 : World), b = w1.heap.size → w2 = w1.alloc (.cells #[.bool false, .slice none 0 0, .slice none 0 0, .slice none 0 0] 56) → ((w2.cell? (Addr.mk b 0 none)).isSome = true ∧ w2.frozen? (Addr.mk b 0 none) = false ∧ ((w2.cell? ((Addr.mk b 0 none).add 1)).isSome = true ∧ w2.frozen? ((Addr.mk b 0 none).add 1) = false ∧ ((w2.cell? ((Addr.mk b 0 none).add 2)).isSome = true ∧ w2.frozen? ((Addr.mk b 0 none).add 2) = false ∧ ((w2.cell? ((Addr.mk b 0 none).add 3)).isSome = true ∧ w2.frozen? ((Addr.mk b 0 none).add 3) = false ∧
 (∀ w3 : World, w3 = (((w2.setCell (Addr.mk b 0 none) (.bool x1)).setCell ((Addr.mk b 0 none).add 1) (.slice x2a x2n x2c)).setCell ((Addr.mk b 0 none).add 2) (.slice x3a x3n x3c)).setCell ((Addr.mk b 0 none).add 3) (.slice x4a x4n x4c) →
 (∃ (x5 : Bool), w3.cell? (Addr.mk b 0 none) = some (.bool x5) ∧
 (cond x5 (∃ (x6a : Option Addr) (x6n x6c : Nat), w3.cell? ((Addr.mk b 0 none).add 1) = some (.slice x6a x6n x6c) ∧
 (Cl Tryz.prog 89 #[.slice x6a x6n x6c, .slice ta tn tc] w3 fun v w4 => ∃ (x7 : Bool), v = .bool x7 ∧
 (cond x7 (R (.int .i64 (IntKind.i64.wrap (s9 + 1))) w4) (Jv s4 (IntKind.i64.wrap (s9 + 1)) w4 ∧ mu s4 (IntKind.i64.wrap (s9 + 1)) w4 < mu s4 s9 w1)))) (Jv s4 (IntKind.i64.wrap (s9 + 1)) w3 ∧ mu s4 (IntKind.i64.wrap (s9 + 1)) w3 < mu s4 s9 w1))))))))))) (R (.int .i64 0) w1))
theorem c37 (la : Option Addr) (ln lc : Nat) (ta : Option Addr) (tn tc : Nat) {w : World} {R : Value → World → Prop} (hV : V37 la ln lc ta tn tc w R) : Cl Tryz.prog 37 #[.slice la ln lc, .slice ta tn tc] w R :=
 fn_sound hmTryz (TT := []) (f := 37) Tryz.func37 (ent_of Tryz.func37 (by kernel_rfl) rfl) (Eq.mpr (by kernel_rfl) hV)
/-- windrose/types.Check -/
def V39 (la : Option Addr) (ln lc : Nat) (w : World) (R : Value → World → Prop) : Prop :=
 ∃ (Jv : Bool → Int → World → Prop) (mu : Bool → Int → World → Nat), Jv (decide ((ln : Int) ≤ 12)) 0 w ∧ ∀ (jk_ : Nat → Value) (w1 : World), ∀ (ok : Bool) (s11 : Int), Jv ok s11 w1 →
 (cond (decide (s11 < (ln : Int))) (∃ p : Addr, la = some p ∧ 0 ≤ s11 ∧ s11 < (ln : Int) ∧
 (∃ (x1 : Int), w1.cell? (p.add ((s11).toNat * 1)) = some (.int .u64 x1) ∧
 (cond ok
 (Cl Tryz.prog 70 #[.int .u64 x1] w1 fun v w2 => ∃ (x2 : Bool), v = .bool x2 ∧
 (cond x2 (cond (s11 == 0) (Jv true (IntKind.i64.wrap (s11 + 1)) w2 ∧ mu true (IntKind.i64.wrap (s11 + 1)) w2 < mu ok s11 w1) (∃ p2 : Addr, la = some p2 ∧ 0 ≤ (IntKind.i64.wrap (s11 - 1)) ∧ (IntKind.i64.wrap (s11 - 1)) < (ln : Int) ∧
 (∃ (x3 : Int), w2.cell? (p2.add (((IntKind.i64.wrap (s11 - 1))).toNat * 1)) = some (.int .u64 x3) ∧
 (cond (!(decide (x3 < x1)))
 (cond (!(decide (x3 < x1))) (R (.int .i64 130) w2) (R (.int .i64 0) w2)) (Jv (decide (x3 < x1)) (IntKind.i64.wrap (s11 + 1)) w2 ∧ mu (decide (x3 < x1)) (IntKind.i64.wrap (s11 + 1)) w2 < mu ok s11 w1))))) (R (.int .i64 130) w2))) (R (.int .i64 130) w1))))
 (cond (!ok) (R (.int .i64 130) w1) (R (.int .i64 0) w1)))
theorem c39 (la : Option Addr) (ln lc : Nat) {w : World} {R : Value → World → Prop} (hV : V39 la ln lc w R) : Cl Tryz.prog 39 #[.slice la ln lc] w R :=
 fn_sound hmTryz (TT := []) (f := 39) Tryz.func39 (ent_of Tryz.func39 (by kernel_rfl) rfl) (Eq.mpr (by kernel_rfl) hV)
/-- windrose/types.Compare -/
def V41 (aa : Option Addr) (an ac : Nat) (ba : Option Addr) (bn bc : Nat) (w : World) (R : Value → World → Prop) : Prop :=
 Cl Tryz.prog 92 #[.slice aa an ac, .slice ba bn bc, .func (.func 93) #[] #[]] w fun v w1 => ∃ (x1 : Int), v = .int .i64 x1 ∧ (R (.int .i64 x1) w1)
theorem c41 (aa : Option Addr) (an ac : Nat) (ba : Option Addr) (bn bc : Nat) {w : World} {R : Value → World → Prop} (hV : V41 aa an ac ba bn bc w R) : Cl Tryz.prog 41 #[.slice aa an ac, .slice ba bn bc] w R :=
 fn_sound hmTryz (TT := []) (f := 41) Tryz.func41 (ent_of Tryz.func41 (by kernel_rfl) rfl) (Eq.mpr (by kernel_rfl) hV)
/-- windrose/ident.Component -/
def V44 (n : Int) (w : World) (R : Value → World → Prop) : Prop :=
 ∀ (b : Nat) (w1 : World), b = w.heap.size → w1 = w.alloc (.cells #[.int .i64 n] 3) →
 (Cl Tryz.prog 95 #[.int .i64 1, .int .i64 24, .slice (some (Addr.mk b 0 none)) 1 1] w1 fun v w2 => ∃ (x1 : Bool), v = .bool x1 ∧
 (cond (!x1) (R (.tuple #[.int .u64 0, .int .i64 2]) w2)
 (Cl Tryz.prog 96 #[.int .u64 4611686018427387904, .int .i64 0, .int .i64 n] w2 fun v2 w3 => ∃ (x2 : Int), v2 = .int .u64 x2 ∧ (R (.tuple #[.int .u64 x2, .int .i64 0]) w3))))
theorem c44 (n : Int) {w : World} {R : Value → World → Prop} (hV : V44 n w R) : Cl Tryz.prog 44 #[.int .i64 n] w R :=
 fn_sound hmTryz (TT := []) (f := 44) Tryz.func44 (ent_of Tryz.func44 (by kernel_rfl) rfl) (Eq.mpr (by kernel_rfl) hV)
/-- windrose/ident.Pair -/
def V45 (relation target : Int) (w : World) (R : Value → World → Prop) : Prop :=
 ∀ (b : Nat) (w1 : World), b = w.heap.size → w1 = w.alloc (.cells #[.int .i64 relation, .int .i64 target] 3) →
 (Cl Tryz.prog 95 #[.int .i64 0, .int .i64 1048578, .slice (some (Addr.mk b 0 none)) 2 2] w1 fun v w2 => ∃ (x1 : Bool), v = .bool x1 ∧
 (cond (!x1) (R (.tuple #[.int .u64 0, .int .i64 2]) w2)
 (Cl Tryz.prog 96 #[.int .u64 9223372036854775808, .int .i64 relation, .int .i64 target] w2 fun v2 w3 => ∃ (x2 : Int), v2 = .int .u64 x2 ∧ (R (.tuple #[.int .u64 x2, .int .i64 0]) w3))))
theorem c45 (relation target : Int) {w : World} {R : Value → World → Prop} (hV : V45 relation target w R) : Cl Tryz.prog 45 #[.int .i64 relation, .int .i64 target] w R :=
 fn_sound hmTryz (TT := []) (f := 45) Tryz.func45 (ent_of Tryz.func45 (by kernel_rfl) rfl) (Eq.mpr (by kernel_rfl) hV)
/-- slices.Clone[[]windrose/api.Step,windrose/api.Step] -/
def V46 (sa : Option Addr) (sn sc : Nat) (w : World) (R : Value → World → Prop) : Prop :=
 ∃ eq : Bool, binRun Tryz.prog .eql 54 (.tmp 3) (.const (.slice none 0 0)) (.slice sa sn sc) (.slice none 0 0) (.bool eq) w ∧
 (cond eq (R (.slice none 0 0) w) (∀ (b : Nat) (w1 : World), b = w.heap.size → w1 = w.alloc (.cells #[] 71) →
 (∃ (x1a : Option Addr) (x1n x1c : Nat) (w2 : World), Sem.run Tryz.prog (Builtin.append_ #[54, 54] 54 #[.slice (some (Addr.mk b 0 none)) 0 0, .slice sa sn sc]) w1 = .ok (.slice x1a x1n x1c) w2 ∧ (R (.slice x1a x1n x1c) w2))))
theorem c46 (sa : Option Addr) (sn sc : Nat) {w : World} {R : Value → World → Prop} (hV : V46 sa sn sc w R) : Cl Tryz.prog 46 #[.slice sa sn sc] w R :=
 fn_sound hmTryz (TT := []) (f := 46) Tryz.func46 (ent_of Tryz.func46 (by kernel_rfl) rfl) (Eq.mpr (by kernel_rfl) hV)
/-- windrose/windroseref12.Nodes -/
def V47 (la : Option Addr) (ln lc : Nat) (w : World) (R : Value → World → Prop) : Prop :=
 cond ((ln : Int) == 0) (R (.bool false) w) (∃ p : Addr, la = some p ∧ 0 ≤ (IntKind.i64.wrap ((ln : Int) - 1)) ∧ (IntKind.i64.wrap ((ln : Int) - 1)) < (ln : Int) ∧
 (∃ (x1 : Bool), w.cell? (p.add (((IntKind.i64.wrap ((ln : Int) - 1))).toNat * 4)) = some (.bool x1) ∧
 (cond (!x1) (R (.bool false) w) (∃ p2 : Addr, la = some p2 ∧ 0 ≤ (0 : Int) ∧ (0 : Int) < (ln : Int) ∧
 (∃ (x2 : Bool), w.cell? (p2.add (((0 : Int)).toNat * 4)) = some (.bool x2) ∧
 (cond (!x2) (R (.bool false) w) (∃ p3 : Addr, la = some p3 ∧ 0 ≤ (0 : Int) ∧ (0 : Int) < (ln : Int) ∧
 (∃ (x3a : Option Addr) (x3n x3c : Nat), w.cell? ((p3.add (((0 : Int)).toNat * 4)).add 1) = some (.slice x3a x3n x3c) ∧
 (cond (decide (0 < (x3n : Int))) (R (.bool false) w) (∃ (Jv : Bool → Int → Int → World → Prop) (mu : Bool → Int → Int → World → Nat), Jv false 0 0 w ∧ ∀ (jk_ : Nat → Value) (w1 : World), ∀ (s2 : Bool) (many s36 : Int), Jv s2 many s36 w1 →
 (cond (decide (s36 < (ln : Int))) (∃ p4 : Addr, la = some p4 ∧ 0 ≤ s36 ∧ s36 < (ln : Int) ∧
 (∃ (x4 : Bool) (x5a : Option Addr) (x5n x5c : Nat) (x6a : Option Addr) (x6n x6c : Nat) (x7a : Option Addr) (x7n x7c : Nat), w1.cell? (p4.add ((s36).toNat * 4)) = some (.bool x4) ∧ w1.cell? ((p4.add ((s36).toNat * 4)).add 1) = some (.slice x5a x5n x5c) ∧ w1.cell? ((p4.add ((s36).toNat * 4)).add 2) = some (.slice x6a x6n x6c) ∧ w1.cell? ((p4.add ((s36).toNat * 4)).add 3) = some (.slice x7a x7n x7c) ∧
 (∀ (b : Nat) (w2 : World), b = w1.heap.size → w2 = w1.alloc (.cells #[.bool false, .slice none 0 0, .slice none 0 0, .slice none 0 0] 56) → ((w2.cell? (Addr.mk b 0 none)).isSome = true ∧ w2.frozen? (Addr.mk b 0 none) = false ∧ ((w2.cell? ((Addr.mk b 0 none).add 1)).isSome = true ∧ w2.frozen? ((Addr.mk b 0 none).add 1) = false ∧ ((w2.cell? ((Addr.mk b 0 none).add 2)).isSome = true ∧ w2.frozen? ((Addr.mk b 0 none).add 2) = false ∧ ((w2.cell? ((Addr.mk b 0 none).add 3)).isSome = true ∧ w2.frozen? ((Addr.mk b 0 none).add 3) = false ∧
 (∀ w3 : World, w3 = (((w2.setCell (Addr.mk b 0 none) (.bool x4)).setCell ((Addr.mk b 0 none).add 1) (.slice x5a x5n x5c)).setCell ((Addr.mk b 0 none).add 2) (.slice x6a x6n x6c)).setCell ((Addr.mk b 0 none).add 3) (.slice x7a x7n x7c) →
 (∃ (x8 : Bool), w3.cell? (Addr.mk b 0 none) = some (.bool x8) ∧
 (cond (!x8) (∃ (x9a : Option Addr) (x9n x9c : Nat), w3.cell? ((Addr.mk b 0 none).add 1) = some (.slice x9a x9n x9c) ∧
 (∃ (x10a : Option Addr) (x10n x10c : Nat), w3.cell? ((Addr.mk b 0 none).add 2) = some (.slice x10a x10n x10c) ∧
 (∃ (x11a : Option Addr) (x11n x11c : Nat), w3.cell? ((Addr.mk b 0 none).add 3) = some (.slice x11a x11n x11c) ∧
 (cond (decide (0 < (IntKind.i64.wrap ((IntKind.i64.wrap ((x9n : Int) + (x10n : Int))) + (x11n : Int))))) (R (.bool false) w3) (Jv s2 many (IntKind.i64.wrap (s36 + 1)) w3 ∧ mu s2 many (IntKind.i64.wrap (s36 + 1)) w3 < mu s2 many s36 w1))))) (∃ (x12a : Option Addr) (x12n x12c : Nat), w3.cell? ((Addr.mk b 0 none).add 1) = some (.slice x12a x12n x12c) ∧
 (Cl Tryz.prog 23 #[.slice x12a x12n x12c] w3 fun v w4 => ∃ (x13 : Bool), v = .bool x13 ∧
 (cond (!x13) (R (.bool false) w4) (∃ (x14a : Option Addr) (x14n x14c : Nat), w4.cell? ((Addr.mk b 0 none).add 1) = some (.slice x14a x14n x14c) ∧
 (Cl Tryz.prog 37 #[.slice la ln lc, .slice x14a x14n x14c] w4 fun v2 w5 => ∃ (x15 : Int), v2 = .int .i64 x15 ∧
 (cond (x15 != (IntKind.i64.wrap (s36 + 1))) (R (.bool false) w5) (∃ (x16a : Option Addr) (x16n x16c : Nat), w5.cell? ((Addr.mk b 0 none).add 2) = some (.slice x16a x16n x16c) ∧
 (Cl Tryz.prog 97 #[.slice la ln lc, .int .i64 (IntKind.i64.wrap (s36 + 1)), .slice x16a x16n x16c, .bool true] w5 fun v3 w6 => ∃ (x17 : Bool), v3 = .bool x17 ∧
 (cond (!x17) (R (.bool false) w6) (∃ (x18a : Option Addr) (x18n x18c : Nat), w6.cell? ((Addr.mk b 0 none).add 3) = some (.slice x18a x18n x18c) ∧
 (Cl Tryz.prog 97 #[.slice la ln lc, .int .i64 (IntKind.i64.wrap (s36 + 1)), .slice x18a x18n x18c, .bool false] w6 fun v4 w7 => ∃ (x19 : Bool), v4 = .bool x19 ∧
 (cond (!x19) (R (.bool false) w7) (Jv s2 (IntKind.i64.wrap (many + 1)) (IntKind.i64.wrap (s36 + 1)) w7 ∧ mu s2 (IntKind.i64.wrap (many + 1)) (IntKind.i64.wrap (s36 + 1)) w7 < mu s2 many s36 w1))))))))))))))))))))))) (R (.bool (decide (many ≤ 4000))) w1))))))))))))
theorem c47 (la : Option Addr) (ln lc : Nat) {w : World} {R : Value → World → Prop} (hV : V47 la ln lc w R) : Cl Tryz.prog 47 #[.slice la ln lc] w R :=
 fn_sound hmTryz (TT := []) (f := 47) Tryz.func47 (ent_of Tryz.func47 (by kernel_rfl) rfl) (Eq.mpr (by kernel_rfl) hV)
/-- windrose/windroseref07.Right -/
def V48 (la : Option Addr) (ln lc : Nat) (w : World) (R : Value → World → Prop) : Prop :=
 ∀ (b : Nat) (w1 : World), b = w.heap.size → w1 = w.alloc (.cells #[.slice la ln lc] 25) →
 (∃ (Jm : Int → World → Prop), (∃ (Jv : Int → World → Prop) (mu : Int → World → Nat), Jv 8 w1 ∧ ∀ (jk_2 : Nat → Value) (w2 : World), ∀ (many2 : Int), Jv many2 w2 →
 (∃ (x1a : Option Addr) (x1n x1c : Nat), w2.cell? (Addr.mk b 0 none) = some (.slice x1a x1n x1c) ∧
 (cond (decide (many2 < (x1n : Int))) (Jv (IntKind.i64.wrap (2 * many2)) w2 ∧ mu (IntKind.i64.wrap (2 * many2)) w2 < mu many2 w2) (Jm many2 w2)))) ∧ ∀ (jk_ : Nat → Value) (w3 : World), ∀ (many : Int), Jm many w3 →
 (∃ (x2a : Option Addr) (x2n x2c : Nat), w3.cell? (Addr.mk b 0 none) = some (.slice x2a x2n x2c) ∧
 (cond ((x2n : Int) != many) (R (.bool false) w3) (∃ (x3a : Option Addr) (x3n x3c : Nat), w3.cell? (Addr.mk b 0 none) = some (.slice x3a x3n x3c) ∧
 (∃ (Jv2 : Bool → Int → Int → World → Prop) (mu2 : Bool → Int → Int → World → Nat), Jv2 false 0 0 w3 ∧ ∀ (jk_3 : Nat → Value) (w4 : World), ∀ (s2 : Bool) (taken s24 : Int), Jv2 s2 taken s24 w4 →
 (cond (decide (s24 < (x3n : Int))) (∃ p : Addr, x3a = some p ∧ 0 ≤ s24 ∧ s24 < (x3n : Int) ∧
 (∃ (x4 : Int) (x5a : Option Addr) (x5n x5c : Nat) (x6 : Int), w4.cell? (p.add ((s24).toNat * 3)) = some (.int .i64 x4) ∧ w4.cell? ((p.add ((s24).toNat * 3)).add 1) = some (.slice x5a x5n x5c) ∧ w4.cell? ((p.add ((s24).toNat * 3)).add 2) = some (.int .i64 x6) ∧
 (∀ (b2 : Nat) (w5 : World), b2 = w4.heap.size → w5 = w4.alloc (.cells #[.int .i64 0, .slice none 0 0, .int .i64 0] 94) → ((w5.cell? (Addr.mk b2 0 none)).isSome = true ∧ w5.frozen? (Addr.mk b2 0 none) = false ∧ ((w5.cell? ((Addr.mk b2 0 none).add 1)).isSome = true ∧ w5.frozen? ((Addr.mk b2 0 none).add 1) = false ∧ ((w5.cell? ((Addr.mk b2 0 none).add 2)).isSome = true ∧ w5.frozen? ((Addr.mk b2 0 none).add 2) = false ∧
 (∀ w6 : World, w6 = ((w5.setCell (Addr.mk b2 0 none) (.int .i64 x4)).setCell ((Addr.mk b2 0 none).add 1) (.slice x5a x5n x5c)).setCell ((Addr.mk b2 0 none).add 2) (.int .i64 x6) →
 (∃ (x7 : Int), w6.cell? (Addr.mk b2 0 none) = some (.int .i64 x7) ∧
 (∃ (Jm2 : Bool → World → Prop), (cond (x7 == 0) (Jm2 (x7 == 0) w6) (Jm2 (x7 == 2) w6)) ∧ ∀ (jk_4 : Nat → Value) (w7 : World), ∀ (s31 : Bool), Jm2 s31 w7 →
 (cond s31 (∃ (x8a : Option Addr) (x8n x8c : Nat), w7.cell? ((Addr.mk b2 0 none).add 1) = some (.slice x8a x8n x8c) ∧
 (cond (decide (0 < (x8n : Int))) (R (.bool false) w7) (∃ (x9 : Int), w7.cell? ((Addr.mk b2 0 none).add 2) = some (.int .i64 x9) ∧
 (cond (x9 != 0) (R (.bool false) w7) (∃ (x10 : Int), w7.cell? (Addr.mk b2 0 none) = some (.int .i64 x10) ∧
 (cond (x10 != 0) (Jv2 s2 (IntKind.i64.wrap (taken + 1)) (IntKind.i64.wrap (s24 + 1)) w7 ∧ mu2 s2 (IntKind.i64.wrap (taken + 1)) (IntKind.i64.wrap (s24 + 1)) w7 < mu2 s2 taken s24 w4) (Jv2 s2 taken (IntKind.i64.wrap (s24 + 1)) w7 ∧ mu2 s2 taken (IntKind.i64.wrap (s24 + 1)) w7 < mu2 s2 taken s24 w4)))))))
 (cond (x7 == 1) (∃ (x11a : Option Addr) (x11n x11c : Nat), w7.cell? ((Addr.mk b2 0 none).add 1) = some (.slice x11a x11n x11c) ∧
 (Cl Tryz.prog 23 #[.slice x11a x11n x11c] w7 fun v w8 => ∃ (x12 : Bool), v = .bool x12 ∧
 (cond (!x12) (R (.bool false) w8) (∃ (x13 : Int), w8.cell? ((Addr.mk b2 0 none).add 2) = some (.int .i64 x13) ∧
 (cond (decide (x13 < 0)) (R (.bool false) w8) (∃ (x14a : Option Addr) (x14n x14c : Nat), w8.cell? (Addr.mk b 0 none) = some (.slice x14a x14n x14c) ∧
 (∃ (x15a : Option Addr) (x15n x15c : Nat), w8.cell? ((Addr.mk b2 0 none).add 1) = some (.slice x15a x15n x15c) ∧
 (Cl Tryz.prog 98 #[.agg #[.slice x14a x14n x14c], .slice x15a x15n x15c, .int .i64 s24] w8 fun v2 w9 => ∃ (x16 : Bool), v2 = .bool x16 ∧
 (cond (!x16) (R (.bool false) w9) (∃ (x17a : Option Addr) (x17n x17c : Nat), w9.cell? (Addr.mk b 0 none) = some (.slice x17a x17n x17c) ∧ (0 ≤ s24 ∧ s24 ≤ (x17c : Int) ∧
 (∃ (Jv3 : Bool → Int → World → Prop) (mu3 : Bool → Int → World → Nat), Jv3 s2 0 w9 ∧ ∀ (jk_5 : Nat → Value) (w10 : World), ∀ (s22 : Bool) (s67 : Int), Jv3 s22 s67 w10 →
 (cond (decide (s67 < ((s24).toNat : Int))) (∃ p2 : Addr, x17a = some p2 ∧ 0 ≤ s67 ∧ s67 < ((s24).toNat : Int) ∧
 (∃ (x18 : Int) (x19a : Option Addr) (x19n x19c : Nat) (x20 : Int), w10.cell? (p2.add ((s67).toNat * 3)) = some (.int .i64 x18) ∧ w10.cell? ((p2.add ((s67).toNat * 3)).add 1) = some (.slice x19a x19n x19c) ∧ w10.cell? ((p2.add ((s67).toNat * 3)).add 2) = some (.int .i64 x20) ∧
 (∀ (b3 : Nat) (w11 : World), b3 = w10.heap.size → w11 = w10.alloc (.cells #[.int .i64 0, .slice none 0 0, .int .i64 0] 94) → ((w11.cell? (Addr.mk b3 0 none)).isSome = true ∧ w11.frozen? (Addr.mk b3 0 none) = false ∧ ((w11.cell? ((Addr.mk b3 0 none).add 1)).isSome = true ∧ w11.frozen? ((Addr.mk b3 0 none).add 1) = false ∧ ((w11.cell? ((Addr.mk b3 0 none).add 2)).isSome = true ∧ w11.frozen? ((Addr.mk b3 0 none).add 2) = false ∧
 (∀ w12 : World, w12 = ((w11.setCell (Addr.mk b3 0 none) (.int .i64 x18)).setCell ((Addr.mk b3 0 none).add 1) (.slice x19a x19n x19c)).setCell ((Addr.mk b3 0 none).add 2) (.int .i64 x20) →
 (∃ (x21 : Int), w12.cell? (Addr.mk b3 0 none) = some (.int .i64 x21) ∧
 (cond (x21 == 1) (∃ (x22a : Option Addr) (x22n x22c : Nat), w12.cell? ((Addr.mk b2 0 none).add 1) = some (.slice x22a x22n x22c) ∧
 (∃ (x23a : Option Addr) (x23n x23c : Nat), w12.cell? ((Addr.mk b3 0 none).add 1) = some (.slice x23a x23n x23c) ∧
 (Cl Tryz.prog 89 #[.slice x22a x22n x22c, .slice x23a x23n x23c] w12 fun v3 w13 => ∃ (x24 : Bool), v3 = .bool x24 ∧
 (cond x24 (R (.bool false) w13) (Jv3 s22 (IntKind.i64.wrap (s67 + 1)) w13 ∧ mu3 s22 (IntKind.i64.wrap (s67 + 1)) w13 < mu3 s22 s67 w10))))) (Jv3 s22 (IntKind.i64.wrap (s67 + 1)) w12 ∧ mu3 s22 (IntKind.i64.wrap (s67 + 1)) w12 < mu3 s22 s67 w10)))))))))) (∃ (x25 : Int), w10.cell? (Addr.mk b2 0 none) = some (.int .i64 x25) ∧
 (cond (x25 != 0) (Jv2 s22 (IntKind.i64.wrap (taken + 1)) (IntKind.i64.wrap (s24 + 1)) w10 ∧ mu2 s22 (IntKind.i64.wrap (taken + 1)) (IntKind.i64.wrap (s24 + 1)) w10 < mu2 s2 taken s24 w4) (Jv2 s22 taken (IntKind.i64.wrap (s24 + 1)) w10 ∧ mu2 s22 taken (IntKind.i64.wrap (s24 + 1)) w10 < mu2 s2 taken s24 w4)))))))))))))))) (R (.bool false) w7))))))))))))
 (cond (decide ((IntKind.i64.wrap (4 * taken)) ≤ (IntKind.i64.wrap (3 * many)))) (R (.bool (decide (taken ≤ 4000))) w4) (R (.bool false) w4))))))))
theorem c48 (la : Option Addr) (ln lc : Nat) {w : World} {R : Value → World → Prop} (hV : V48 la ln lc w R) : Cl Tryz.prog 48 #[.agg #[.slice la ln lc]] w R :=
 fn_sound hmTryz (TT := []) (f := 48) Tryz.func48 (ent_of Tryz.func48 (by kernel_rfl) rfl) (Eq.mpr (by kernel_rfl) hV)
/-- windrose/windroseref07.Same -/
def V49 (aa : Option Addr) (an ac : Nat) (ba : Option Addr) (bn bc : Nat) (w : World) (R : Value → World → Prop) : Prop :=
 cond ((an : Int) != (bn : Int)) (R (.bool false) w) (∃ (Jv : Bool → Int → World → Prop) (mu : Bool → Int → World → Nat), Jv false 0 w ∧ ∀ (jk_ : Nat → Value) (w1 : World), ∀ (s4 : Bool) (s14 : Int), Jv s4 s14 w1 →
 (cond (decide (s14 < (an : Int))) (∃ p : Addr, aa = some p ∧ 0 ≤ s14 ∧ s14 < (an : Int) ∧
 (∃ (x1 : Int) (x2a : Option Addr) (x2n x2c : Nat) (x3 : Int), w1.cell? (p.add ((s14).toNat * 3)) = some (.int .i64 x1) ∧ w1.cell? ((p.add ((s14).toNat * 3)).add 1) = some (.slice x2a x2n x2c) ∧ w1.cell? ((p.add ((s14).toNat * 3)).add 2) = some (.int .i64 x3) ∧
 (∀ (b2 : Nat) (w2 : World), b2 = w1.heap.size → w2 = w1.alloc (.cells #[.int .i64 0, .slice none 0 0, .int .i64 0] 94) → ((w2.cell? (Addr.mk b2 0 none)).isSome = true ∧ w2.frozen? (Addr.mk b2 0 none) = false ∧ ((w2.cell? ((Addr.mk b2 0 none).add 1)).isSome = true ∧ w2.frozen? ((Addr.mk b2 0 none).add 1) = false ∧ ((w2.cell? ((Addr.mk b2 0 none).add 2)).isSome = true ∧ w2.frozen? ((Addr.mk b2 0 none).add 2) = false ∧
 (∀ w3 : World, w3 = ((w2.setCell (Addr.mk b2 0 none) (.int .i64 x1)).setCell ((Addr.mk b2 0 none).add 1) (.slice x2a x2n x2c)).setCell ((Addr.mk b2 0 none).add 2) (.int .i64 x3) →
 (∀ w4 : World, w4 = w3.drew →
 (∃ (x4 : Int), w4.cell? (Addr.mk b2 0 none) = some (.int .i64 x4) ∧
 (∃ p2 : Addr, ba = some p2 ∧ 0 ≤ s14 ∧ s14 < (bn : Int) ∧
 (∃ (x5 : Int), w4.cell? (p2.add ((s14).toNat * 3)) = some (.int .i64 x5) ∧
 (cond (x4 != x5) (R (.bool false) w4) (∃ (x6 : Int), w4.cell? ((Addr.mk b2 0 none).add 2) = some (.int .i64 x6) ∧
 (∃ p3 : Addr, ba = some p3 ∧ 0 ≤ s14 ∧ s14 < (bn : Int) ∧
 (∃ (x7 : Int), w4.cell? ((p3.add ((s14).toNat * 3)).add 2) = some (.int .i64 x7) ∧
 (cond (x6 != x7) (R (.bool false) w4) (∃ (x8a : Option Addr) (x8n x8c : Nat), w4.cell? ((Addr.mk b2 0 none).add 1) = some (.slice x8a x8n x8c) ∧
 (∃ p4 : Addr, ba = some p4 ∧ 0 ≤ s14 ∧ s14 < (bn : Int) ∧
 (∃ (x9a : Option Addr) (x9n x9c : Nat), w4.cell? ((p4.add ((s14).toNat * 3)).add 1) = some (.slice x9a x9n x9c) ∧
 (Cl Tryz.prog 89 #[.slice x8a x8n x8c, .slice x9a x9n x9c] w4 fun v w5 => ∃ (x10 : Bool), v = .bool x10 ∧
 (cond (!x10) (R (.bool false) w5) (Jv s4 (IntKind.i64.wrap (s14 + 1)) w5 ∧ mu s4 (IntKind.i64.wrap (s14 + 1)) w5 < mu s4 s14 w1)))))))))))))))))))))) (R (.bool true) w1)))
theorem c49 (aa : Option Addr) (an ac : Nat) (ba : Option Addr) (bn bc : Nat) {w : World} {R : Value → World → Prop} (hV : V49 aa an ac ba bn bc w R) : Cl Tryz.prog 49 #[.slice aa an ac, .slice ba bn bc] w R :=
 fn_sound hmTryz (TT := []) (f := 49) Tryz.func49 (ent_of Tryz.func49 (by kernel_rfl) rfl) (Eq.mpr (by kernel_rfl) hV)
/-- windrose/windroseref07.All -/
def V50 (la : Option Addr) (ln lc : Nat) (w : World) (R : Value → World → Prop) : Prop :=
 ∀ (b : Nat) (w1 : World), b = w.heap.size → w1 = w.alloc (.cells #[.slice la ln lc] 25) →
 (∃ (x1a : Option Addr) (x1n x1c : Nat), w1.cell? (Addr.mk b 0 none) = some (.slice x1a x1n x1c) ∧
 (∃ (Jv : Option Addr → Nat → Nat → Int → World → Prop) (mu : Option Addr → Nat → Nat → Int → World → Nat), Jv none 0 0 0 w1 ∧ ∀ (jk_ : Nat → Value) (w2 : World), ∀ (outa : Option Addr) (outn outc : Nat) (s9 : Int), Jv outa outn outc s9 w2 →
 (cond (decide (s9 < (x1n : Int))) (∃ p : Addr, x1a = some p ∧ 0 ≤ s9 ∧ s9 < (x1n : Int) ∧
 (∃ (x2 : Int) (x3a : Option Addr) (x3n x3c : Nat) (x4 : Int), w2.cell? (p.add ((s9).toNat * 3)) = some (.int .i64 x2) ∧ w2.cell? ((p.add ((s9).toNat * 3)).add 1) = some (.slice x3a x3n x3c) ∧ w2.cell? ((p.add ((s9).toNat * 3)).add 2) = some (.int .i64 x4) ∧
 (∀ (b2 : Nat) (w3 : World), b2 = w2.heap.size → w3 = w2.alloc (.cells #[.int .i64 0, .slice none 0 0, .int .i64 0] 94) → ((w3.cell? (Addr.mk b2 0 none)).isSome = true ∧ w3.frozen? (Addr.mk b2 0 none) = false ∧ ((w3.cell? ((Addr.mk b2 0 none).add 1)).isSome = true ∧ w3.frozen? ((Addr.mk b2 0 none).add 1) = false ∧ ((w3.cell? ((Addr.mk b2 0 none).add 2)).isSome = true ∧ w3.frozen? ((Addr.mk b2 0 none).add 2) = false ∧
 (∀ w4 : World, w4 = ((w3.setCell (Addr.mk b2 0 none) (.int .i64 x2)).setCell ((Addr.mk b2 0 none).add 1) (.slice x3a x3n x3c)).setCell ((Addr.mk b2 0 none).add 2) (.int .i64 x4) →
 (∃ (x5 : Int), w4.cell? (Addr.mk b2 0 none) = some (.int .i64 x5) ∧
 (cond (x5 == 1) (∃ (x6 : Int) (x7a : Option Addr) (x7n x7c : Nat) (x8 : Int), w4.cell? (Addr.mk b2 0 none) = some (.int .i64 x6) ∧ w4.cell? ((Addr.mk b2 0 none).add 1) = some (.slice x7a x7n x7c) ∧ w4.cell? ((Addr.mk b2 0 none).add 2) = some (.int .i64 x8) ∧
 (Cl Tryz.prog 99 #[.slice outa outn outc, .agg #[.int .i64 x6, .slice x7a x7n x7c, .int .i64 x8]] w4 fun v w5 => ∃ (x9a : Option Addr) (x9n x9c : Nat), v = .slice x9a x9n x9c ∧ (Jv x9a x9n x9c (IntKind.i64.wrap (s9 + 1)) w5 ∧ mu x9a x9n x9c (IntKind.i64.wrap (s9 + 1)) w5 < mu outa outn outc s9 w2))) (Jv outa outn outc (IntKind.i64.wrap (s9 + 1)) w4 ∧ mu outa outn outc (IntKind.i64.wrap (s9 + 1)) w4 < mu outa outn outc s9 w2)))))))))) (R (.slice outa outn outc) w2))))
theorem c50 (la : Option Addr) (ln lc : Nat) {w : World} {R : Value → World → Prop} (hV : V50 la ln lc w R) : Cl Tryz.prog 50 #[.agg #[.slice la ln lc]] w R :=
 fn_sound hmTryz (TT := []) (f := 50) Tryz.func50 (ent_of Tryz.func50 (by kernel_rfl) rfl) (Eq.mpr (by kernel_rfl) hV)
end Go.Eng
namespace Go.Eng
open Go Go.Proofs
set_option maxRecDepth 100000
set_option maxHeartbeats 4000000
/-- windrose/windroseref12.Entries -/
def V51 (la : Option Addr) (ln lc : Nat) (w : World) (R : Value → World → Prop) : Prop :=
 ∃ (Jv : Option Addr → Nat → Nat → Int → World → Prop) (mu : Option Addr → Nat → Nat → Int → World → Nat), Jv none 0 0 0 w ∧ ∀ (jk_ : Nat → Value) (w1 : World), ∀ (outa : Option Addr) (outn outc : Nat) (s8 : Int), Jv outa outn outc s8 w1 →
 (cond (decide (s8 < (ln : Int))) (∃ p : Addr, la = some p ∧ 0 ≤ s8 ∧ s8 < (ln : Int) ∧
 (∃ (x1 : Bool) (x2a : Option Addr) (x2n x2c : Nat) (x3a : Option Addr) (x3n x3c : Nat) (x4a : Option Addr) (x4n x4c : Nat), w1.cell? (p.add ((s8).toNat * 4)) = some (.bool x1) ∧ w1.cell? ((p.add ((s8).toNat * 4)).add 1) = some (.slice x2a x2n x2c) ∧ w1.cell? ((p.add ((s8).toNat * 4)).add 2) = some (.slice x3a x3n x3c) ∧ w1.cell? ((p.add ((s8).toNat * 4)).add 3) = some (.slice x4a x4n x4c) ∧
 (∀ (b : Nat) (w2 : World), b = w1.heap.size → w2 = w1.alloc (.cells #[.bool false, .slice none 0 0, .slice none 0 0, .slice none 0 0] 56) → ((w2.cell? (Addr.mk b 0 none)).isSome = true ∧ w2.frozen? (Addr.mk b 0 none) = false ∧ ((w2.cell? ((Addr.mk b 0 none).add 1)).isSome = true ∧ w2.frozen? ((Addr.mk b 0 none).add 1) = false ∧ ((w2.cell? ((Addr.mk b 0 none).add 2)).isSome = true ∧ w2.frozen? ((Addr.mk b 0 none).add 2) = false ∧ ((w2.cell? ((Addr.mk b 0 none).add 3)).isSome = true ∧ w2.frozen? ((Addr.mk b 0 none).add 3) = false ∧
 (∀ w3 : World, w3 = (((w2.setCell (Addr.mk b 0 none) (.bool x1)).setCell ((Addr.mk b 0 none).add 1) (.slice x2a x2n x2c)).setCell ((Addr.mk b 0 none).add 2) (.slice x3a x3n x3c)).setCell ((Addr.mk b 0 none).add 3) (.slice x4a x4n x4c) →
 (∃ (x5 : Bool), w3.cell? (Addr.mk b 0 none) = some (.bool x5) ∧
 (cond x5 (∃ (x6a : Option Addr) (x6n x6c : Nat), w3.cell? ((Addr.mk b 0 none).add 1) = some (.slice x6a x6n x6c) ∧
 (Cl Tryz.prog 99 #[.slice outa outn outc, .agg #[.int .i64 1, .slice x6a x6n x6c, .int .i64 (IntKind.i64.wrap (s8 + 1))]] w3 fun v w4 => ∃ (x7a : Option Addr) (x7n x7c : Nat), v = .slice x7a x7n x7c ∧ (Jv x7a x7n x7c (IntKind.i64.wrap (s8 + 1)) w4 ∧ mu x7a x7n x7c (IntKind.i64.wrap (s8 + 1)) w4 < mu outa outn outc s8 w1))) (Jv outa outn outc (IntKind.i64.wrap (s8 + 1)) w3 ∧ mu outa outn outc (IntKind.i64.wrap (s8 + 1)) w3 < mu outa outn outc s8 w1))))))))))) (R (.slice outa outn outc) w1))
theorem c51 (la : Option Addr) (ln lc : Nat) {w : World} {R : Value → World → Prop} (hV : V51 la ln lc w R) : Cl Tryz.prog 51 #[.slice la ln lc] w R :=
 fn_sound hmTryz (TT := []) (f := 51) Tryz.func51 (ent_of Tryz.func51 (by kernel_rfl) rfl) (Eq.mpr (by kernel_rfl) hV)
/-- windrose/graph.of -/
def V52 (ga : Option Addr) (gn gc : Nat) (g2a : Option Addr) (g2n g2c : Nat) (la : Option Addr) (ln lc : Nat) (w : World) (R : Value → World → Prop) : Prop :=
 ∀ (b : Nat) (w1 : World), b = w.heap.size → w1 = w.alloc (.cells #[.slice ga gn gc, .slice g2a g2n g2c] 27) →
 (∀ (b2 : Nat) (w2 : World), b2 = w1.heap.size → w2 = w1.alloc (.cells #[.slice none 0 0, .slice none 0 0] 27) →
 (Cl Tryz.prog 39 #[.slice la ln lc] w2 fun v w3 => ∃ (x1 : Int), v = .int .i64 x1 ∧
 (cond (x1 != 0) ((w3.cell? (Addr.mk b2 0 none)).isSome = true ∧ w3.frozen? (Addr.mk b2 0 none) = false ∧ ((w3.cell? ((Addr.mk b2 0 none).add 1)).isSome = true ∧ w3.frozen? ((Addr.mk b2 0 none).add 1) = false ∧
 (∀ w4 : World, w4 = (w3.setCell (Addr.mk b2 0 none) (.slice none 0 0)).setCell ((Addr.mk b2 0 none).add 1) (.slice none 0 0) →
 (∃ (ra : Option Addr) (rn rc : Nat) (r2a : Option Addr) (r2n r2c : Nat), w4.cell? (Addr.mk b2 0 none) = some (.slice ra rn rc) ∧ w4.cell? ((Addr.mk b2 0 none).add 1) = some (.slice r2a r2n r2c) ∧ (R (.tuple #[.agg #[.slice ra rn rc, .slice r2a r2n r2c], .int .i64 0, .int .i64 130]) w4))))) (∃ (x2a : Option Addr) (x2n x2c : Nat), w3.cell? ((Addr.mk b 0 none).add 1) = some (.slice x2a x2n x2c) ∧
 (Cl Tryz.prog 74 #[.agg #[.slice x2a x2n x2c], .slice la ln lc] w3 fun v2 w5 => ∃ (x3 : Int) (x4 : Bool), v2 = .tuple #[.int .i64 x3, .bool x4] ∧
 (cond x4 (∃ (x5a : Option Addr) (x5n x5c : Nat) (x6a : Option Addr) (x6n x6c : Nat), w5.cell? (Addr.mk b 0 none) = some (.slice x5a x5n x5c) ∧ w5.cell? ((Addr.mk b 0 none).add 1) = some (.slice x6a x6n x6c) ∧
 (Cl Tryz.prog 62 #[.agg #[.slice x5a x5n x5c, .slice x6a x6n x6c]] w5 fun v3 w6 => ∃ (x7a : Option Addr) (x7n x7c : Nat) (x8a : Option Addr) (x8n x8c : Nat), v3 = .agg #[.slice x7a x7n x7c, .slice x8a x8n x8c] ∧ ((w6.cell? (Addr.mk b2 0 none)).isSome = true ∧ w6.frozen? (Addr.mk b2 0 none) = false ∧ ((w6.cell? ((Addr.mk b2 0 none).add 1)).isSome = true ∧ w6.frozen? ((Addr.mk b2 0 none).add 1) = false ∧
 (∀ w7 : World, w7 = (w6.setCell (Addr.mk b2 0 none) (.slice x7a x7n x7c)).setCell ((Addr.mk b2 0 none).add 1) (.slice x8a x8n x8c) →
 (∃ (r3a : Option Addr) (r3n r3c : Nat) (r4a : Option Addr) (r4n r4c : Nat), w7.cell? (Addr.mk b2 0 none) = some (.slice r3a r3n r3c) ∧ w7.cell? ((Addr.mk b2 0 none).add 1) = some (.slice r4a r4n r4c) ∧ (R (.tuple #[.agg #[.slice r3a r3n r3c, .slice r4a r4n r4c], .int .i64 x3, .int .i64 0]) w7))))))) (∃ (Jm : Int → World → Prop), (∃ (Jv : Int → World → Prop) (mu : Int → World → Nat), Jv 1 w5 ∧ ∀ (jk_2 : Nat → Value) (w8 : World), ∀ (n2 : Int), Jv n2 w8 →
 (∃ (x9a : Option Addr) (x9n x9c : Nat) (x10a : Option Addr) (x10n x10c : Nat), w8.cell? (Addr.mk b 0 none) = some (.slice x9a x9n x9c) ∧ w8.cell? ((Addr.mk b 0 none).add 1) = some (.slice x10a x10n x10c) ∧
 (Cl Tryz.prog 60 #[.agg #[.slice x9a x9n x9c, .slice x10a x10n x10c], .int .i64 n2] w8 fun v4 w9 => ∃ (x11 : Bool), v4 = .bool x11 ∧
 (cond x11 (Jv (IntKind.i64.wrap (n2 + 1)) w9 ∧ mu (IntKind.i64.wrap (n2 + 1)) w9 < mu n2 w8) (Jm n2 w9))))) ∧ ∀ (jk_ : Nat → Value) (w10 : World), ∀ (n : Int), Jm n w10 →
 (∃ (x12a : Option Addr) (x12n x12c : Nat), w10.cell? ((Addr.mk b 0 none).add 1) = some (.slice x12a x12n x12c) ∧
 (Cl Tryz.prog 87 #[.agg #[.slice x12a x12n x12c], .slice la ln lc, .int .i64 n] w10 fun v5 w11 => ∃ (x13a : Option Addr) (x13n x13c : Nat) (x14 : Int), v5 = .tuple #[.agg #[.slice x13a x13n x13c], .int .i64 x14] ∧
 (∀ (b3 : Nat) (w12 : World), b3 = w11.heap.size → w12 = w11.alloc (.cells #[.slice none 0 0] 25) → ((w12.cell? (Addr.mk b3 0 none)).isSome = true ∧ w12.frozen? (Addr.mk b3 0 none) = false ∧
 (∀ w13 : World, w13 = w12.setCell (Addr.mk b3 0 none) (.slice x13a x13n x13c) →
 (cond (x14 != 0) ((w13.cell? (Addr.mk b2 0 none)).isSome = true ∧ w13.frozen? (Addr.mk b2 0 none) = false ∧ ((w13.cell? ((Addr.mk b2 0 none).add 1)).isSome = true ∧ w13.frozen? ((Addr.mk b2 0 none).add 1) = false ∧
 (∀ w14 : World, w14 = (w13.setCell (Addr.mk b2 0 none) (.slice none 0 0)).setCell ((Addr.mk b2 0 none).add 1) (.slice none 0 0) →
 (∃ (r5a : Option Addr) (r5n r5c : Nat) (r6a : Option Addr) (r6n r6c : Nat), w14.cell? (Addr.mk b2 0 none) = some (.slice r5a r5n r5c) ∧ w14.cell? ((Addr.mk b2 0 none).add 1) = some (.slice r6a r6n r6c) ∧ (R (.tuple #[.agg #[.slice r5a r5n r5c, .slice r6a r6n r6c], .int .i64 0, .int .i64 x14]) w14))))) (∃ (x15a : Option Addr) (x15n x15c : Nat), w13.cell? (Addr.mk b3 0 none) = some (.slice x15a x15n x15c) ∧ ((w13.cell? ((Addr.mk b 0 none).add 1)).isSome = true ∧ w13.frozen? ((Addr.mk b 0 none).add 1) = false ∧
 (∀ w15 : World, w15 = w13.setCell ((Addr.mk b 0 none).add 1) (.slice x15a x15n x15c) →
 (∃ (x16a : Option Addr) (x16n x16c : Nat) (x17a : Option Addr) (x17n x17c : Nat), w15.cell? (Addr.mk b 0 none) = some (.slice x16a x16n x16c) ∧ w15.cell? ((Addr.mk b 0 none).add 1) = some (.slice x17a x17n x17c) ∧
 (Cl Tryz.prog 62 #[.agg #[.slice x16a x16n x16c, .slice x17a x17n x17c]] w15 fun v6 w16 => ∃ (x18a : Option Addr) (x18n x18c : Nat) (x19a : Option Addr) (x19n x19c : Nat), v6 = .agg #[.slice x18a x18n x18c, .slice x19a x19n x19c] ∧ ((w16.cell? (Addr.mk b 0 none)).isSome = true ∧ w16.frozen? (Addr.mk b 0 none) = false ∧ ((w16.cell? ((Addr.mk b 0 none).add 1)).isSome = true ∧ w16.frozen? ((Addr.mk b 0 none).add 1) = false ∧
 (∀ w17 : World, w17 = (w16.setCell (Addr.mk b 0 none) (.slice x18a x18n x18c)).setCell ((Addr.mk b 0 none).add 1) (.slice x19a x19n x19c) →
 (∃ (x20a : Option Addr) (x20n x20c : Nat), w17.cell? (Addr.mk b 0 none) = some (.slice x20a x20n x20c) ∧
 (cond (decide ((x20n : Int) < n)) (∃ (x21a : Option Addr) (x21n x21c : Nat), w17.cell? (Addr.mk b 0 none) = some (.slice x21a x21n x21c) ∧
 (∀ (b4 : Nat) (w18 : World), b4 = w17.heap.size → w18 = w17.alloc (.cells #[.bool false, .slice none 0 0, .slice none 0 0, .slice none 0 0] 56) →
 (∃ (x22a : Option Addr) (x22n x22c : Nat) (w19 : World), Sem.run Tryz.prog (Builtin.append_ #[22, 22] 22 #[.slice x21a x21n x21c, .slice (some (Addr.mk b4 0 none)) 1 1]) w18 = .ok (.slice x22a x22n x22c) w19 ∧ ((w19.cell? (Addr.mk b 0 none)).isSome = true ∧ w19.frozen? (Addr.mk b 0 none) = false ∧
 (∀ w20 : World, w20 = w19.setCell (Addr.mk b 0 none) (.slice x22a x22n x22c) →
 (∀ w21 : World, w21 = w20.drew →
 (∃ (x23a : Option Addr) (x23n x23c : Nat), w21.cell? (Addr.mk b 0 none) = some (.slice x23a x23n x23c) ∧
 (Cl Tryz.prog 69 #[.slice la ln lc] w21 fun v7 w22 => ∃ (x24a : Option Addr) (x24n x24c : Nat), v7 = .slice x24a x24n x24c ∧ (w22.cell? (Addr.mk b 0 none) = some (.slice x23a x23n x23c) ∧
 (∃ p : Addr, x23a = some p ∧ 0 ≤ (IntKind.i64.wrap (n - 1)) ∧ (IntKind.i64.wrap (n - 1)) < (x23n : Int) ∧ ((w22.cell? (p.add (((IntKind.i64.wrap (n - 1))).toNat * 4))).isSome = true ∧ w22.frozen? (p.add (((IntKind.i64.wrap (n - 1))).toNat * 4)) = false ∧ ((w22.cell? ((p.add (((IntKind.i64.wrap (n - 1))).toNat * 4)).add 1)).isSome = true ∧ w22.frozen? ((p.add (((IntKind.i64.wrap (n - 1))).toNat * 4)).add 1) = false ∧ ((w22.cell? ((p.add (((IntKind.i64.wrap (n - 1))).toNat * 4)).add 2)).isSome = true ∧ w22.frozen? ((p.add (((IntKind.i64.wrap (n - 1))).toNat * 4)).add 2) = false ∧ ((w22.cell? ((p.add (((IntKind.i64.wrap (n - 1))).toNat * 4)).add 3)).isSome = true ∧ w22.frozen? ((p.add (((IntKind.i64.wrap (n - 1))).toNat * 4)).add 3) = false ∧
 (∀ w23 : World, w23 = (((w22.setCell (p.add (((IntKind.i64.wrap (n - 1))).toNat * 4)) (.bool true)).setCell ((p.add (((IntKind.i64.wrap (n - 1))).toNat * 4)).add 1) (.slice x24a x24n x24c)).setCell ((p.add (((IntKind.i64.wrap (n - 1))).toNat * 4)).add 2) (.slice none 0 0)).setCell ((p.add (((IntKind.i64.wrap (n - 1))).toNat * 4)).add 3) (.slice none 0 0) →
 (∃ (x25a : Option Addr) (x25n x25c : Nat) (x26a : Option Addr) (x26n x26c : Nat), w23.cell? (Addr.mk b 0 none) = some (.slice x25a x25n x25c) ∧ w23.cell? ((Addr.mk b 0 none).add 1) = some (.slice x26a x26n x26c) ∧ ((w23.cell? (Addr.mk b2 0 none)).isSome = true ∧ w23.frozen? (Addr.mk b2 0 none) = false ∧ ((w23.cell? ((Addr.mk b2 0 none).add 1)).isSome = true ∧ w23.frozen? ((Addr.mk b2 0 none).add 1) = false ∧
 (∀ w24 : World, w24 = (w23.setCell (Addr.mk b2 0 none) (.slice x25a x25n x25c)).setCell ((Addr.mk b2 0 none).add 1) (.slice x26a x26n x26c) →
 (∃ (r7a : Option Addr) (r7n r7c : Nat) (r8a : Option Addr) (r8n r8c : Nat), w24.cell? (Addr.mk b2 0 none) = some (.slice r7a r7n r7c) ∧ w24.cell? ((Addr.mk b2 0 none).add 1) = some (.slice r8a r8n r8c) ∧ (R (.tuple #[.agg #[.slice r7a r7n r7c, .slice r8a r8n r8c], .int .i64 n, .int .i64 0]) w24))))))))))))))))))))) (∀ w25 : World, w25 = w17.drew →
 (∃ (x27a : Option Addr) (x27n x27c : Nat), w25.cell? (Addr.mk b 0 none) = some (.slice x27a x27n x27c) ∧
 (Cl Tryz.prog 69 #[.slice la ln lc] w25 fun v8 w26 => ∃ (x28a : Option Addr) (x28n x28c : Nat), v8 = .slice x28a x28n x28c ∧ (w26.cell? (Addr.mk b 0 none) = some (.slice x27a x27n x27c) ∧
 (∃ p2 : Addr, x27a = some p2 ∧ 0 ≤ (IntKind.i64.wrap (n - 1)) ∧ (IntKind.i64.wrap (n - 1)) < (x27n : Int) ∧ ((w26.cell? (p2.add (((IntKind.i64.wrap (n - 1))).toNat * 4))).isSome = true ∧ w26.frozen? (p2.add (((IntKind.i64.wrap (n - 1))).toNat * 4)) = false ∧ ((w26.cell? ((p2.add (((IntKind.i64.wrap (n - 1))).toNat * 4)).add 1)).isSome = true ∧ w26.frozen? ((p2.add (((IntKind.i64.wrap (n - 1))).toNat * 4)).add 1) = false ∧ ((w26.cell? ((p2.add (((IntKind.i64.wrap (n - 1))).toNat * 4)).add 2)).isSome = true ∧ w26.frozen? ((p2.add (((IntKind.i64.wrap (n - 1))).toNat * 4)).add 2) = false ∧ ((w26.cell? ((p2.add (((IntKind.i64.wrap (n - 1))).toNat * 4)).add 3)).isSome = true ∧ w26.frozen? ((p2.add (((IntKind.i64.wrap (n - 1))).toNat * 4)).add 3) = false ∧
 (∀ w27 : World, w27 = (((w26.setCell (p2.add (((IntKind.i64.wrap (n - 1))).toNat * 4)) (.bool true)).setCell ((p2.add (((IntKind.i64.wrap (n - 1))).toNat * 4)).add 1) (.slice x28a x28n x28c)).setCell ((p2.add (((IntKind.i64.wrap (n - 1))).toNat * 4)).add 2) (.slice none 0 0)).setCell ((p2.add (((IntKind.i64.wrap (n - 1))).toNat * 4)).add 3) (.slice none 0 0) →
 (∃ (x29a : Option Addr) (x29n x29c : Nat) (x30a : Option Addr) (x30n x30c : Nat), w27.cell? (Addr.mk b 0 none) = some (.slice x29a x29n x29c) ∧ w27.cell? ((Addr.mk b 0 none).add 1) = some (.slice x30a x30n x30c) ∧ ((w27.cell? (Addr.mk b2 0 none)).isSome = true ∧ w27.frozen? (Addr.mk b2 0 none) = false ∧ ((w27.cell? ((Addr.mk b2 0 none).add 1)).isSome = true ∧ w27.frozen? ((Addr.mk b2 0 none).add 1) = false ∧
 (∀ w28 : World, w28 = (w27.setCell (Addr.mk b2 0 none) (.slice x29a x29n x29c)).setCell ((Addr.mk b2 0 none).add 1) (.slice x30a x30n x30c) →
 (∃ (r9a : Option Addr) (r9n r9c : Nat) (r10a : Option Addr) (r10n r10c : Nat), w28.cell? (Addr.mk b2 0 none) = some (.slice r9a r9n r9c) ∧ w28.cell? ((Addr.mk b2 0 none).add 1) = some (.slice r10a r10n r10c) ∧ (R (.tuple #[.agg #[.slice r9a r9n r9c, .slice r10a r10n r10c], .int .i64 n, .int .i64 0]) w28)))))))))))))))))))))))))))))))))))))))
theorem c52 (ga : Option Addr) (gn gc : Nat) (g2a : Option Addr) (g2n g2c : Nat) (la : Option Addr) (ln lc : Nat) {w : World} {R : Value → World → Prop} (hV : V52 ga gn gc g2a g2n g2c la ln lc w R) : Cl Tryz.prog 52 #[.agg #[.slice ga gn gc, .slice g2a g2n g2c], .slice la ln lc] w R :=
 fn_sound hmTryz (TT := []) (f := 52) Tryz.func52 (ent_of Tryz.func52 (by kernel_rfl) rfl) (Eq.mpr (by kernel_rfl) hV)
/-- windrose/graph.gone -/
def V53 (ga : Option Addr) (gn gc : Nat) (g2a : Option Addr) (g2n g2c : Nat) (n id : Int) (plus : Bool) (turnf : FuncId) (turnc : List Value) (w : World) (R : Value → World → Prop) : Prop :=
 ∀ (b : Nat) (w1 : World), b = w.heap.size → w1 = w.alloc (.cells #[.slice ga gn gc, .slice g2a g2n g2c] 27) →
 (∀ (b2 : Nat) (w2 : World), b2 = w1.heap.size → w2 = w1.alloc (.cells #[.int .u64 id] 32) →
 (∀ (b3 : Nat) (w3 : World), b3 = w2.heap.size → w3 = w2.alloc (.cells #[.slice none 0 0, .slice none 0 0] 27) →
 (∃ (x1a : Option Addr) (x1n x1c : Nat) (x2a : Option Addr) (x2n x2c : Nat), w3.cell? (Addr.mk b 0 none) = some (.slice x1a x1n x1c) ∧ w3.cell? ((Addr.mk b 0 none).add 1) = some (.slice x2a x2n x2c) ∧
 (Cl Tryz.prog 26 #[.agg #[.slice x1a x1n x1c, .slice x2a x2n x2c]] w3 fun v w4 => ∃ (x3 : Int), v = .int .i64 x3 ∧
 (cond (x3 != 0) ((w4.cell? (Addr.mk b3 0 none)).isSome = true ∧ w4.frozen? (Addr.mk b3 0 none) = false ∧ ((w4.cell? ((Addr.mk b3 0 none).add 1)).isSome = true ∧ w4.frozen? ((Addr.mk b3 0 none).add 1) = false ∧
 (∀ w5 : World, w5 = (w4.setCell (Addr.mk b3 0 none) (.slice none 0 0)).setCell ((Addr.mk b3 0 none).add 1) (.slice none 0 0) →
 (∃ (ra : Option Addr) (rn rc : Nat) (r2a : Option Addr) (r2n r2c : Nat), w5.cell? (Addr.mk b3 0 none) = some (.slice ra rn rc) ∧ w5.cell? ((Addr.mk b3 0 none).add 1) = some (.slice r2a r2n r2c) ∧ (R (.tuple #[.agg #[.slice ra rn rc, .slice r2a r2n r2c], .int .i64 0, .int .i64 x3]) w5))))) (∃ (x4a : Option Addr) (x4n x4c : Nat) (x5a : Option Addr) (x5n x5c : Nat), w4.cell? (Addr.mk b 0 none) = some (.slice x4a x4n x4c) ∧ w4.cell? ((Addr.mk b 0 none).add 1) = some (.slice x5a x5n x5c) ∧
 (Cl Tryz.prog 60 #[.agg #[.slice x4a x4n x4c, .slice x5a x5n x5c], .int .i64 n] w4 fun v2 w6 => ∃ (x6 : Bool), v2 = .bool x6 ∧
 (cond (!x6) ((w6.cell? (Addr.mk b3 0 none)).isSome = true ∧ w6.frozen? (Addr.mk b3 0 none) = false ∧ ((w6.cell? ((Addr.mk b3 0 none).add 1)).isSome = true ∧ w6.frozen? ((Addr.mk b3 0 none).add 1) = false ∧
 (∀ w7 : World, w7 = (w6.setCell (Addr.mk b3 0 none) (.slice none 0 0)).setCell ((Addr.mk b3 0 none).add 1) (.slice none 0 0) →
 (∃ (r3a : Option Addr) (r3n r3c : Nat) (r4a : Option Addr) (r4n r4c : Nat), w7.cell? (Addr.mk b3 0 none) = some (.slice r3a r3n r3c) ∧ w7.cell? ((Addr.mk b3 0 none).add 1) = some (.slice r4a r4n r4c) ∧ (R (.tuple #[.agg #[.slice r3a r3n r3c, .slice r4a r4n r4c], .int .i64 0, .int .i64 2]) w7))))) (∃ (x7a : Option Addr) (x7n x7c : Nat), w6.cell? (Addr.mk b 0 none) = some (.slice x7a x7n x7c) ∧
 (∃ p : Addr, x7a = some p ∧ 0 ≤ (IntKind.i64.wrap (n - 1)) ∧ (IntKind.i64.wrap (n - 1)) < (x7n : Int) ∧
 (∃ (x8a : Option Addr) (x8n x8c : Nat), w6.cell? ((p.add (((IntKind.i64.wrap (n - 1))).toNat * 4)).add 1) = some (.slice x8a x8n x8c) ∧
 (∃ (x9 : Int), w6.cell? (Addr.mk b2 0 none) = some (.int .u64 x9) ∧
 (Cl Tryz.prog turnf (([.slice x8a x8n x8c, .int .u64 x9] : List Value) ++ turnc).toArray w6 fun v3 w8 => ∃ (x10a : Option Addr) (x10n x10c : Nat) (x11 : Int), v3 = .tuple #[.slice x10a x10n x10c, .int .i64 x11] ∧
 (cond (x11 != 0) ((w8.cell? (Addr.mk b3 0 none)).isSome = true ∧ w8.frozen? (Addr.mk b3 0 none) = false ∧ ((w8.cell? ((Addr.mk b3 0 none).add 1)).isSome = true ∧ w8.frozen? ((Addr.mk b3 0 none).add 1) = false ∧
 (∀ w9 : World, w9 = (w8.setCell (Addr.mk b3 0 none) (.slice none 0 0)).setCell ((Addr.mk b3 0 none).add 1) (.slice none 0 0) →
 (∃ (r5a : Option Addr) (r5n r5c : Nat) (r6a : Option Addr) (r6n r6c : Nat), w9.cell? (Addr.mk b3 0 none) = some (.slice r5a r5n r5c) ∧ w9.cell? ((Addr.mk b3 0 none).add 1) = some (.slice r6a r6n r6c) ∧ (R (.tuple #[.agg #[.slice r5a r5n r5c, .slice r6a r6n r6c], .int .i64 0, .int .i64 x11]) w9)))))
 (Cl Tryz.prog 22 #[.slice x10a x10n x10c, .slice x8a x8n x8c] w8 fun v4 w10 => ∃ (x12 : Bool), v4 = .bool x12 ∧
 (cond x12 (∃ (x13a : Option Addr) (x13n x13c : Nat) (x14a : Option Addr) (x14n x14c : Nat), w10.cell? (Addr.mk b 0 none) = some (.slice x13a x13n x13c) ∧ w10.cell? ((Addr.mk b 0 none).add 1) = some (.slice x14a x14n x14c) ∧
 (Cl Tryz.prog 62 #[.agg #[.slice x13a x13n x13c, .slice x14a x14n x14c]] w10 fun v5 w11 => ∃ (x15a : Option Addr) (x15n x15c : Nat) (x16a : Option Addr) (x16n x16c : Nat), v5 = .agg #[.slice x15a x15n x15c, .slice x16a x16n x16c] ∧ ((w11.cell? (Addr.mk b3 0 none)).isSome = true ∧ w11.frozen? (Addr.mk b3 0 none) = false ∧ ((w11.cell? ((Addr.mk b3 0 none).add 1)).isSome = true ∧ w11.frozen? ((Addr.mk b3 0 none).add 1) = false ∧
 (∀ w12 : World, w12 = (w11.setCell (Addr.mk b3 0 none) (.slice x15a x15n x15c)).setCell ((Addr.mk b3 0 none).add 1) (.slice x16a x16n x16c) →
 (∃ (r7a : Option Addr) (r7n r7c : Nat) (r8a : Option Addr) (r8n r8c : Nat), w12.cell? (Addr.mk b3 0 none) = some (.slice r7a r7n r7c) ∧ w12.cell? ((Addr.mk b3 0 none).add 1) = some (.slice r8a r8n r8c) ∧ (R (.tuple #[.agg #[.slice r7a r7n r7c, .slice r8a r8n r8c], .int .i64 n, .int .i64 0]) w12))))))) (∃ (x17a : Option Addr) (x17n x17c : Nat) (x18a : Option Addr) (x18n x18c : Nat), w10.cell? (Addr.mk b 0 none) = some (.slice x17a x17n x17c) ∧ w10.cell? ((Addr.mk b 0 none).add 1) = some (.slice x18a x18n x18c) ∧
 (Cl Tryz.prog 52 #[.agg #[.slice x17a x17n x17c, .slice x18a x18n x18c], .slice x10a x10n x10c] w10 fun v6 w13 => ∃ (x19a : Option Addr) (x19n x19c : Nat) (x20a : Option Addr) (x20n x20c : Nat) (x21 x22 : Int), v6 = .tuple #[.agg #[.slice x19a x19n x19c, .slice x20a x20n x20c], .int .i64 x21, .int .i64 x22] ∧ ((w13.cell? (Addr.mk b 0 none)).isSome = true ∧ w13.frozen? (Addr.mk b 0 none) = false ∧ ((w13.cell? ((Addr.mk b 0 none).add 1)).isSome = true ∧ w13.frozen? ((Addr.mk b 0 none).add 1) = false ∧
 (∀ w14 : World, w14 = (w13.setCell (Addr.mk b 0 none) (.slice x19a x19n x19c)).setCell ((Addr.mk b 0 none).add 1) (.slice x20a x20n x20c) →
 (cond (x22 != 0) ((w14.cell? (Addr.mk b3 0 none)).isSome = true ∧ w14.frozen? (Addr.mk b3 0 none) = false ∧ ((w14.cell? ((Addr.mk b3 0 none).add 1)).isSome = true ∧ w14.frozen? ((Addr.mk b3 0 none).add 1) = false ∧
 (∀ w15 : World, w15 = (w14.setCell (Addr.mk b3 0 none) (.slice none 0 0)).setCell ((Addr.mk b3 0 none).add 1) (.slice none 0 0) →
 (∃ (r9a : Option Addr) (r9n r9c : Nat) (r10a : Option Addr) (r10n r10c : Nat), w15.cell? (Addr.mk b3 0 none) = some (.slice r9a r9n r9c) ∧ w15.cell? ((Addr.mk b3 0 none).add 1) = some (.slice r10a r10n r10c) ∧ (R (.tuple #[.agg #[.slice r9a r9n r9c, .slice r10a r10n r10c], .int .i64 0, .int .i64 x22]) w15))))) (∀ w16 : World, w16 = w14.drew →
 (∃ (x23a : Option Addr) (x23n x23c : Nat), w16.cell? (Addr.mk b 0 none) = some (.slice x23a x23n x23c) ∧
 (∃ p2 : Addr, x23a = some p2 ∧ 0 ≤ (IntKind.i64.wrap (n - 1)) ∧ (IntKind.i64.wrap (n - 1)) < (x23n : Int) ∧
 (∃ (x24a : Option Addr) (x24n x24c : Nat), w16.cell? (Addr.mk b 0 none) = some (.slice x24a x24n x24c) ∧
 (∃ p3 : Addr, x24a = some p3 ∧ 0 ≤ (IntKind.i64.wrap (x21 - 1)) ∧ (IntKind.i64.wrap (x21 - 1)) < (x24n : Int) ∧
 (cond plus (∃ p4 : Addr, some (p2.add (((IntKind.i64.wrap (n - 1))).toNat * 4)) = some p4 ∧
 (Cl Tryz.prog 100 #[.pointer (some (p4.add 2)), .int .i64 x21, .pointer (some (Addr.mk b2 0 none))] w16 fun v7 w17 => v7 = undef ∧
 (∃ p5 : Addr, some (p3.add (((IntKind.i64.wrap (x21 - 1))).toNat * 4)) = some p5 ∧
 (Cl Tryz.prog 100 #[.pointer (some (p5.add 3)), .int .i64 n, .pointer (some (Addr.mk b2 0 none))] w17 fun v8 w18 => v8 = undef ∧
 (∃ (x25a : Option Addr) (x25n x25c : Nat) (x26a : Option Addr) (x26n x26c : Nat), w18.cell? (Addr.mk b 0 none) = some (.slice x25a x25n x25c) ∧ w18.cell? ((Addr.mk b 0 none).add 1) = some (.slice x26a x26n x26c) ∧ ((w18.cell? (Addr.mk b3 0 none)).isSome = true ∧ w18.frozen? (Addr.mk b3 0 none) = false ∧ ((w18.cell? ((Addr.mk b3 0 none).add 1)).isSome = true ∧ w18.frozen? ((Addr.mk b3 0 none).add 1) = false ∧
 (∀ w19 : World, w19 = (w18.setCell (Addr.mk b3 0 none) (.slice x25a x25n x25c)).setCell ((Addr.mk b3 0 none).add 1) (.slice x26a x26n x26c) →
 (∃ (r11a : Option Addr) (r11n r11c : Nat) (r12a : Option Addr) (r12n r12c : Nat), w19.cell? (Addr.mk b3 0 none) = some (.slice r11a r11n r11c) ∧ w19.cell? ((Addr.mk b3 0 none).add 1) = some (.slice r12a r12n r12c) ∧ (R (.tuple #[.agg #[.slice r11a r11n r11c, .slice r12a r12n r12c], .int .i64 x21, .int .i64 0]) w19)))))))))) (∃ p6 : Addr, some (p2.add (((IntKind.i64.wrap (n - 1))).toNat * 4)) = some p6 ∧
 (Cl Tryz.prog 100 #[.pointer (some (p6.add 3)), .int .i64 x21, .pointer (some (Addr.mk b2 0 none))] w16 fun v9 w20 => v9 = undef ∧
 (∃ p7 : Addr, some (p3.add (((IntKind.i64.wrap (x21 - 1))).toNat * 4)) = some p7 ∧
 (Cl Tryz.prog 100 #[.pointer (some (p7.add 2)), .int .i64 n, .pointer (some (Addr.mk b2 0 none))] w20 fun v10 w21 => v10 = undef ∧
 (∃ (x27a : Option Addr) (x27n x27c : Nat) (x28a : Option Addr) (x28n x28c : Nat), w21.cell? (Addr.mk b 0 none) = some (.slice x27a x27n x27c) ∧ w21.cell? ((Addr.mk b 0 none).add 1) = some (.slice x28a x28n x28c) ∧ ((w21.cell? (Addr.mk b3 0 none)).isSome = true ∧ w21.frozen? (Addr.mk b3 0 none) = false ∧ ((w21.cell? ((Addr.mk b3 0 none).add 1)).isSome = true ∧ w21.frozen? ((Addr.mk b3 0 none).add 1) = false ∧
 (∀ w22 : World, w22 = (w21.setCell (Addr.mk b3 0 none) (.slice x27a x27n x27c)).setCell ((Addr.mk b3 0 none).add 1) (.slice x28a x28n x28c) →
 (∃ (r13a : Option Addr) (r13n r13c : Nat) (r14a : Option Addr) (r14n r14c : Nat), w22.cell? (Addr.mk b3 0 none) = some (.slice r13a r13n r13c) ∧ w22.cell? ((Addr.mk b3 0 none).add 1) = some (.slice r14a r14n r14c) ∧ (R (.tuple #[.agg #[.slice r13a r13n r13c, .slice r14a r14n r14c], .int .i64 x21, .int .i64 0]) w22))))))))))))))))))))))))))))))))))))))
theorem c53 (ga : Option Addr) (gn gc : Nat) (g2a : Option Addr) (g2n g2c : Nat) (n id : Int) (plus : Bool) (turnf : FuncId) (turnc : List Value) {w : World} {R : Value → World → Prop} (hV : V53 ga gn gc g2a g2n g2c n id plus turnf turnc w R) : Cl Tryz.prog 53 #[.agg #[.slice ga gn gc, .slice g2a g2n g2c], .int .i64 n, .int .u64 id, .bool plus, .func (.func turnf) #[] turnc.toArray] w R :=
 fn_sound hmTryz (TT := []) (f := 53) Tryz.func53 (ent_of Tryz.func53 (by kernel_rfl) rfl) (Eq.mpr (by kernel_rfl) hV)
/-- windrose/types.Without -/
def V54 (la : Option Addr) (ln lc : Nat) (id : Int) (w : World) (R : Value → World → Prop) : Prop :=
 Cl Tryz.prog 39 #[.slice la ln lc] w fun v w1 => ∃ (x1 : Int), v = .int .i64 x1 ∧
 (cond (x1 != 0) (R (.tuple #[.slice none 0 0, .int .i64 x1]) w1)
 (Cl Tryz.prog 104 #[.slice la ln lc, .int .u64 id] w1 fun v2 w2 => ∃ (x2 : Int) (x3 : Bool), v2 = .tuple #[.int .i64 x2, .bool x3] ∧
 (cond (!x3) (R (.tuple #[.slice none 0 0, .int .i64 4]) w2)
 (Cl Tryz.prog 71 #[.slice la ln lc] w2 fun v3 w3 => ∃ (x4a : Option Addr) (x4n x4c : Nat), v3 = .slice x4a x4n x4c ∧
 (Cl Tryz.prog 105 #[.slice x4a x4n x4c, .int .i64 x2, .int .i64 (IntKind.i64.wrap (x2 + 1))] w3 fun v4 w4 => ∃ (x5a : Option Addr) (x5n x5c : Nat), v4 = .slice x5a x5n x5c ∧ (R (.tuple #[.slice x5a x5n x5c, .int .i64 0]) w4))))))
theorem c54 (la : Option Addr) (ln lc : Nat) (id : Int) {w : World} {R : Value → World → Prop} (hV : V54 la ln lc id w R) : Cl Tryz.prog 54 #[.slice la ln lc, .int .u64 id] w R :=
 fn_sound hmTryz (TT := []) (f := 54) Tryz.func54 (ent_of Tryz.func54 (by kernel_rfl) rfl) (Eq.mpr (by kernel_rfl) hV)
/-- windrose/windroseref03.Has -/
def V55 (la : Option Addr) (ln lc : Nat) (id : Int) (w : World) (R : Value → World → Prop) : Prop :=
 ∃ (Jv : Bool → Int → World → Prop) (mu : Bool → Int → World → Nat), Jv false 0 w ∧ ∀ (jk_ : Nat → Value) (w1 : World), ∀ (s4 : Bool) (s9 : Int), Jv s4 s9 w1 →
 (cond (decide (s9 < (ln : Int))) (∃ p : Addr, la = some p ∧ 0 ≤ s9 ∧ s9 < (ln : Int) ∧
 (∃ (x1 : Int), w1.cell? (p.add ((s9).toNat * 1)) = some (.int .u64 x1) ∧
 (cond (x1 == id) (R (.bool true) w1) (Jv s4 (IntKind.i64.wrap (s9 + 1)) w1 ∧ mu s4 (IntKind.i64.wrap (s9 + 1)) w1 < mu s4 s9 w1)))) (R (.bool false) w1))
theorem c55 (la : Option Addr) (ln lc : Nat) (id : Int) {w : World} {R : Value → World → Prop} (hV : V55 la ln lc id w R) : Cl Tryz.prog 55 #[.slice la ln lc, .int .u64 id] w R :=
 fn_sound hmTryz (TT := []) (f := 55) Tryz.func55 (ent_of Tryz.func55 (by kernel_rfl) rfl) (Eq.mpr (by kernel_rfl) hV)
/-- windrose/windroseref03.May -/
def V56 (id : Int) (w : World) (R : Value → World → Prop) : Prop :=
 Cl Tryz.prog 106 #[.int .u64 id] w fun v w1 => ∃ (x1 : Int), v = .int .i64 x1 ∧
 (cond (x1 == 2) (R (.bool true) w1)
 (Cl Tryz.prog 106 #[.int .u64 id] w1 fun v2 w2 => ∃ (x2 : Int), v2 = .int .i64 x2 ∧ (R (.bool (x2 == 3)) w2)))
theorem c56 (id : Int) {w : World} {R : Value → World → Prop} (hV : V56 id w R) : Cl Tryz.prog 56 #[.int .u64 id] w R :=
 fn_sound hmTryz (TT := []) (f := 56) Tryz.func56 (ent_of Tryz.func56 (by kernel_rfl) rfl) (Eq.mpr (by kernel_rfl) hV)
/-- windrose/windroseref03.Without -/
def V57 (la : Option Addr) (ln lc : Nat) (id : Int) (w : World) (R : Value → World → Prop) : Prop :=
 ∃ (Jv : Option Addr → Nat → Nat → Int → World → Prop) (mu : Option Addr → Nat → Nat → Int → World → Nat), Jv none 0 0 0 w ∧ ∀ (jk_ : Nat → Value) (w1 : World), ∀ (outa : Option Addr) (outn outc : Nat) (s10 : Int), Jv outa outn outc s10 w1 →
 (cond (decide (s10 < (ln : Int))) (∃ p : Addr, la = some p ∧ 0 ≤ s10 ∧ s10 < (ln : Int) ∧
 (∃ (x1 : Int), w1.cell? (p.add ((s10).toNat * 1)) = some (.int .u64 x1) ∧
 (cond (x1 != id) (∀ (b : Nat) (w2 : World), b = w1.heap.size → w2 = w1.alloc (.cells #[.int .u64 x1] 32) →
 (∃ (x2a : Option Addr) (x2n x2c : Nat) (w3 : World), Sem.run Tryz.prog (Builtin.append_ #[33, 33] 33 #[.slice outa outn outc, .slice (some (Addr.mk b 0 none)) 1 1]) w2 = .ok (.slice x2a x2n x2c) w3 ∧ (Jv x2a x2n x2c (IntKind.i64.wrap (s10 + 1)) w3 ∧ mu x2a x2n x2c (IntKind.i64.wrap (s10 + 1)) w3 < mu outa outn outc s10 w1))) (Jv outa outn outc (IntKind.i64.wrap (s10 + 1)) w1 ∧ mu outa outn outc (IntKind.i64.wrap (s10 + 1)) w1 < mu outa outn outc s10 w1)))) (R (.slice outa outn outc) w1))
theorem c57 (la : Option Addr) (ln lc : Nat) (id : Int) {w : World} {R : Value → World → Prop} (hV : V57 la ln lc id w R) : Cl Tryz.prog 57 #[.slice la ln lc, .int .u64 id] w R :=
 fn_sound hmTryz (TT := []) (f := 57) Tryz.func57 (ent_of Tryz.func57 (by kernel_rfl) rfl) (Eq.mpr (by kernel_rfl) hV)
/-- windrose/windroseref03.With -/
def V58 (la : Option Addr) (ln lc : Nat) (id : Int) (w : World) (R : Value → World → Prop) : Prop :=
 ∃ (Jv : Option Addr → Nat → Nat → Int → World → Prop) (mu : Option Addr → Nat → Nat → Int → World → Nat), Jv none 0 0 0 w ∧ ∀ (jk_ : Nat → Value) (w1 : World), ∀ (outa : Option Addr) (outn outc : Nat) (s12 : Int), Jv outa outn outc s12 w1 →
 (cond (decide (s12 < (ln : Int))) (∃ p : Addr, la = some p ∧ 0 ≤ s12 ∧ s12 < (ln : Int) ∧
 (∃ (x1 : Int), w1.cell? (p.add ((s12).toNat * 1)) = some (.int .u64 x1) ∧
 (cond (decide (x1 < id)) (∀ (b : Nat) (w2 : World), b = w1.heap.size → w2 = w1.alloc (.cells #[.int .u64 x1] 32) →
 (∃ (x2a : Option Addr) (x2n x2c : Nat) (w3 : World), Sem.run Tryz.prog (Builtin.append_ #[33, 33] 33 #[.slice outa outn outc, .slice (some (Addr.mk b 0 none)) 1 1]) w2 = .ok (.slice x2a x2n x2c) w3 ∧ (Jv x2a x2n x2c (IntKind.i64.wrap (s12 + 1)) w3 ∧ mu x2a x2n x2c (IntKind.i64.wrap (s12 + 1)) w3 < mu outa outn outc s12 w1))) (Jv outa outn outc (IntKind.i64.wrap (s12 + 1)) w1 ∧ mu outa outn outc (IntKind.i64.wrap (s12 + 1)) w1 < mu outa outn outc s12 w1)))) (∀ (b2 : Nat) (w4 : World), b2 = w1.heap.size → w4 = w1.alloc (.cells #[.int .u64 id] 32) →
 (∃ (x3a : Option Addr) (x3n x3c : Nat) (w5 : World), Sem.run Tryz.prog (Builtin.append_ #[33, 33] 33 #[.slice outa outn outc, .slice (some (Addr.mk b2 0 none)) 1 1]) w4 = .ok (.slice x3a x3n x3c) w5 ∧
 (∃ (Jv2 : Option Addr → Nat → Nat → Int → World → Prop) (mu2 : Option Addr → Nat → Nat → Int → World → Nat), Jv2 x3a x3n x3c 0 w5 ∧ ∀ (jk_2 : Nat → Value) (w6 : World), ∀ (out2a : Option Addr) (out2n out2c : Nat) (s30 : Int), Jv2 out2a out2n out2c s30 w6 →
 (cond (decide (s30 < (ln : Int))) (∃ p2 : Addr, la = some p2 ∧ 0 ≤ s30 ∧ s30 < (ln : Int) ∧
 (∃ (x4 : Int), w6.cell? (p2.add ((s30).toNat * 1)) = some (.int .u64 x4) ∧
 (cond (decide (id < x4)) (∀ (b3 : Nat) (w7 : World), b3 = w6.heap.size → w7 = w6.alloc (.cells #[.int .u64 x4] 32) →
 (∃ (x5a : Option Addr) (x5n x5c : Nat) (w8 : World), Sem.run Tryz.prog (Builtin.append_ #[33, 33] 33 #[.slice out2a out2n out2c, .slice (some (Addr.mk b3 0 none)) 1 1]) w7 = .ok (.slice x5a x5n x5c) w8 ∧ (Jv2 x5a x5n x5c (IntKind.i64.wrap (s30 + 1)) w8 ∧ mu2 x5a x5n x5c (IntKind.i64.wrap (s30 + 1)) w8 < mu2 out2a out2n out2c s30 w6))) (Jv2 out2a out2n out2c (IntKind.i64.wrap (s30 + 1)) w6 ∧ mu2 out2a out2n out2c (IntKind.i64.wrap (s30 + 1)) w6 < mu2 out2a out2n out2c s30 w6)))) (R (.slice out2a out2n out2c) w6))))))
theorem c58 (la : Option Addr) (ln lc : Nat) (id : Int) {w : World} {R : Value → World → Prop} (hV : V58 la ln lc id w R) : Cl Tryz.prog 58 #[.slice la ln lc, .int .u64 id] w R :=
 fn_sound hmTryz (TT := []) (f := 58) Tryz.func58 (ent_of Tryz.func58 (by kernel_rfl) rfl) (Eq.mpr (by kernel_rfl) hV)
/-- windrose/windroseref12.with -/
def V59 (la : Option Addr) (ln lc : Nat) (s s2 : Int) (w : World) (R : Value → World → Prop) : Prop :=
 ∀ (b : Nat) (w1 : World), b = w.heap.size → w1 = w.alloc (.cells #[.int .u64 s, .int .i64 s2] 71) →
 (∃ (Jm : Option Addr → Nat → Nat → Int → World → Prop), (∃ (Jv : Option Addr → Nat → Nat → Int → World → Prop) (mu : Option Addr → Nat → Nat → Int → World → Nat), Jv none 0 0 0 w1 ∧ ∀ (jk_2 : Nat → Value) (w2 : World), ∀ (out2a : Option Addr) (out2n out2c : Nat) (s122 : Int), Jv out2a out2n out2c s122 w2 →
 (cond (decide (s122 < (ln : Int))) (∃ p : Addr, la = some p ∧ 0 ≤ s122 ∧ s122 < (ln : Int) ∧
 (∃ (x1 x2 : Int), w2.cell? (p.add ((s122).toNat * 2)) = some (.int .u64 x1) ∧ w2.cell? ((p.add ((s122).toNat * 2)).add 1) = some (.int .i64 x2) ∧
 (∀ (b2 : Nat) (w3 : World), b2 = w2.heap.size → w3 = w2.alloc (.cells #[.int .u64 0, .int .i64 0] 71) → ((w3.cell? (Addr.mk b2 0 none)).isSome = true ∧ w3.frozen? (Addr.mk b2 0 none) = false ∧ ((w3.cell? ((Addr.mk b2 0 none).add 1)).isSome = true ∧ w3.frozen? ((Addr.mk b2 0 none).add 1) = false ∧
 (∀ w4 : World, w4 = (w3.setCell (Addr.mk b2 0 none) (.int .u64 x1)).setCell ((Addr.mk b2 0 none).add 1) (.int .i64 x2) →
 (∃ (x3 : Int), w4.cell? (Addr.mk b2 0 none) = some (.int .u64 x3) ∧
 (∃ (x4 : Int), w4.cell? (Addr.mk b 0 none) = some (.int .u64 x4) ∧
 (cond (decide (x3 < x4)) (∃ (x5 x6 : Int), w4.cell? (Addr.mk b2 0 none) = some (.int .u64 x5) ∧ w4.cell? ((Addr.mk b2 0 none).add 1) = some (.int .i64 x6) ∧
 (∀ (b3 : Nat) (w5 : World), b3 = w4.heap.size → w5 = w4.alloc (.cells #[.int .u64 x5, .int .i64 x6] 71) →
 (∃ (x7a : Option Addr) (x7n x7c : Nat) (w6 : World), Sem.run Tryz.prog (Builtin.append_ #[54, 54] 54 #[.slice out2a out2n out2c, .slice (some (Addr.mk b3 0 none)) 1 1]) w5 = .ok (.slice x7a x7n x7c) w6 ∧ (Jv x7a x7n x7c (IntKind.i64.wrap (s122 + 1)) w6 ∧ mu x7a x7n x7c (IntKind.i64.wrap (s122 + 1)) w6 < mu out2a out2n out2c s122 w2)))) (Jv out2a out2n out2c (IntKind.i64.wrap (s122 + 1)) w4 ∧ mu out2a out2n out2c (IntKind.i64.wrap (s122 + 1)) w4 < mu out2a out2n out2c s122 w2)))))))))) (Jm out2a out2n out2c s122 w2))) ∧ ∀ (jk_ : Nat → Value) (w7 : World), ∀ (outa : Option Addr) (outn outc : Nat) (s12 : Int), Jm outa outn outc s12 w7 →
 (∃ (x8 x9 : Int), w7.cell? (Addr.mk b 0 none) = some (.int .u64 x8) ∧ w7.cell? ((Addr.mk b 0 none).add 1) = some (.int .i64 x9) ∧
 (∀ (b4 : Nat) (w8 : World), b4 = w7.heap.size → w8 = w7.alloc (.cells #[.int .u64 x8, .int .i64 x9] 71) →
 (∃ (x10a : Option Addr) (x10n x10c : Nat) (w9 : World), Sem.run Tryz.prog (Builtin.append_ #[54, 54] 54 #[.slice outa outn outc, .slice (some (Addr.mk b4 0 none)) 1 1]) w8 = .ok (.slice x10a x10n x10c) w9 ∧
 (∃ (Jv2 : Option Addr → Nat → Nat → Int → World → Prop) (mu2 : Option Addr → Nat → Nat → Int → World → Nat), Jv2 x10a x10n x10c 0 w9 ∧ ∀ (jk_3 : Nat → Value) (w10 : World), ∀ (out3a : Option Addr) (out3n out3c : Nat) (s32 : Int), Jv2 out3a out3n out3c s32 w10 →
 (cond (decide (s32 < (ln : Int))) (∃ p2 : Addr, la = some p2 ∧ 0 ≤ s32 ∧ s32 < (ln : Int) ∧
 (∃ (x11 x12 : Int), w10.cell? (p2.add ((s32).toNat * 2)) = some (.int .u64 x11) ∧ w10.cell? ((p2.add ((s32).toNat * 2)).add 1) = some (.int .i64 x12) ∧
 (∀ (b5 : Nat) (w11 : World), b5 = w10.heap.size → w11 = w10.alloc (.cells #[.int .u64 0, .int .i64 0] 71) → ((w11.cell? (Addr.mk b5 0 none)).isSome = true ∧ w11.frozen? (Addr.mk b5 0 none) = false ∧ ((w11.cell? ((Addr.mk b5 0 none).add 1)).isSome = true ∧ w11.frozen? ((Addr.mk b5 0 none).add 1) = false ∧
 (∀ w12 : World, w12 = (w11.setCell (Addr.mk b5 0 none) (.int .u64 x11)).setCell ((Addr.mk b5 0 none).add 1) (.int .i64 x12) →
 (∃ (x13 : Int), w12.cell? (Addr.mk b5 0 none) = some (.int .u64 x13) ∧
 (∃ (x14 : Int), w12.cell? (Addr.mk b 0 none) = some (.int .u64 x14) ∧
 (cond (decide (x14 < x13)) (∃ (x15 x16 : Int), w12.cell? (Addr.mk b5 0 none) = some (.int .u64 x15) ∧ w12.cell? ((Addr.mk b5 0 none).add 1) = some (.int .i64 x16) ∧
 (∀ (b6 : Nat) (w13 : World), b6 = w12.heap.size → w13 = w12.alloc (.cells #[.int .u64 x15, .int .i64 x16] 71) →
 (∃ (x17a : Option Addr) (x17n x17c : Nat) (w14 : World), Sem.run Tryz.prog (Builtin.append_ #[54, 54] 54 #[.slice out3a out3n out3c, .slice (some (Addr.mk b6 0 none)) 1 1]) w13 = .ok (.slice x17a x17n x17c) w14 ∧ (Jv2 x17a x17n x17c (IntKind.i64.wrap (s32 + 1)) w14 ∧ mu2 x17a x17n x17c (IntKind.i64.wrap (s32 + 1)) w14 < mu2 out3a out3n out3c s32 w10)))) (Jv2 out3a out3n out3c (IntKind.i64.wrap (s32 + 1)) w12 ∧ mu2 out3a out3n out3c (IntKind.i64.wrap (s32 + 1)) w12 < mu2 out3a out3n out3c s32 w10)))))))))) (R (.slice out3a out3n out3c) w10)))))))
theorem c59 (la : Option Addr) (ln lc : Nat) (s s2 : Int) {w : World} {R : Value → World → Prop} (hV : V59 la ln lc s s2 w R) : Cl Tryz.prog 59 #[.slice la ln lc, .agg #[.int .u64 s, .int .i64 s2]] w R :=
 fn_sound hmTryz (TT := []) (f := 59) Tryz.func59 (ent_of Tryz.func59 (by kernel_rfl) rfl) (Eq.mpr (by kernel_rfl) hV)
end Go.Eng
namespace Go.Eng
open Go Go.Proofs
set_option maxRecDepth 100000
set_option maxHeartbeats 4000000
/-- windrose/graph.is -/
def V60 (ga : Option Addr) (gn gc : Nat) (g2a : Option Addr) (g2n g2c : Nat) (n : Int) (w : World) (R : Value → World → Prop) : Prop :=
 ∀ (b : Nat) (w1 : World), b = w.heap.size → w1 = w.alloc (.cells #[.slice ga gn gc, .slice g2a g2n g2c] 27) →
 (cond (decide (1 ≤ n)) (∃ (x1a : Option Addr) (x1n x1c : Nat), w1.cell? (Addr.mk b 0 none) = some (.slice x1a x1n x1c) ∧
 (cond (decide (n ≤ (x1n : Int))) (∃ (x2a : Option Addr) (x2n x2c : Nat), w1.cell? (Addr.mk b 0 none) = some (.slice x2a x2n x2c) ∧
 (∃ p : Addr, x2a = some p ∧ 0 ≤ (IntKind.i64.wrap (n - 1)) ∧ (IntKind.i64.wrap (n - 1)) < (x2n : Int) ∧
 (∃ (x3 : Bool), w1.cell? (p.add (((IntKind.i64.wrap (n - 1))).toNat * 4)) = some (.bool x3) ∧ (R (.bool x3) w1)))) (R (.bool false) w1))) (R (.bool false) w1))
theorem c60 (ga : Option Addr) (gn gc : Nat) (g2a : Option Addr) (g2n g2c : Nat) (n : Int) {w : World} {R : Value → World → Prop} (hV : V60 ga gn gc g2a g2n g2c n w R) : Cl Tryz.prog 60 #[.agg #[.slice ga gn gc, .slice g2a g2n g2c], .int .i64 n] w R :=
 fn_sound hmTryz (TT := []) (f := 60) Tryz.func60 (ent_of Tryz.func60 (by kernel_rfl) rfl) (Eq.mpr (by kernel_rfl) hV)
/-- windrose/lookup.Drop -/
def V61 (la : Option Addr) (ln lc : Nat) (ta : Option Addr) (tn tc : Nat) (w : World) (R : Value → World → Prop) : Prop :=
 ∀ (b : Nat) (w1 : World), b = w.heap.size → w1 = w.alloc (.cells #[.slice la ln lc] 25) →
 (∀ (b2 : Nat) (w2 : World), b2 = w1.heap.size → w2 = w1.alloc (.cells #[.slice none 0 0] 25) →
 (∃ (x1a : Option Addr) (x1n x1c : Nat), w2.cell? (Addr.mk b 0 none) = some (.slice x1a x1n x1c) ∧
 (Cl Tryz.prog 73 #[.agg #[.slice x1a x1n x1c]] w2 fun v w3 => ∃ (x2 : Int), v = .int .i64 x2 ∧
 (cond (x2 != 0) ((w3.cell? (Addr.mk b2 0 none)).isSome = true ∧ w3.frozen? (Addr.mk b2 0 none) = false ∧
 (∀ w4 : World, w4 = w3.setCell (Addr.mk b2 0 none) (.slice none 0 0) →
 (∃ (ra : Option Addr) (rn rc : Nat), w4.cell? (Addr.mk b2 0 none) = some (.slice ra rn rc) ∧ (R (.tuple #[.agg #[.slice ra rn rc], .int .i64 x2]) w4)))) (∃ (x3a : Option Addr) (x3n x3c : Nat), w3.cell? (Addr.mk b 0 none) = some (.slice x3a x3n x3c) ∧
 (Cl Tryz.prog 107 #[.agg #[.slice x3a x3n x3c], .slice ta tn tc] w3 fun v2 w5 => ∃ (x4 : Int), v2 = .int .i64 x4 ∧
 (cond (decide (x4 < 0)) ((w5.cell? (Addr.mk b2 0 none)).isSome = true ∧ w5.frozen? (Addr.mk b2 0 none) = false ∧
 (∀ w6 : World, w6 = w5.setCell (Addr.mk b2 0 none) (.slice none 0 0) →
 (∃ (r2a : Option Addr) (r2n r2c : Nat), w6.cell? (Addr.mk b2 0 none) = some (.slice r2a r2n r2c) ∧ (R (.tuple #[.agg #[.slice r2a r2n r2c], .int .i64 4]) w6)))) (∃ (x5a : Option Addr) (x5n x5c : Nat), w5.cell? (Addr.mk b 0 none) = some (.slice x5a x5n x5c) ∧
 (Cl Tryz.prog 108 #[.slice x5a x5n x5c] w5 fun v3 w7 => ∃ (x6a : Option Addr) (x6n x6c : Nat), v3 = .slice x6a x6n x6c ∧
 (∀ (b3 : Nat) (w8 : World), b3 = w7.heap.size → w8 = w7.alloc (.cells #[.slice none 0 0] 25) → ((w8.cell? (Addr.mk b3 0 none)).isSome = true ∧ w8.frozen? (Addr.mk b3 0 none) = false ∧
 (∀ w9 : World, w9 = w8.setCell (Addr.mk b3 0 none) (.slice x6a x6n x6c) →
 (∃ (x7a : Option Addr) (x7n x7c : Nat), w9.cell? (Addr.mk b3 0 none) = some (.slice x7a x7n x7c) ∧
 (∃ (Jv : Int → World → Prop) (mu : Int → World → Nat), Jv 0 w9 ∧ ∀ (jk_ : Nat → Value) (w10 : World), ∀ (s30 : Int), Jv s30 w10 →
 (cond (decide (s30 < (x7n : Int))) (∃ p : Addr, x7a = some p ∧ 0 ≤ s30 ∧ s30 < (x7n : Int) ∧
 (∃ (x8 : Int) (x9a : Option Addr) (x9n x9c : Nat) (x10 : Int), w10.cell? (p.add ((s30).toNat * 3)) = some (.int .i64 x8) ∧ w10.cell? ((p.add ((s30).toNat * 3)).add 1) = some (.slice x9a x9n x9c) ∧ w10.cell? ((p.add ((s30).toNat * 3)).add 2) = some (.int .i64 x10) ∧
 (∀ (b4 : Nat) (w11 : World), b4 = w10.heap.size → w11 = w10.alloc (.cells #[.int .i64 0, .slice none 0 0, .int .i64 0] 94) → ((w11.cell? (Addr.mk b4 0 none)).isSome = true ∧ w11.frozen? (Addr.mk b4 0 none) = false ∧ ((w11.cell? ((Addr.mk b4 0 none).add 1)).isSome = true ∧ w11.frozen? ((Addr.mk b4 0 none).add 1) = false ∧ ((w11.cell? ((Addr.mk b4 0 none).add 2)).isSome = true ∧ w11.frozen? ((Addr.mk b4 0 none).add 2) = false ∧
 (∀ w12 : World, w12 = ((w11.setCell (Addr.mk b4 0 none) (.int .i64 x8)).setCell ((Addr.mk b4 0 none).add 1) (.slice x9a x9n x9c)).setCell ((Addr.mk b4 0 none).add 2) (.int .i64 x10) →
 (∀ w13 : World, w13 = w12.drew →
 (∃ (x11a : Option Addr) (x11n x11c : Nat), w13.cell? (Addr.mk b3 0 none) = some (.slice x11a x11n x11c) ∧
 (∃ (x12a : Option Addr) (x12n x12c : Nat), w13.cell? ((Addr.mk b4 0 none).add 1) = some (.slice x12a x12n x12c) ∧
 (Cl Tryz.prog 10 #[.slice x12a x12n x12c] w13 fun v4 w14 => ∃ (x13a : Option Addr) (x13n x13c : Nat), v4 = .slice x13a x13n x13c ∧ (w14.cell? (Addr.mk b3 0 none) = some (.slice x11a x11n x11c) ∧
 (∃ p2 : Addr, x11a = some p2 ∧ 0 ≤ s30 ∧ s30 < (x11n : Int) ∧ ((w14.cell? ((p2.add ((s30).toNat * 3)).add 1)).isSome = true ∧ w14.frozen? ((p2.add ((s30).toNat * 3)).add 1) = false ∧
 (∀ w15 : World, w15 = w14.setCell ((p2.add ((s30).toNat * 3)).add 1) (.slice x13a x13n x13c) → (Jv (IntKind.i64.wrap (s30 + 1)) w15 ∧ mu (IntKind.i64.wrap (s30 + 1)) w15 < mu s30 w10)))))))))))))))) (∃ (x14a : Option Addr) (x14n x14c : Nat), w10.cell? (Addr.mk b3 0 none) = some (.slice x14a x14n x14c) ∧
 (∃ p3 : Addr, x14a = some p3 ∧ 0 ≤ x4 ∧ x4 < (x14n : Int) ∧ ((w10.cell? (p3.add ((x4).toNat * 3))).isSome = true ∧ w10.frozen? (p3.add ((x4).toNat * 3)) = false ∧ ((w10.cell? ((p3.add ((x4).toNat * 3)).add 1)).isSome = true ∧ w10.frozen? ((p3.add ((x4).toNat * 3)).add 1) = false ∧ ((w10.cell? ((p3.add ((x4).toNat * 3)).add 2)).isSome = true ∧ w10.frozen? ((p3.add ((x4).toNat * 3)).add 2) = false ∧
 (∀ w16 : World, w16 = ((w10.setCell (p3.add ((x4).toNat * 3)) (.int .i64 2)).setCell ((p3.add ((x4).toNat * 3)).add 1) (.slice none 0 0)).setCell ((p3.add ((x4).toNat * 3)).add 2) (.int .i64 0) →
 (∃ (x15a : Option Addr) (x15n x15c : Nat), w16.cell? (Addr.mk b3 0 none) = some (.slice x15a x15n x15c) ∧ ((w16.cell? (Addr.mk b2 0 none)).isSome = true ∧ w16.frozen? (Addr.mk b2 0 none) = false ∧
 (∀ w17 : World, w17 = w16.setCell (Addr.mk b2 0 none) (.slice x15a x15n x15c) →
 (∃ (r3a : Option Addr) (r3n r3c : Nat), w17.cell? (Addr.mk b2 0 none) = some (.slice r3a r3n r3c) ∧ (R (.tuple #[.agg #[.slice r3a r3n r3c], .int .i64 0]) w17))))))))))))))))))))))))))
theorem c61 (la : Option Addr) (ln lc : Nat) (ta : Option Addr) (tn tc : Nat) {w : World} {R : Value → World → Prop} (hV : V61 la ln lc ta tn tc w R) : Cl Tryz.prog 61 #[.agg #[.slice la ln lc], .slice ta tn tc] w R :=
 fn_sound hmTryz (TT := []) (f := 61) Tryz.func61 (ent_of Tryz.func61 (by kernel_rfl) rfl) (Eq.mpr (by kernel_rfl) hV)
/-- windrose/graph.own -/
def V62 (ga : Option Addr) (gn gc : Nat) (g2a : Option Addr) (g2n g2c : Nat) (w : World) (R : Value → World → Prop) : Prop :=
 ∀ (b : Nat) (w1 : World), b = w.heap.size → w1 = w.alloc (.cells #[.slice ga gn gc, .slice g2a g2n g2c] 27) →
 (∀ (b2 : Nat) (w2 : World), b2 = w1.heap.size → w2 = w1.alloc (.cells #[.slice none 0 0, .slice none 0 0] 27) →
 (∀ w3 : World, w3 = w2.drew →
 (∃ (x1a : Option Addr) (x1n x1c : Nat), w3.cell? (Addr.mk b 0 none) = some (.slice x1a x1n x1c) ∧
 (∃ (x2a : Option Addr) (x2n x2c : Nat), w3.cell? ((Addr.mk b 0 none).add 1) = some (.slice x2a x2n x2c) ∧
 (Cl Tryz.prog 109 #[.slice x1a x1n x1c] w3 fun v w4 => ∃ (x3a : Option Addr) (x3n x3c : Nat), v = .slice x3a x3n x3c ∧ (w4.cell? ((Addr.mk b 0 none).add 1) = some (.slice x2a x2n x2c) ∧
 (Cl Tryz.prog 110 #[.slice x2a x2n x2c] w4 fun v2 w5 => ∃ (x4a : Option Addr) (x4n x4c : Nat), v2 = .slice x4a x4n x4c ∧ ((w5.cell? (Addr.mk b 0 none)).isSome = true ∧ w5.frozen? (Addr.mk b 0 none) = false ∧
 (∀ w6 : World, w6 = w5.setCell (Addr.mk b 0 none) (.slice x3a x3n x3c) → ((w6.cell? ((Addr.mk b 0 none).add 1)).isSome = true ∧ w6.frozen? ((Addr.mk b 0 none).add 1) = false ∧
 (∀ w7 : World, w7 = w6.setCell ((Addr.mk b 0 none).add 1) (.slice x4a x4n x4c) →
 (∃ (x5a : Option Addr) (x5n x5c : Nat), w7.cell? (Addr.mk b 0 none) = some (.slice x5a x5n x5c) ∧
 (∃ (Jm : Int → World → Prop), (∃ (Jv : Int → World → Prop) (mu : Int → World → Nat), Jv 0 w7 ∧ ∀ (jk_2 : Nat → Value) (w8 : World), ∀ (s202 : Int), Jv s202 w8 →
 (cond (decide (s202 < (x5n : Int))) (∃ p : Addr, x5a = some p ∧ 0 ≤ s202 ∧ s202 < (x5n : Int) ∧
 (∃ (x6 : Bool) (x7a : Option Addr) (x7n x7c : Nat) (x8a : Option Addr) (x8n x8c : Nat) (x9a : Option Addr) (x9n x9c : Nat), w8.cell? (p.add ((s202).toNat * 4)) = some (.bool x6) ∧ w8.cell? ((p.add ((s202).toNat * 4)).add 1) = some (.slice x7a x7n x7c) ∧ w8.cell? ((p.add ((s202).toNat * 4)).add 2) = some (.slice x8a x8n x8c) ∧ w8.cell? ((p.add ((s202).toNat * 4)).add 3) = some (.slice x9a x9n x9c) ∧
 (∀ (b3 : Nat) (w9 : World), b3 = w8.heap.size → w9 = w8.alloc (.cells #[.bool false, .slice none 0 0, .slice none 0 0, .slice none 0 0] 56) → ((w9.cell? (Addr.mk b3 0 none)).isSome = true ∧ w9.frozen? (Addr.mk b3 0 none) = false ∧ ((w9.cell? ((Addr.mk b3 0 none).add 1)).isSome = true ∧ w9.frozen? ((Addr.mk b3 0 none).add 1) = false ∧ ((w9.cell? ((Addr.mk b3 0 none).add 2)).isSome = true ∧ w9.frozen? ((Addr.mk b3 0 none).add 2) = false ∧ ((w9.cell? ((Addr.mk b3 0 none).add 3)).isSome = true ∧ w9.frozen? ((Addr.mk b3 0 none).add 3) = false ∧
 (∀ w10 : World, w10 = (((w9.setCell (Addr.mk b3 0 none) (.bool x6)).setCell ((Addr.mk b3 0 none).add 1) (.slice x7a x7n x7c)).setCell ((Addr.mk b3 0 none).add 2) (.slice x8a x8n x8c)).setCell ((Addr.mk b3 0 none).add 3) (.slice x9a x9n x9c) →
 (∀ w11 : World, w11 = w10.drew →
 (∃ (x10a : Option Addr) (x10n x10c : Nat), w11.cell? (Addr.mk b 0 none) = some (.slice x10a x10n x10c) ∧
 (∃ (x11a : Option Addr) (x11n x11c : Nat), w11.cell? (Addr.mk b 0 none) = some (.slice x11a x11n x11c) ∧
 (∃ (x12a : Option Addr) (x12n x12c : Nat), w11.cell? (Addr.mk b 0 none) = some (.slice x12a x12n x12c) ∧
 (∃ (x13a : Option Addr) (x13n x13c : Nat), w11.cell? ((Addr.mk b3 0 none).add 1) = some (.slice x13a x13n x13c) ∧
 (∃ (x14a : Option Addr) (x14n x14c : Nat), w11.cell? ((Addr.mk b3 0 none).add 2) = some (.slice x14a x14n x14c) ∧
 (∃ (x15a : Option Addr) (x15n x15c : Nat), w11.cell? ((Addr.mk b3 0 none).add 3) = some (.slice x15a x15n x15c) ∧
 (Cl Tryz.prog 69 #[.slice x13a x13n x13c] w11 fun v3 w12 => ∃ (x16a : Option Addr) (x16n x16c : Nat), v3 = .slice x16a x16n x16c ∧ (w12.cell? ((Addr.mk b3 0 none).add 3) = some (.slice x15a x15n x15c) ∧ w12.cell? ((Addr.mk b3 0 none).add 2) = some (.slice x14a x14n x14c) ∧ w12.cell? (Addr.mk b 0 none) = some (.slice x12a x12n x12c) ∧ w12.cell? (Addr.mk b 0 none) = some (.slice x11a x11n x11c) ∧ w12.cell? (Addr.mk b 0 none) = some (.slice x10a x10n x10c) ∧
 (Cl Tryz.prog 111 #[.slice x14a x14n x14c] w12 fun v4 w13 => ∃ (x17a : Option Addr) (x17n x17c : Nat), v4 = .slice x17a x17n x17c ∧ (w13.cell? ((Addr.mk b3 0 none).add 3) = some (.slice x15a x15n x15c) ∧ w13.cell? (Addr.mk b 0 none) = some (.slice x12a x12n x12c) ∧ w13.cell? (Addr.mk b 0 none) = some (.slice x11a x11n x11c) ∧ w13.cell? (Addr.mk b 0 none) = some (.slice x10a x10n x10c) ∧
 (Cl Tryz.prog 111 #[.slice x15a x15n x15c] w13 fun v5 w14 => ∃ (x18a : Option Addr) (x18n x18c : Nat), v5 = .slice x18a x18n x18c ∧ (w14.cell? (Addr.mk b 0 none) = some (.slice x12a x12n x12c) ∧ w14.cell? (Addr.mk b 0 none) = some (.slice x11a x11n x11c) ∧ w14.cell? (Addr.mk b 0 none) = some (.slice x10a x10n x10c) ∧
 (∃ p2 : Addr, x10a = some p2 ∧ 0 ≤ s202 ∧ s202 < (x10n : Int) ∧ ((w14.cell? ((p2.add ((s202).toNat * 4)).add 1)).isSome = true ∧ w14.frozen? ((p2.add ((s202).toNat * 4)).add 1) = false ∧
 (∀ w15 : World, w15 = w14.setCell ((p2.add ((s202).toNat * 4)).add 1) (.slice x16a x16n x16c) → (w15.cell? (Addr.mk b 0 none) = some (.slice x12a x12n x12c) ∧ w15.cell? (Addr.mk b 0 none) = some (.slice x11a x11n x11c) ∧
 (∃ p3 : Addr, x11a = some p3 ∧ 0 ≤ s202 ∧ s202 < (x11n : Int) ∧ ((w15.cell? ((p3.add ((s202).toNat * 4)).add 2)).isSome = true ∧ w15.frozen? ((p3.add ((s202).toNat * 4)).add 2) = false ∧
 (∀ w16 : World, w16 = w15.setCell ((p3.add ((s202).toNat * 4)).add 2) (.slice x17a x17n x17c) → (w16.cell? (Addr.mk b 0 none) = some (.slice x12a x12n x12c) ∧
 (∃ p4 : Addr, x12a = some p4 ∧ 0 ≤ s202 ∧ s202 < (x12n : Int) ∧ ((w16.cell? ((p4.add ((s202).toNat * 4)).add 3)).isSome = true ∧ w16.frozen? ((p4.add ((s202).toNat * 4)).add 3) = false ∧
 (∀ w17 : World, w17 = w16.setCell ((p4.add ((s202).toNat * 4)).add 3) (.slice x18a x18n x18c) → (Jv (IntKind.i64.wrap (s202 + 1)) w17 ∧ mu (IntKind.i64.wrap (s202 + 1)) w17 < mu s202 w8))))))))))))))))))))))))))))))))) (Jm s202 w8))) ∧ ∀ (jk_ : Nat → Value) (w18 : World), ∀ (s20 : Int), Jm s20 w18 →
 (∃ (x19a : Option Addr) (x19n x19c : Nat), w18.cell? ((Addr.mk b 0 none).add 1) = some (.slice x19a x19n x19c) ∧
 (∃ (Jv2 : Int → World → Prop) (mu2 : Int → World → Nat), Jv2 0 w18 ∧ ∀ (jk_3 : Nat → Value) (w19 : World), ∀ (s54 : Int), Jv2 s54 w19 →
 (cond (decide (s54 < (x19n : Int))) (∃ p5 : Addr, x19a = some p5 ∧ 0 ≤ s54 ∧ s54 < (x19n : Int) ∧
 (∃ (x20 : Int) (x21a : Option Addr) (x21n x21c : Nat) (x22 : Int), w19.cell? (p5.add ((s54).toNat * 3)) = some (.int .i64 x20) ∧ w19.cell? ((p5.add ((s54).toNat * 3)).add 1) = some (.slice x21a x21n x21c) ∧ w19.cell? ((p5.add ((s54).toNat * 3)).add 2) = some (.int .i64 x22) ∧
 (∀ (b4 : Nat) (w20 : World), b4 = w19.heap.size → w20 = w19.alloc (.cells #[.int .i64 0, .slice none 0 0, .int .i64 0] 94) → ((w20.cell? (Addr.mk b4 0 none)).isSome = true ∧ w20.frozen? (Addr.mk b4 0 none) = false ∧ ((w20.cell? ((Addr.mk b4 0 none).add 1)).isSome = true ∧ w20.frozen? ((Addr.mk b4 0 none).add 1) = false ∧ ((w20.cell? ((Addr.mk b4 0 none).add 2)).isSome = true ∧ w20.frozen? ((Addr.mk b4 0 none).add 2) = false ∧
 (∀ w21 : World, w21 = ((w20.setCell (Addr.mk b4 0 none) (.int .i64 x20)).setCell ((Addr.mk b4 0 none).add 1) (.slice x21a x21n x21c)).setCell ((Addr.mk b4 0 none).add 2) (.int .i64 x22) →
 (∀ w22 : World, w22 = w21.drew →
 (∃ (x23a : Option Addr) (x23n x23c : Nat), w22.cell? ((Addr.mk b 0 none).add 1) = some (.slice x23a x23n x23c) ∧
 (∃ (x24a : Option Addr) (x24n x24c : Nat), w22.cell? ((Addr.mk b4 0 none).add 1) = some (.slice x24a x24n x24c) ∧
 (Cl Tryz.prog 69 #[.slice x24a x24n x24c] w22 fun v6 w23 => ∃ (x25a : Option Addr) (x25n x25c : Nat), v6 = .slice x25a x25n x25c ∧ (w23.cell? ((Addr.mk b 0 none).add 1) = some (.slice x23a x23n x23c) ∧
 (∃ p6 : Addr, x23a = some p6 ∧ 0 ≤ s54 ∧ s54 < (x23n : Int) ∧ ((w23.cell? ((p6.add ((s54).toNat * 3)).add 1)).isSome = true ∧ w23.frozen? ((p6.add ((s54).toNat * 3)).add 1) = false ∧
 (∀ w24 : World, w24 = w23.setCell ((p6.add ((s54).toNat * 3)).add 1) (.slice x25a x25n x25c) → (Jv2 (IntKind.i64.wrap (s54 + 1)) w24 ∧ mu2 (IntKind.i64.wrap (s54 + 1)) w24 < mu2 s54 w19)))))))))))))))) (∃ (x26a : Option Addr) (x26n x26c : Nat) (x27a : Option Addr) (x27n x27c : Nat), w19.cell? (Addr.mk b 0 none) = some (.slice x26a x26n x26c) ∧ w19.cell? ((Addr.mk b 0 none).add 1) = some (.slice x27a x27n x27c) ∧ ((w19.cell? (Addr.mk b2 0 none)).isSome = true ∧ w19.frozen? (Addr.mk b2 0 none) = false ∧ ((w19.cell? ((Addr.mk b2 0 none).add 1)).isSome = true ∧ w19.frozen? ((Addr.mk b2 0 none).add 1) = false ∧
 (∀ w25 : World, w25 = (w19.setCell (Addr.mk b2 0 none) (.slice x26a x26n x26c)).setCell ((Addr.mk b2 0 none).add 1) (.slice x27a x27n x27c) →
 (∃ (ra : Option Addr) (rn rc : Nat) (r2a : Option Addr) (r2n r2c : Nat), w25.cell? (Addr.mk b2 0 none) = some (.slice ra rn rc) ∧ w25.cell? ((Addr.mk b2 0 none).add 1) = some (.slice r2a r2n r2c) ∧ (R (.agg #[.slice ra rn rc, .slice r2a r2n r2c]) w25))))))))))))))))))))))
theorem c62 (ga : Option Addr) (gn gc : Nat) (g2a : Option Addr) (g2n g2c : Nat) {w : World} {R : Value → World → Prop} (hV : V62 ga gn gc g2a g2n g2c w R) : Cl Tryz.prog 62 #[.agg #[.slice ga gn gc, .slice g2a g2n g2c]] w R :=
 fn_sound hmTryz (TT := []) (f := 62) Tryz.func62 (ent_of Tryz.func62 (by kernel_rfl) rfl) (Eq.mpr (by kernel_rfl) hV)
/-- windrose/graph.Drop$1 -/
def V63 (s s2 : Int) (cap0 : Addr) (w : World) (R : Value → World → Prop) : Prop :=
 ∀ (b : Nat) (w1 : World), b = w.heap.size → w1 = w.alloc (.cells #[.int .u64 s, .int .i64 s2] 71) →
 (∃ (x1 : Int), w1.cell? ((Addr.mk b 0 none).add 1) = some (.int .i64 x1) ∧
 (∃ (x2 : Int), w1.cell? cap0 = some (.int .i64 x2) ∧ (R (.bool (x1 == x2)) w1)))
theorem c63 (s s2 : Int) (cap0 : Addr) {w : World} {R : Value → World → Prop} (hV : V63 s s2 cap0 w R) : Cl Tryz.prog 63 #[.agg #[.int .u64 s, .int .i64 s2], .pointer (some cap0)] w R :=
 fn_sound hmTryz (TT := []) (f := 63) Tryz.func63 (ent_of Tryz.func63 (by kernel_rfl) rfl) (Eq.mpr (by kernel_rfl) hV)
/-- slices.DeleteFunc[[]windrose/api.Step,windrose/api.Step] -/
def V64 (sa : Option Addr) (sn sc : Nat) (delf : FuncId) (delc : List Value) (w : World) (R : Value → World → Prop) : Prop :=
 Cl Tryz.prog 112 #[.slice sa sn sc, .func (.func delf) #[] delc.toArray] w fun v w1 => ∃ (x1 : Int), v = .int .i64 x1 ∧
 (cond (x1 == (-1)) (R (.slice sa sn sc) w1) (∃ (Jv : Int → Int → World → Prop) (mu : Int → Int → World → Nat), Jv x1 (IntKind.i64.wrap (x1 + 1)) w1 ∧ ∀ (jk_ : Nat → Value) (w2 : World), ∀ (i j : Int), Jv i j w2 →
 (cond (decide (j < (sn : Int))) (∃ p : Addr, sa = some p ∧ 0 ≤ j ∧ j < (sn : Int) ∧
 (∃ (x2 x3 : Int), w2.cell? (p.add ((j).toNat * 2)) = some (.int .u64 x2) ∧ w2.cell? ((p.add ((j).toNat * 2)).add 1) = some (.int .i64 x3) ∧
 (∀ (b : Nat) (w3 : World), b = w2.heap.size → w3 = w2.alloc (.cells #[.int .u64 0, .int .i64 0] 71) → ((w3.cell? (Addr.mk b 0 none)).isSome = true ∧ w3.frozen? (Addr.mk b 0 none) = false ∧ ((w3.cell? ((Addr.mk b 0 none).add 1)).isSome = true ∧ w3.frozen? ((Addr.mk b 0 none).add 1) = false ∧
 (∀ w4 : World, w4 = (w3.setCell (Addr.mk b 0 none) (.int .u64 x2)).setCell ((Addr.mk b 0 none).add 1) (.int .i64 x3) →
 (∃ (x4 x5 : Int), w4.cell? (Addr.mk b 0 none) = some (.int .u64 x4) ∧ w4.cell? ((Addr.mk b 0 none).add 1) = some (.int .i64 x5) ∧
 (Cl Tryz.prog delf (([.agg #[.int .u64 x4, .int .i64 x5]] : List Value) ++ delc).toArray w4 fun v2 w5 => ∃ (x6 : Bool), v2 = .bool x6 ∧
 (cond (!x6) (∃ (x7 x8 : Int), w5.cell? (Addr.mk b 0 none) = some (.int .u64 x7) ∧ w5.cell? ((Addr.mk b 0 none).add 1) = some (.int .i64 x8) ∧
 (∃ p2 : Addr, sa = some p2 ∧ 0 ≤ i ∧ i < (sn : Int) ∧ ((w5.cell? (p2.add ((i).toNat * 2))).isSome = true ∧ w5.frozen? (p2.add ((i).toNat * 2)) = false ∧ ((w5.cell? ((p2.add ((i).toNat * 2)).add 1)).isSome = true ∧ w5.frozen? ((p2.add ((i).toNat * 2)).add 1) = false ∧
 (∀ w6 : World, w6 = (w5.setCell (p2.add ((i).toNat * 2)) (.int .u64 x7)).setCell ((p2.add ((i).toNat * 2)).add 1) (.int .i64 x8) → (Jv (IntKind.i64.wrap (i + 1)) (IntKind.i64.wrap (j + 1)) w6 ∧ mu (IntKind.i64.wrap (i + 1)) (IntKind.i64.wrap (j + 1)) w6 < mu i j w2)))))) (Jv i (IntKind.i64.wrap (j + 1)) w5 ∧ mu i (IntKind.i64.wrap (j + 1)) w5 < mu i j w2)))))))))) (0 ≤ i ∧ i ≤ (sn : Int) ∧
 (∃ (w7 : World), Sem.run Tryz.prog (Builtin.clear_ #[54] 0 #[.slice (offA sa (((sc : Int)).toNat) ((i).toNat) 2) (((sn : Int)).toNat - (i).toNat) (((sc : Int)).toNat - (i).toNat)]) w2 = .ok (.tuple #[]) w7 ∧ (0 ≤ i ∧ i ≤ (sc : Int) ∧ (R (.slice sa ((i).toNat) (((sc : Int)).toNat)) w7)))))))
theorem c64 (sa : Option Addr) (sn sc : Nat) (delf : FuncId) (delc : List Value) {w : World} {R : Value → World → Prop} (hV : V64 sa sn sc delf delc w R) : Cl Tryz.prog 64 #[.slice sa sn sc, .func (.func delf) #[] delc.toArray] w R :=
 fn_sound hmTryz (TT := []) (f := 64) Tryz.func64 (ent_of Tryz.func64 (by kernel_rfl) rfl) (Eq.mpr (by kernel_rfl) hV)
/-- windrose/windroseref12.away -/
def V65 (la : Option Addr) (ln lc : Nat) (n : Int) (w : World) (R : Value → World → Prop) : Prop :=
 ∃ (Jv : Option Addr → Nat → Nat → Int → World → Prop) (mu : Option Addr → Nat → Nat → Int → World → Nat), Jv none 0 0 0 w ∧ ∀ (jk_ : Nat → Value) (w1 : World), ∀ (outa : Option Addr) (outn outc : Nat) (s10 : Int), Jv outa outn outc s10 w1 →
 (cond (decide (s10 < (ln : Int))) (∃ p : Addr, la = some p ∧ 0 ≤ s10 ∧ s10 < (ln : Int) ∧
 (∃ (x1 x2 : Int), w1.cell? (p.add ((s10).toNat * 2)) = some (.int .u64 x1) ∧ w1.cell? ((p.add ((s10).toNat * 2)).add 1) = some (.int .i64 x2) ∧
 (∀ (b : Nat) (w2 : World), b = w1.heap.size → w2 = w1.alloc (.cells #[.int .u64 0, .int .i64 0] 71) → ((w2.cell? (Addr.mk b 0 none)).isSome = true ∧ w2.frozen? (Addr.mk b 0 none) = false ∧ ((w2.cell? ((Addr.mk b 0 none).add 1)).isSome = true ∧ w2.frozen? ((Addr.mk b 0 none).add 1) = false ∧
 (∀ w3 : World, w3 = (w2.setCell (Addr.mk b 0 none) (.int .u64 x1)).setCell ((Addr.mk b 0 none).add 1) (.int .i64 x2) →
 (∃ (x3 : Int), w3.cell? ((Addr.mk b 0 none).add 1) = some (.int .i64 x3) ∧
 (cond (x3 != n) (∃ (x4 x5 : Int), w3.cell? (Addr.mk b 0 none) = some (.int .u64 x4) ∧ w3.cell? ((Addr.mk b 0 none).add 1) = some (.int .i64 x5) ∧
 (∀ (b2 : Nat) (w4 : World), b2 = w3.heap.size → w4 = w3.alloc (.cells #[.int .u64 x4, .int .i64 x5] 71) →
 (∃ (x6a : Option Addr) (x6n x6c : Nat) (w5 : World), Sem.run Tryz.prog (Builtin.append_ #[54, 54] 54 #[.slice outa outn outc, .slice (some (Addr.mk b2 0 none)) 1 1]) w4 = .ok (.slice x6a x6n x6c) w5 ∧ (Jv x6a x6n x6c (IntKind.i64.wrap (s10 + 1)) w5 ∧ mu x6a x6n x6c (IntKind.i64.wrap (s10 + 1)) w5 < mu outa outn outc s10 w1)))) (Jv outa outn outc (IntKind.i64.wrap (s10 + 1)) w3 ∧ mu outa outn outc (IntKind.i64.wrap (s10 + 1)) w3 < mu outa outn outc s10 w1))))))))) (R (.slice outa outn outc) w1))
theorem c65 (la : Option Addr) (ln lc : Nat) (n : Int) {w : World} {R : Value → World → Prop} (hV : V65 la ln lc n w R) : Cl Tryz.prog 65 #[.slice la ln lc, .int .i64 n] w R :=
 fn_sound hmTryz (TT := []) (f := 65) Tryz.func65 (ent_of Tryz.func65 (by kernel_rfl) rfl) (Eq.mpr (by kernel_rfl) hV)
/-- windrose/windroseref12.Same -/
def V66 (aa : Option Addr) (an ac : Nat) (ba : Option Addr) (bn bc : Nat) (w : World) (R : Value → World → Prop) : Prop :=
 cond ((an : Int) != (bn : Int)) (R (.bool false) w) (∃ (Jv : Bool → Int → World → Prop) (mu : Bool → Int → World → Nat), Jv false 0 w ∧ ∀ (jk_ : Nat → Value) (w1 : World), ∀ (s4 : Bool) (s15 : Int), Jv s4 s15 w1 →
 (cond (decide (s15 < (an : Int))) (∃ p : Addr, aa = some p ∧ 0 ≤ s15 ∧ s15 < (an : Int) ∧
 (∃ (x1 : Bool) (x2a : Option Addr) (x2n x2c : Nat) (x3a : Option Addr) (x3n x3c : Nat) (x4a : Option Addr) (x4n x4c : Nat), w1.cell? (p.add ((s15).toNat * 4)) = some (.bool x1) ∧ w1.cell? ((p.add ((s15).toNat * 4)).add 1) = some (.slice x2a x2n x2c) ∧ w1.cell? ((p.add ((s15).toNat * 4)).add 2) = some (.slice x3a x3n x3c) ∧ w1.cell? ((p.add ((s15).toNat * 4)).add 3) = some (.slice x4a x4n x4c) ∧
 (∀ (b2 : Nat) (w2 : World), b2 = w1.heap.size → w2 = w1.alloc (.cells #[.bool false, .slice none 0 0, .slice none 0 0, .slice none 0 0] 56) → ((w2.cell? (Addr.mk b2 0 none)).isSome = true ∧ w2.frozen? (Addr.mk b2 0 none) = false ∧ ((w2.cell? ((Addr.mk b2 0 none).add 1)).isSome = true ∧ w2.frozen? ((Addr.mk b2 0 none).add 1) = false ∧ ((w2.cell? ((Addr.mk b2 0 none).add 2)).isSome = true ∧ w2.frozen? ((Addr.mk b2 0 none).add 2) = false ∧ ((w2.cell? ((Addr.mk b2 0 none).add 3)).isSome = true ∧ w2.frozen? ((Addr.mk b2 0 none).add 3) = false ∧
 (∀ w3 : World, w3 = (((w2.setCell (Addr.mk b2 0 none) (.bool x1)).setCell ((Addr.mk b2 0 none).add 1) (.slice x2a x2n x2c)).setCell ((Addr.mk b2 0 none).add 2) (.slice x3a x3n x3c)).setCell ((Addr.mk b2 0 none).add 3) (.slice x4a x4n x4c) →
 (∃ p2 : Addr, ba = some p2 ∧ 0 ≤ s15 ∧ s15 < (bn : Int) ∧
 (∃ (x5 : Bool) (x6a : Option Addr) (x6n x6c : Nat) (x7a : Option Addr) (x7n x7c : Nat) (x8a : Option Addr) (x8n x8c : Nat), w3.cell? (p2.add ((s15).toNat * 4)) = some (.bool x5) ∧ w3.cell? ((p2.add ((s15).toNat * 4)).add 1) = some (.slice x6a x6n x6c) ∧ w3.cell? ((p2.add ((s15).toNat * 4)).add 2) = some (.slice x7a x7n x7c) ∧ w3.cell? ((p2.add ((s15).toNat * 4)).add 3) = some (.slice x8a x8n x8c) ∧
 (∀ (b3 : Nat) (w4 : World), b3 = w3.heap.size → w4 = w3.alloc (.cells #[.bool false, .slice none 0 0, .slice none 0 0, .slice none 0 0] 56) → ((w4.cell? (Addr.mk b3 0 none)).isSome = true ∧ w4.frozen? (Addr.mk b3 0 none) = false ∧ ((w4.cell? ((Addr.mk b3 0 none).add 1)).isSome = true ∧ w4.frozen? ((Addr.mk b3 0 none).add 1) = false ∧ ((w4.cell? ((Addr.mk b3 0 none).add 2)).isSome = true ∧ w4.frozen? ((Addr.mk b3 0 none).add 2) = false ∧ ((w4.cell? ((Addr.mk b3 0 none).add 3)).isSome = true ∧ w4.frozen? ((Addr.mk b3 0 none).add 3) = false ∧
 (∀ w5 : World, w5 = (((w4.setCell (Addr.mk b3 0 none) (.bool x5)).setCell ((Addr.mk b3 0 none).add 1) (.slice x6a x6n x6c)).setCell ((Addr.mk b3 0 none).add 2) (.slice x7a x7n x7c)).setCell ((Addr.mk b3 0 none).add 3) (.slice x8a x8n x8c) →
 (∃ (x9 : Bool), w5.cell? (Addr.mk b2 0 none) = some (.bool x9) ∧
 (∃ (x10 : Bool), w5.cell? (Addr.mk b3 0 none) = some (.bool x10) ∧
 (cond (!(x9 == x10)) (R (.bool false) w5) (∃ (x11a : Option Addr) (x11n x11c : Nat), w5.cell? ((Addr.mk b2 0 none).add 1) = some (.slice x11a x11n x11c) ∧
 (∃ (x12a : Option Addr) (x12n x12c : Nat), w5.cell? ((Addr.mk b3 0 none).add 1) = some (.slice x12a x12n x12c) ∧
 (Cl Tryz.prog 89 #[.slice x11a x11n x11c, .slice x12a x12n x12c] w5 fun v w6 => ∃ (x13 : Bool), v = .bool x13 ∧
 (cond (!x13) (R (.bool false) w6) (∃ (x14a : Option Addr) (x14n x14c : Nat), w6.cell? ((Addr.mk b2 0 none).add 2) = some (.slice x14a x14n x14c) ∧
 (∃ (x15a : Option Addr) (x15n x15c : Nat), w6.cell? ((Addr.mk b3 0 none).add 2) = some (.slice x15a x15n x15c) ∧
 (Cl Tryz.prog 113 #[.slice x14a x14n x14c, .slice x15a x15n x15c] w6 fun v2 w7 => ∃ (x16 : Bool), v2 = .bool x16 ∧
 (cond (!x16) (R (.bool false) w7) (∃ (x17a : Option Addr) (x17n x17c : Nat), w7.cell? ((Addr.mk b2 0 none).add 3) = some (.slice x17a x17n x17c) ∧
 (∃ (x18a : Option Addr) (x18n x18c : Nat), w7.cell? ((Addr.mk b3 0 none).add 3) = some (.slice x18a x18n x18c) ∧
 (Cl Tryz.prog 113 #[.slice x17a x17n x17c, .slice x18a x18n x18c] w7 fun v3 w8 => ∃ (x19 : Bool), v3 = .bool x19 ∧
 (cond (!x19) (R (.bool false) w8) (Jv s4 (IntKind.i64.wrap (s15 + 1)) w8 ∧ mu s4 (IntKind.i64.wrap (s15 + 1)) w8 < mu s4 s15 w1)))))))))))))))))))))))))))))))) (R (.bool true) w1)))
theorem c66 (aa : Option Addr) (an ac : Nat) (ba : Option Addr) (bn bc : Nat) {w : World} {R : Value → World → Prop} (hV : V66 aa an ac ba bn bc w R) : Cl Tryz.prog 66 #[.slice aa an ac, .slice ba bn bc] w R :=
 fn_sound hmTryz (TT := []) (f := 66) Tryz.func66 (ent_of Tryz.func66 (by kernel_rfl) rfl) (Eq.mpr (by kernel_rfl) hV)
/-- slices.EqualFunc[[]windrose/api.Entry,[]windrose/api.Entry,windrose/api.Entry,windrose/api.Entry] -/
def V67 (s1a : Option Addr) (s1n s1c : Nat) (s2a : Option Addr) (s2n s2c : Nat) (eqf : FuncId) (eqc : List Value) (w : World) (R : Value → World → Prop) : Prop :=
 cond ((s1n : Int) != (s2n : Int)) (R (.bool false) w) (∃ (Jv : Bool → Int → World → Prop) (mu : Bool → Int → World → Nat), Jv false 0 w ∧ ∀ (jk_ : Nat → Value) (w1 : World), ∀ (s6 : Bool) (s17 : Int), Jv s6 s17 w1 →
 (cond (decide (s17 < (s1n : Int))) (∃ p : Addr, s1a = some p ∧ 0 ≤ s17 ∧ s17 < (s1n : Int) ∧
 (∃ (x1 : Int) (x2a : Option Addr) (x2n x2c : Nat) (x3 : Int), w1.cell? (p.add ((s17).toNat * 3)) = some (.int .i64 x1) ∧ w1.cell? ((p.add ((s17).toNat * 3)).add 1) = some (.slice x2a x2n x2c) ∧ w1.cell? ((p.add ((s17).toNat * 3)).add 2) = some (.int .i64 x3) ∧
 (∀ (b : Nat) (w2 : World), b = w1.heap.size → w2 = w1.alloc (.cells #[.int .i64 0, .slice none 0 0, .int .i64 0] 94) → ((w2.cell? (Addr.mk b 0 none)).isSome = true ∧ w2.frozen? (Addr.mk b 0 none) = false ∧ ((w2.cell? ((Addr.mk b 0 none).add 1)).isSome = true ∧ w2.frozen? ((Addr.mk b 0 none).add 1) = false ∧ ((w2.cell? ((Addr.mk b 0 none).add 2)).isSome = true ∧ w2.frozen? ((Addr.mk b 0 none).add 2) = false ∧
 (∀ w3 : World, w3 = ((w2.setCell (Addr.mk b 0 none) (.int .i64 x1)).setCell ((Addr.mk b 0 none).add 1) (.slice x2a x2n x2c)).setCell ((Addr.mk b 0 none).add 2) (.int .i64 x3) →
 (∃ p2 : Addr, s2a = some p2 ∧ 0 ≤ s17 ∧ s17 < (s2n : Int) ∧
 (∃ (x4 : Int) (x5a : Option Addr) (x5n x5c : Nat) (x6 : Int), w3.cell? (p2.add ((s17).toNat * 3)) = some (.int .i64 x4) ∧ w3.cell? ((p2.add ((s17).toNat * 3)).add 1) = some (.slice x5a x5n x5c) ∧ w3.cell? ((p2.add ((s17).toNat * 3)).add 2) = some (.int .i64 x6) ∧
 (∀ (b2 : Nat) (w4 : World), b2 = w3.heap.size → w4 = w3.alloc (.cells #[.int .i64 0, .slice none 0 0, .int .i64 0] 94) → ((w4.cell? (Addr.mk b2 0 none)).isSome = true ∧ w4.frozen? (Addr.mk b2 0 none) = false ∧ ((w4.cell? ((Addr.mk b2 0 none).add 1)).isSome = true ∧ w4.frozen? ((Addr.mk b2 0 none).add 1) = false ∧ ((w4.cell? ((Addr.mk b2 0 none).add 2)).isSome = true ∧ w4.frozen? ((Addr.mk b2 0 none).add 2) = false ∧
 (∀ w5 : World, w5 = ((w4.setCell (Addr.mk b2 0 none) (.int .i64 x4)).setCell ((Addr.mk b2 0 none).add 1) (.slice x5a x5n x5c)).setCell ((Addr.mk b2 0 none).add 2) (.int .i64 x6) →
 (∃ (x7 : Int) (x8a : Option Addr) (x8n x8c : Nat) (x9 : Int), w5.cell? (Addr.mk b 0 none) = some (.int .i64 x7) ∧ w5.cell? ((Addr.mk b 0 none).add 1) = some (.slice x8a x8n x8c) ∧ w5.cell? ((Addr.mk b 0 none).add 2) = some (.int .i64 x9) ∧
 (∃ (x10 : Int) (x11a : Option Addr) (x11n x11c : Nat) (x12 : Int), w5.cell? (Addr.mk b2 0 none) = some (.int .i64 x10) ∧ w5.cell? ((Addr.mk b2 0 none).add 1) = some (.slice x11a x11n x11c) ∧ w5.cell? ((Addr.mk b2 0 none).add 2) = some (.int .i64 x12) ∧
 (Cl Tryz.prog eqf (([.agg #[.int .i64 x7, .slice x8a x8n x8c, .int .i64 x9], .agg #[.int .i64 x10, .slice x11a x11n x11c, .int .i64 x12]] : List Value) ++ eqc).toArray w5 fun v w6 => ∃ (x13 : Bool), v = .bool x13 ∧
 (cond (!x13) (R (.bool false) w6) (Jv s6 (IntKind.i64.wrap (s17 + 1)) w6 ∧ mu s6 (IntKind.i64.wrap (s17 + 1)) w6 < mu s6 s17 w1))))))))))))))))))) (R (.bool true) w1)))
theorem c67 (s1a : Option Addr) (s1n s1c : Nat) (s2a : Option Addr) (s2n s2c : Nat) (eqf : FuncId) (eqc : List Value) {w : World} {R : Value → World → Prop} (hV : V67 s1a s1n s1c s2a s2n s2c eqf eqc w R) : Cl Tryz.prog 67 #[.slice s1a s1n s1c, .slice s2a s2n s2c, .func (.func eqf) #[] eqc.toArray] w R :=
 fn_sound hmTryz (TT := []) (f := 67) Tryz.func67 (ent_of Tryz.func67 (by kernel_rfl) rfl) (Eq.mpr (by kernel_rfl) hV)
/-- windrose/windroselaw12.same$1 -/
def V68 (s : Int) (s2a : Option Addr) (s2n s2c : Nat) (s3 t : Int) (t2a : Option Addr) (t2n t2c : Nat) (t3 : Int) (w : World) (R : Value → World → Prop) : Prop :=
 ∀ (b : Nat) (w1 : World), b = w.heap.size → w1 = w.alloc (.cells #[.int .i64 s, .slice s2a s2n s2c, .int .i64 s3] 94) →
 (∀ (b2 : Nat) (w2 : World), b2 = w1.heap.size → w2 = w1.alloc (.cells #[.int .i64 t, .slice t2a t2n t2c, .int .i64 t3] 94) →
 (∃ (x1 : Int), w2.cell? (Addr.mk b 0 none) = some (.int .i64 x1) ∧
 (∃ (x2 : Int), w2.cell? (Addr.mk b2 0 none) = some (.int .i64 x2) ∧
 (cond (x1 == x2) (∃ (x3 : Int), w2.cell? ((Addr.mk b 0 none).add 2) = some (.int .i64 x3) ∧
 (∃ (x4 : Int), w2.cell? ((Addr.mk b2 0 none).add 2) = some (.int .i64 x4) ∧
 (cond (x3 == x4) (∃ (x5a : Option Addr) (x5n x5c : Nat), w2.cell? ((Addr.mk b 0 none).add 1) = some (.slice x5a x5n x5c) ∧
 (∃ (x6a : Option Addr) (x6n x6c : Nat), w2.cell? ((Addr.mk b2 0 none).add 1) = some (.slice x6a x6n x6c) ∧
 (Cl Tryz.prog 22 #[.slice x5a x5n x5c, .slice x6a x6n x6c] w2 fun v w3 => ∃ (x7 : Bool), v = .bool x7 ∧ (R (.bool x7) w3)))) (R (.bool false) w2)))) (R (.bool false) w2)))))
theorem c68 (s : Int) (s2a : Option Addr) (s2n s2c : Nat) (s3 t : Int) (t2a : Option Addr) (t2n t2c : Nat) (t3 : Int) {w : World} {R : Value → World → Prop} (hV : V68 s s2a s2n s2c s3 t t2a t2n t2c t3 w R) : Cl Tryz.prog 68 #[.agg #[.int .i64 s, .slice s2a s2n s2c, .int .i64 s3], .agg #[.int .i64 t, .slice t2a t2n t2c, .int .i64 t3]] w R :=
 fn_sound hmTryz (TT := []) (f := 68) Tryz.func68 (ent_of Tryz.func68 (by kernel_rfl) rfl) (Eq.mpr (by kernel_rfl) hV)
/-- windrose/graph.cloned[windrose/api.Id] -/
def V69 (la : Option Addr) (ln lc : Nat) (w : World) (R : Value → World → Prop) : Prop :=
 ∃ (x1a : Option Addr) (x1n x1c : Nat) (w1 : World), Sem.run Tryz.prog (Instr.makeSlice 33 (.int .i64 (ln : Int)) (.int .i64 (ln : Int))) w = .ok (.slice x1a x1n x1c) w1 ∧
 (∃ (n : Int) (w2 : World), Sem.run Tryz.prog (Builtin.copy_ #[33, 33] 3 #[.slice x1a x1n x1c, .slice la ln lc]) w1 = .ok (.int .i64 n) w2 ∧ (R (.slice x1a x1n x1c) w2))
theorem c69 (la : Option Addr) (ln lc : Nat) {w : World} {R : Value → World → Prop} (hV : V69 la ln lc w R) : Cl Tryz.prog 69 #[.slice la ln lc] w R :=
 fn_sound hmTryz (TT := []) (f := 69) Tryz.func69 (ent_of Tryz.func69 (by kernel_rfl) rfl) (Eq.mpr (by kernel_rfl) hV)
/-- windrose/types.may -/
def V70 (id : Int) (w : World) (R : Value → World → Prop) : Prop :=
 Cl Tryz.prog 114 #[.int .u64 id] w fun v w1 => ∃ (x1 : Int), v = .int .i64 x1 ∧
 (cond (x1 == 2) (R (.bool true) w1) (R (.bool (x1 == 3)) w1))
theorem c70 (id : Int) {w : World} {R : Value → World → Prop} (hV : V70 id w R) : Cl Tryz.prog 70 #[.int .u64 id] w R :=
 fn_sound hmTryz (TT := []) (f := 70) Tryz.func70 (ent_of Tryz.func70 (by kernel_rfl) rfl) (Eq.mpr (by kernel_rfl) hV)
/-- windrose/types.own -/
def V71 (la : Option Addr) (ln lc : Nat) (w : World) (R : Value → World → Prop) : Prop :=
 ∃ (x1a : Option Addr) (x1n x1c : Nat) (w1 : World), Sem.run Tryz.prog (Instr.makeSlice 33 (.int .i64 (ln : Int)) (.int .i64 (ln : Int))) w = .ok (.slice x1a x1n x1c) w1 ∧
 (∃ (n : Int) (w2 : World), Sem.run Tryz.prog (Builtin.copy_ #[33, 33] 3 #[.slice x1a x1n x1c, .slice la ln lc]) w1 = .ok (.int .i64 n) w2 ∧ (R (.slice x1a x1n x1c) w2))
theorem c71 (la : Option Addr) (ln lc : Nat) {w : World} {R : Value → World → Prop} (hV : V71 la ln lc w R) : Cl Tryz.prog 71 #[.slice la ln lc] w R :=
 fn_sound hmTryz (TT := []) (f := 71) Tryz.func71 (ent_of Tryz.func71 (by kernel_rfl) rfl) (Eq.mpr (by kernel_rfl) hV)
/-- windrose/types.with -/
def V72 (la : Option Addr) (ln lc : Nat) (id : Int) (w : World) (R : Value → World → Prop) : Prop :=
 Cl Tryz.prog 104 #[.slice la ln lc, .int .u64 id] w fun v w1 => ∃ (x1 : Int) (x2 : Bool), v = .tuple #[.int .i64 x1, .bool x2] ∧
 (cond x2 (R (.slice la ln lc) w1) (∀ w2 : World, w2 = w1.drew → (0 ≤ x1 ∧ x1 ≤ (lc : Int) ∧ (0 ≤ x1 ∧ x1 ≤ x1 ∧ (0 ≤ x1 ∧ x1 ≤ (ln : Int) ∧
 (∀ (b : Nat) (w3 : World), b = w2.heap.size → w3 = w2.alloc (.cells #[.int .u64 id] 32) →
 (∃ (x3a : Option Addr) (x3n x3c : Nat) (w4 : World), Sem.run Tryz.prog (Builtin.append_ #[33, 33] 33 #[.slice la ((x1).toNat) ((x1).toNat), .slice (some (Addr.mk b 0 none)) 1 1]) w3 = .ok (.slice x3a x3n x3c) w4 ∧
 (∃ (x4a : Option Addr) (x4n x4c : Nat) (w5 : World), Sem.run Tryz.prog (Builtin.append_ #[33, 33] 33 #[.slice x3a x3n x3c, .slice (offA la (((lc : Int)).toNat) ((x1).toNat) 1) (((ln : Int)).toNat - (x1).toNat) (((lc : Int)).toNat - (x1).toNat)]) w4 = .ok (.slice x4a x4n x4c) w5 ∧ (R (.slice x4a x4n x4c) w5)))))))))
theorem c72 (la : Option Addr) (ln lc : Nat) (id : Int) {w : World} {R : Value → World → Prop} (hV : V72 la ln lc id w R) : Cl Tryz.prog 72 #[.slice la ln lc, .int .u64 id] w R :=
 fn_sound hmTryz (TT := []) (f := 72) Tryz.func72 (ent_of Tryz.func72 (by kernel_rfl) rfl) (Eq.mpr (by kernel_rfl) hV)
end Go.Eng
namespace Go.Eng
open Go Go.Proofs
set_option maxRecDepth 100000
set_option maxHeartbeats 4000000
/-- windrose/lookup.Check -/
def V73 (la : Option Addr) (ln lc : Nat) (w : World) (R : Value → World → Prop) : Prop :=
 ∀ (b : Nat) (w1 : World), b = w.heap.size → w1 = w.alloc (.cells #[.slice la ln lc] 25) →
 (∃ (x1a : Option Addr) (x1n x1c : Nat), w1.cell? (Addr.mk b 0 none) = some (.slice x1a x1n x1c) ∧
 (∃ (x2a : Option Addr) (x2n x2c : Nat), w1.cell? (Addr.mk b 0 none) = some (.slice x2a x2n x2c) ∧
 (Cl Tryz.prog 115 #[.agg #[.slice x2a x2n x2c]] w1 fun v w2 => ∃ (x3 x4 x5 : Int) (x6 : Bool), v = .tuple #[.agg #[.int .i64 x3, .int .i64 x4, .int .i64 x5], .bool x6] ∧
 (∀ (b2 : Nat) (w3 : World), b2 = w2.heap.size → w3 = w2.alloc (.cells #[.int .i64 0, .int .i64 0, .int .i64 0] 152) → ((w3.cell? (Addr.mk b2 0 none)).isSome = true ∧ w3.frozen? (Addr.mk b2 0 none) = false ∧ ((w3.cell? ((Addr.mk b2 0 none).add 1)).isSome = true ∧ w3.frozen? ((Addr.mk b2 0 none).add 1) = false ∧ ((w3.cell? ((Addr.mk b2 0 none).add 2)).isSome = true ∧ w3.frozen? ((Addr.mk b2 0 none).add 2) = false ∧
 (∀ w4 : World, w4 = ((w3.setCell (Addr.mk b2 0 none) (.int .i64 x3)).setCell ((Addr.mk b2 0 none).add 1) (.int .i64 x4)).setCell ((Addr.mk b2 0 none).add 2) (.int .i64 x5) → (0 ≤ (1 : Int) ∧ (1 : Int) < ((3 : Nat) : Int) ∧
 (∃ (x7 : Int), w4.cell? ((Addr.mk b2 0 none).add (((1 : Int)).toNat * 1)) = some (.int .i64 x7) ∧ (0 ≤ (2 : Int) ∧ (2 : Int) < ((3 : Nat) : Int) ∧
 (∃ (x8 : Int), w4.cell? ((Addr.mk b2 0 none).add (((2 : Int)).toNat * 1)) = some (.int .i64 x8) ∧
 (cond x6 (cond (decide (8 ≤ (x1n : Int)))
 (cond ((band .i64 (x1n : Int) (IntKind.i64.wrap ((x1n : Int) - 1))) == 0)
 (cond (decide ((IntKind.i64.wrap (4 * (IntKind.i64.wrap (x7 + x8)))) ≤ (IntKind.i64.wrap (3 * (x1n : Int)))))
 (cond (!(decide ((IntKind.i64.wrap (x7 + x8)) ≤ 4000))) (R (.int .i64 170) w4) (∃ (x9a : Option Addr) (x9n x9c : Nat), w4.cell? (Addr.mk b 0 none) = some (.slice x9a x9n x9c) ∧
 (∃ (Jv : Bool → Int → World → Prop) (mu : Bool → Int → World → Nat), Jv (decide ((IntKind.i64.wrap (x7 + x8)) ≤ 4000)) 0 w4 ∧ ∀ (jk_ : Nat → Value) (w5 : World), ∀ (ok : Bool) (s50 : Int), Jv ok s50 w5 →
 (cond (decide (s50 < (x9n : Int))) (∃ p : Addr, x9a = some p ∧ 0 ≤ s50 ∧ s50 < (x9n : Int) ∧
 (∃ (x10 : Int) (x11a : Option Addr) (x11n x11c : Nat) (x12 : Int), w5.cell? (p.add ((s50).toNat * 3)) = some (.int .i64 x10) ∧ w5.cell? ((p.add ((s50).toNat * 3)).add 1) = some (.slice x11a x11n x11c) ∧ w5.cell? ((p.add ((s50).toNat * 3)).add 2) = some (.int .i64 x12) ∧
 (∀ (b3 : Nat) (w6 : World), b3 = w5.heap.size → w6 = w5.alloc (.cells #[.int .i64 0, .slice none 0 0, .int .i64 0] 94) → ((w6.cell? (Addr.mk b3 0 none)).isSome = true ∧ w6.frozen? (Addr.mk b3 0 none) = false ∧ ((w6.cell? ((Addr.mk b3 0 none).add 1)).isSome = true ∧ w6.frozen? ((Addr.mk b3 0 none).add 1) = false ∧ ((w6.cell? ((Addr.mk b3 0 none).add 2)).isSome = true ∧ w6.frozen? ((Addr.mk b3 0 none).add 2) = false ∧
 (∀ w7 : World, w7 = ((w6.setCell (Addr.mk b3 0 none) (.int .i64 x10)).setCell ((Addr.mk b3 0 none).add 1) (.slice x11a x11n x11c)).setCell ((Addr.mk b3 0 none).add 2) (.int .i64 x12) →
 (∃ (x13 : Int), w7.cell? (Addr.mk b3 0 none) = some (.int .i64 x13) ∧
 (cond (x13 == 1)
 (cond ok (∃ (x14a : Option Addr) (x14n x14c : Nat), w7.cell? ((Addr.mk b3 0 none).add 1) = some (.slice x14a x14n x14c) ∧
 (Cl Tryz.prog 39 #[.slice x14a x14n x14c] w7 fun v2 w8 => ∃ (x15 : Int), v2 = .int .i64 x15 ∧
 (cond (x15 == 0) (∃ (x16 : Int), w8.cell? ((Addr.mk b3 0 none).add 2) = some (.int .i64 x16) ∧
 (cond (decide (0 ≤ x16)) (∃ (x17a : Option Addr) (x17n x17c : Nat), w8.cell? (Addr.mk b 0 none) = some (.slice x17a x17n x17c) ∧
 (∃ (x18a : Option Addr) (x18n x18c : Nat), w8.cell? ((Addr.mk b3 0 none).add 1) = some (.slice x18a x18n x18c) ∧
 (Cl Tryz.prog 107 #[.agg #[.slice x17a x17n x17c], .slice x18a x18n x18c] w8 fun v3 w9 => ∃ (x19 : Int), v3 = .int .i64 x19 ∧ (Jv (x19 == s50) (IntKind.i64.wrap (s50 + 1)) w9 ∧ mu (x19 == s50) (IntKind.i64.wrap (s50 + 1)) w9 < mu ok s50 w5)))) (Jv false (IntKind.i64.wrap (s50 + 1)) w8 ∧ mu false (IntKind.i64.wrap (s50 + 1)) w8 < mu ok s50 w5))) (Jv false (IntKind.i64.wrap (s50 + 1)) w8 ∧ mu false (IntKind.i64.wrap (s50 + 1)) w8 < mu ok s50 w5)))) (Jv false (IntKind.i64.wrap (s50 + 1)) w7 ∧ mu false (IntKind.i64.wrap (s50 + 1)) w7 < mu ok s50 w5))
 (cond ok (∃ (x20a : Option Addr) (x20n x20c : Nat), w7.cell? ((Addr.mk b3 0 none).add 1) = some (.slice x20a x20n x20c) ∧
 (cond ((x20n : Int) == 0) (∃ (x21 : Int), w7.cell? ((Addr.mk b3 0 none).add 2) = some (.int .i64 x21) ∧ (Jv (x21 == 0) (IntKind.i64.wrap (s50 + 1)) w7 ∧ mu (x21 == 0) (IntKind.i64.wrap (s50 + 1)) w7 < mu ok s50 w5)) (Jv false (IntKind.i64.wrap (s50 + 1)) w7 ∧ mu false (IntKind.i64.wrap (s50 + 1)) w7 < mu ok s50 w5))) (Jv false (IntKind.i64.wrap (s50 + 1)) w7 ∧ mu false (IntKind.i64.wrap (s50 + 1)) w7 < mu ok s50 w5)))))))))))
 (cond (!ok) (R (.int .i64 170) w5) (R (.int .i64 0) w5)))))) (R (.int .i64 170) w4)) (R (.int .i64 170) w4)) (R (.int .i64 170) w4)) (R (.int .i64 170) w4))))))))))))))
theorem c73 (la : Option Addr) (ln lc : Nat) {w : World} {R : Value → World → Prop} (hV : V73 la ln lc w R) : Cl Tryz.prog 73 #[.agg #[.slice la ln lc]] w R :=
 fn_sound hmTryz (TT := []) (f := 73) Tryz.func73 (ent_of Tryz.func73 (by kernel_rfl) rfl) (Eq.mpr (by kernel_rfl) hV)
/-- windrose/lookup.Find -/
def V74 (la : Option Addr) (ln lc : Nat) (ta : Option Addr) (tn tc : Nat) (w : World) (R : Value → World → Prop) : Prop :=
 ∀ (b : Nat) (w1 : World), b = w.heap.size → w1 = w.alloc (.cells #[.slice la ln lc] 25) →
 (∃ (x1a : Option Addr) (x1n x1c : Nat), w1.cell? (Addr.mk b 0 none) = some (.slice x1a x1n x1c) ∧
 (Cl Tryz.prog 73 #[.agg #[.slice x1a x1n x1c]] w1 fun v w2 => ∃ (x2 : Int), v = .int .i64 x2 ∧
 (cond (x2 != 0) (R (.tuple #[.int .i64 0, .bool false]) w2) (∃ (x3a : Option Addr) (x3n x3c : Nat), w2.cell? (Addr.mk b 0 none) = some (.slice x3a x3n x3c) ∧
 (Cl Tryz.prog 107 #[.agg #[.slice x3a x3n x3c], .slice ta tn tc] w2 fun v2 w3 => ∃ (x4 : Int), v2 = .int .i64 x4 ∧
 (cond (decide (x4 < 0)) (R (.tuple #[.int .i64 0, .bool false]) w3) (∃ (x5a : Option Addr) (x5n x5c : Nat), w3.cell? (Addr.mk b 0 none) = some (.slice x5a x5n x5c) ∧
 (∃ p : Addr, x5a = some p ∧ 0 ≤ x4 ∧ x4 < (x5n : Int) ∧
 (∃ (x6 : Int), w3.cell? ((p.add ((x4).toNat * 3)).add 2) = some (.int .i64 x6) ∧ (R (.tuple #[.int .i64 x6, .bool true]) w3))))))))))
theorem c74 (la : Option Addr) (ln lc : Nat) (ta : Option Addr) (tn tc : Nat) {w : World} {R : Value → World → Prop} (hV : V74 la ln lc ta tn tc w R) : Cl Tryz.prog 74 #[.agg #[.slice la ln lc], .slice ta tn tc] w R :=
 fn_sound hmTryz (TT := []) (f := 74) Tryz.func74 (ent_of Tryz.func74 (by kernel_rfl) rfl) (Eq.mpr (by kernel_rfl) hV)
/-- windrose/graph.steps -/
def V75 (ga : Option Addr) (gn gc : Nat) (g2a : Option Addr) (g2n g2c : Nat) (n : Int) (rowa : Option Addr) (rown rowc : Nat) (plus : Bool) (w : World) (R : Value → World → Prop) : Prop :=
 ∀ (b : Nat) (w1 : World), b = w.heap.size → w1 = w.alloc (.cells #[.slice ga gn gc, .slice g2a g2n g2c] 27) →
 (∃ (x1a : Option Addr) (x1n x1c : Nat), w1.cell? (Addr.mk b 0 none) = some (.slice x1a x1n x1c) ∧
 (∃ p : Addr, x1a = some p ∧ 0 ≤ (IntKind.i64.wrap (n - 1)) ∧ (IntKind.i64.wrap (n - 1)) < (x1n : Int) ∧
 (∃ (x2a : Option Addr) (x2n x2c : Nat), w1.cell? ((p.add (((IntKind.i64.wrap (n - 1))).toNat * 4)).add 1) = some (.slice x2a x2n x2c) ∧
 (∃ (Jv : Bool → Int → World → Prop) (mu : Bool → Int → World → Nat), Jv true 0 w1 ∧ ∀ (jk_ : Nat → Value) (w2 : World), ∀ (ok : Bool) (s26 : Int), Jv ok s26 w2 →
 (cond (decide (s26 < (rown : Int))) (∃ p2 : Addr, rowa = some p2 ∧ 0 ≤ s26 ∧ s26 < (rown : Int) ∧
 (∃ (x3 x4 : Int), w2.cell? (p2.add ((s26).toNat * 2)) = some (.int .u64 x3) ∧ w2.cell? ((p2.add ((s26).toNat * 2)).add 1) = some (.int .i64 x4) ∧
 (∀ (b2 : Nat) (w3 : World), b2 = w2.heap.size → w3 = w2.alloc (.cells #[.int .u64 0, .int .i64 0] 71) → ((w3.cell? (Addr.mk b2 0 none)).isSome = true ∧ w3.frozen? (Addr.mk b2 0 none) = false ∧ ((w3.cell? ((Addr.mk b2 0 none).add 1)).isSome = true ∧ w3.frozen? ((Addr.mk b2 0 none).add 1) = false ∧
 (∀ w4 : World, w4 = (w3.setCell (Addr.mk b2 0 none) (.int .u64 x3)).setCell ((Addr.mk b2 0 none).add 1) (.int .i64 x4) →
 (∀ w5 : World, w5 = w4.drew →
 (cond (decide (0 < s26)) (∃ p3 : Addr, rowa = some p3 ∧ 0 ≤ (IntKind.i64.wrap (s26 - 1)) ∧ (IntKind.i64.wrap (s26 - 1)) < (rown : Int) ∧
 (∃ (x5 x6 : Int), w5.cell? (p3.add (((IntKind.i64.wrap (s26 - 1))).toNat * 2)) = some (.int .u64 x5) ∧ w5.cell? ((p3.add (((IntKind.i64.wrap (s26 - 1))).toNat * 2)).add 1) = some (.int .i64 x6) ∧
 (∃ (x7 x8 : Int), w5.cell? (Addr.mk b2 0 none) = some (.int .u64 x7) ∧ w5.cell? ((Addr.mk b2 0 none).add 1) = some (.int .i64 x8) ∧
 (Cl Tryz.prog 102 #[.agg #[.int .u64 x5, .int .i64 x6], .agg #[.int .u64 x7, .int .i64 x8]] w5 fun v w6 => ∃ (x9 : Int), v = .int .i64 x9 ∧
 (cond (decide (0 ≤ x9)) (R (.bool false) w6) (∃ (x10a : Option Addr) (x10n x10c : Nat) (x11a : Option Addr) (x11n x11c : Nat), w6.cell? (Addr.mk b 0 none) = some (.slice x10a x10n x10c) ∧ w6.cell? ((Addr.mk b 0 none).add 1) = some (.slice x11a x11n x11c) ∧
 (∃ (x12 : Int), w6.cell? ((Addr.mk b2 0 none).add 1) = some (.int .i64 x12) ∧
 (Cl Tryz.prog 60 #[.agg #[.slice x10a x10n x10c, .slice x11a x11n x11c], .int .i64 x12] w6 fun v2 w7 => ∃ (x13 : Bool), v2 = .bool x13 ∧
 (cond (!x13) (R (.bool false) w7) (∃ (x14 : Int), w7.cell? (Addr.mk b2 0 none) = some (.int .u64 x14) ∧
 (Cl Tryz.prog 27 #[.slice x2a x2n x2c, .int .u64 x14] w7 fun v3 w8 => ∃ (x15 : Bool), v3 = .bool x15 ∧
 (cond (x15 == plus) (R (.bool false) w8) (∃ (x16a : Option Addr) (x16n x16c : Nat), w8.cell? (Addr.mk b 0 none) = some (.slice x16a x16n x16c) ∧
 (∃ (x17 : Int), w8.cell? ((Addr.mk b2 0 none).add 1) = some (.int .i64 x17) ∧
 (∃ p4 : Addr, x16a = some p4 ∧ 0 ≤ (IntKind.i64.wrap (x17 - 1)) ∧ (IntKind.i64.wrap (x17 - 1)) < (x16n : Int) ∧
 (∃ (x18 : Bool) (x19a : Option Addr) (x19n x19c : Nat) (x20a : Option Addr) (x20n x20c : Nat) (x21a : Option Addr) (x21n x21c : Nat), w8.cell? (p4.add (((IntKind.i64.wrap (x17 - 1))).toNat * 4)) = some (.bool x18) ∧ w8.cell? ((p4.add (((IntKind.i64.wrap (x17 - 1))).toNat * 4)).add 1) = some (.slice x19a x19n x19c) ∧ w8.cell? ((p4.add (((IntKind.i64.wrap (x17 - 1))).toNat * 4)).add 2) = some (.slice x20a x20n x20c) ∧ w8.cell? ((p4.add (((IntKind.i64.wrap (x17 - 1))).toNat * 4)).add 3) = some (.slice x21a x21n x21c) ∧
 (∀ (b3 : Nat) (w9 : World), b3 = w8.heap.size → w9 = w8.alloc (.cells #[.bool false, .slice none 0 0, .slice none 0 0, .slice none 0 0] 56) → ((w9.cell? (Addr.mk b3 0 none)).isSome = true ∧ w9.frozen? (Addr.mk b3 0 none) = false ∧ ((w9.cell? ((Addr.mk b3 0 none).add 1)).isSome = true ∧ w9.frozen? ((Addr.mk b3 0 none).add 1) = false ∧ ((w9.cell? ((Addr.mk b3 0 none).add 2)).isSome = true ∧ w9.frozen? ((Addr.mk b3 0 none).add 2) = false ∧ ((w9.cell? ((Addr.mk b3 0 none).add 3)).isSome = true ∧ w9.frozen? ((Addr.mk b3 0 none).add 3) = false ∧
 (∀ w10 : World, w10 = (((w9.setCell (Addr.mk b3 0 none) (.bool x18)).setCell ((Addr.mk b3 0 none).add 1) (.slice x19a x19n x19c)).setCell ((Addr.mk b3 0 none).add 2) (.slice x20a x20n x20c)).setCell ((Addr.mk b3 0 none).add 3) (.slice x21a x21n x21c) →
 (cond plus (∃ (x22 : Int), w10.cell? (Addr.mk b2 0 none) = some (.int .u64 x22) ∧
 (Cl Tryz.prog 25 #[.slice x2a x2n x2c, .int .u64 x22] w10 fun v4 w11 => ∃ (x23a : Option Addr) (x23n x23c : Nat) (x24 : Int), v4 = .tuple #[.slice x23a x23n x23c, .int .i64 x24] ∧
 (∃ (x25a : Option Addr) (x25n x25c : Nat), w11.cell? ((Addr.mk b3 0 none).add 3) = some (.slice x25a x25n x25c) ∧
 (cond (x24 != 0) (R (.bool false) w11) (∃ (x26a : Option Addr) (x26n x26c : Nat), w11.cell? ((Addr.mk b3 0 none).add 1) = some (.slice x26a x26n x26c) ∧
 (Cl Tryz.prog 22 #[.slice x26a x26n x26c, .slice x23a x23n x23c] w11 fun v5 w12 => ∃ (x27 : Bool), v5 = .bool x27 ∧
 (cond (!x27) (R (.bool false) w12) (∃ (x28 : Int), w12.cell? (Addr.mk b2 0 none) = some (.int .u64 x28) ∧
 (Cl Tryz.prog 116 #[.slice x25a x25n x25c, .agg #[.int .u64 x28, .int .i64 n]] w12 fun v6 w13 => ∃ (x29 : Bool), v6 = .bool x29 ∧
 (cond (!x29) (R (.bool false) w13) (Jv ok (IntKind.i64.wrap (s26 + 1)) w13 ∧ mu ok (IntKind.i64.wrap (s26 + 1)) w13 < mu ok s26 w2))))))))))) (∃ (x30 : Int), w10.cell? (Addr.mk b2 0 none) = some (.int .u64 x30) ∧
 (Cl Tryz.prog 54 #[.slice x2a x2n x2c, .int .u64 x30] w10 fun v7 w14 => ∃ (x31a : Option Addr) (x31n x31c : Nat) (x32 : Int), v7 = .tuple #[.slice x31a x31n x31c, .int .i64 x32] ∧
 (∃ (x33a : Option Addr) (x33n x33c : Nat), w14.cell? ((Addr.mk b3 0 none).add 2) = some (.slice x33a x33n x33c) ∧
 (cond (x32 != 0) (R (.bool false) w14) (∃ (x34a : Option Addr) (x34n x34c : Nat), w14.cell? ((Addr.mk b3 0 none).add 1) = some (.slice x34a x34n x34c) ∧
 (Cl Tryz.prog 22 #[.slice x34a x34n x34c, .slice x31a x31n x31c] w14 fun v8 w15 => ∃ (x35 : Bool), v8 = .bool x35 ∧
 (cond (!x35) (R (.bool false) w15) (∃ (x36 : Int), w15.cell? (Addr.mk b2 0 none) = some (.int .u64 x36) ∧
 (Cl Tryz.prog 116 #[.slice x33a x33n x33c, .agg #[.int .u64 x36, .int .i64 n]] w15 fun v9 w16 => ∃ (x37 : Bool), v9 = .bool x37 ∧
 (cond (!x37) (R (.bool false) w16) (Jv ok (IntKind.i64.wrap (s26 + 1)) w16 ∧ mu ok (IntKind.i64.wrap (s26 + 1)) w16 < mu ok s26 w2)))))))))))))))))))))))))))))))))) (∃ (x38a : Option Addr) (x38n x38c : Nat) (x39a : Option Addr) (x39n x39c : Nat), w5.cell? (Addr.mk b 0 none) = some (.slice x38a x38n x38c) ∧ w5.cell? ((Addr.mk b 0 none).add 1) = some (.slice x39a x39n x39c) ∧
 (∃ (x40 : Int), w5.cell? ((Addr.mk b2 0 none).add 1) = some (.int .i64 x40) ∧
 (Cl Tryz.prog 60 #[.agg #[.slice x38a x38n x38c, .slice x39a x39n x39c], .int .i64 x40] w5 fun v10 w17 => ∃ (x41 : Bool), v10 = .bool x41 ∧
 (cond (!x41) (R (.bool false) w17) (∃ (x42 : Int), w17.cell? (Addr.mk b2 0 none) = some (.int .u64 x42) ∧
 (Cl Tryz.prog 27 #[.slice x2a x2n x2c, .int .u64 x42] w17 fun v11 w18 => ∃ (x43 : Bool), v11 = .bool x43 ∧
 (cond (x43 == plus) (R (.bool false) w18) (∃ (x44a : Option Addr) (x44n x44c : Nat), w18.cell? (Addr.mk b 0 none) = some (.slice x44a x44n x44c) ∧
 (∃ (x45 : Int), w18.cell? ((Addr.mk b2 0 none).add 1) = some (.int .i64 x45) ∧
 (∃ p5 : Addr, x44a = some p5 ∧ 0 ≤ (IntKind.i64.wrap (x45 - 1)) ∧ (IntKind.i64.wrap (x45 - 1)) < (x44n : Int) ∧
 (∃ (x46 : Bool) (x47a : Option Addr) (x47n x47c : Nat) (x48a : Option Addr) (x48n x48c : Nat) (x49a : Option Addr) (x49n x49c : Nat), w18.cell? (p5.add (((IntKind.i64.wrap (x45 - 1))).toNat * 4)) = some (.bool x46) ∧ w18.cell? ((p5.add (((IntKind.i64.wrap (x45 - 1))).toNat * 4)).add 1) = some (.slice x47a x47n x47c) ∧ w18.cell? ((p5.add (((IntKind.i64.wrap (x45 - 1))).toNat * 4)).add 2) = some (.slice x48a x48n x48c) ∧ w18.cell? ((p5.add (((IntKind.i64.wrap (x45 - 1))).toNat * 4)).add 3) = some (.slice x49a x49n x49c) ∧
 (∀ (b4 : Nat) (w19 : World), b4 = w18.heap.size → w19 = w18.alloc (.cells #[.bool false, .slice none 0 0, .slice none 0 0, .slice none 0 0] 56) → ((w19.cell? (Addr.mk b4 0 none)).isSome = true ∧ w19.frozen? (Addr.mk b4 0 none) = false ∧ ((w19.cell? ((Addr.mk b4 0 none).add 1)).isSome = true ∧ w19.frozen? ((Addr.mk b4 0 none).add 1) = false ∧ ((w19.cell? ((Addr.mk b4 0 none).add 2)).isSome = true ∧ w19.frozen? ((Addr.mk b4 0 none).add 2) = false ∧ ((w19.cell? ((Addr.mk b4 0 none).add 3)).isSome = true ∧ w19.frozen? ((Addr.mk b4 0 none).add 3) = false ∧
 (∀ w20 : World, w20 = (((w19.setCell (Addr.mk b4 0 none) (.bool x46)).setCell ((Addr.mk b4 0 none).add 1) (.slice x47a x47n x47c)).setCell ((Addr.mk b4 0 none).add 2) (.slice x48a x48n x48c)).setCell ((Addr.mk b4 0 none).add 3) (.slice x49a x49n x49c) →
 (cond plus (∃ (x50 : Int), w20.cell? (Addr.mk b2 0 none) = some (.int .u64 x50) ∧
 (Cl Tryz.prog 25 #[.slice x2a x2n x2c, .int .u64 x50] w20 fun v12 w21 => ∃ (x51a : Option Addr) (x51n x51c : Nat) (x52 : Int), v12 = .tuple #[.slice x51a x51n x51c, .int .i64 x52] ∧
 (∃ (x53a : Option Addr) (x53n x53c : Nat), w21.cell? ((Addr.mk b4 0 none).add 3) = some (.slice x53a x53n x53c) ∧
 (cond (x52 != 0) (R (.bool false) w21) (∃ (x54a : Option Addr) (x54n x54c : Nat), w21.cell? ((Addr.mk b4 0 none).add 1) = some (.slice x54a x54n x54c) ∧
 (Cl Tryz.prog 22 #[.slice x54a x54n x54c, .slice x51a x51n x51c] w21 fun v13 w22 => ∃ (x55 : Bool), v13 = .bool x55 ∧
 (cond (!x55) (R (.bool false) w22) (∃ (x56 : Int), w22.cell? (Addr.mk b2 0 none) = some (.int .u64 x56) ∧
 (Cl Tryz.prog 116 #[.slice x53a x53n x53c, .agg #[.int .u64 x56, .int .i64 n]] w22 fun v14 w23 => ∃ (x57 : Bool), v14 = .bool x57 ∧
 (cond (!x57) (R (.bool false) w23) (Jv ok (IntKind.i64.wrap (s26 + 1)) w23 ∧ mu ok (IntKind.i64.wrap (s26 + 1)) w23 < mu ok s26 w2))))))))))) (∃ (x58 : Int), w20.cell? (Addr.mk b2 0 none) = some (.int .u64 x58) ∧
 (Cl Tryz.prog 54 #[.slice x2a x2n x2c, .int .u64 x58] w20 fun v15 w24 => ∃ (x59a : Option Addr) (x59n x59c : Nat) (x60 : Int), v15 = .tuple #[.slice x59a x59n x59c, .int .i64 x60] ∧
 (∃ (x61a : Option Addr) (x61n x61c : Nat), w24.cell? ((Addr.mk b4 0 none).add 2) = some (.slice x61a x61n x61c) ∧
 (cond (x60 != 0) (R (.bool false) w24) (∃ (x62a : Option Addr) (x62n x62c : Nat), w24.cell? ((Addr.mk b4 0 none).add 1) = some (.slice x62a x62n x62c) ∧
 (Cl Tryz.prog 22 #[.slice x62a x62n x62c, .slice x59a x59n x59c] w24 fun v16 w25 => ∃ (x63 : Bool), v16 = .bool x63 ∧
 (cond (!x63) (R (.bool false) w25) (∃ (x64 : Int), w25.cell? (Addr.mk b2 0 none) = some (.int .u64 x64) ∧
 (Cl Tryz.prog 116 #[.slice x61a x61n x61c, .agg #[.int .u64 x64, .int .i64 n]] w25 fun v17 w26 => ∃ (x65 : Bool), v17 = .bool x65 ∧
 (cond (!x65) (R (.bool false) w26) (Jv ok (IntKind.i64.wrap (s26 + 1)) w26 ∧ mu ok (IntKind.i64.wrap (s26 + 1)) w26 < mu ok s26 w2))))))))))))))))))))))))))))))))))))) (R (.bool ok) w2))))))
theorem c75 (ga : Option Addr) (gn gc : Nat) (g2a : Option Addr) (g2n g2c : Nat) (n : Int) (rowa : Option Addr) (rown rowc : Nat) (plus : Bool) {w : World} {R : Value → World → Prop} (hV : V75 ga gn gc g2a g2n g2c n rowa rown rowc plus w R) : Cl Tryz.prog 75 #[.agg #[.slice ga gn gc, .slice g2a g2n g2c], .int .i64 n, .slice rowa rown rowc, .bool plus] w R :=
 fn_sound hmTryz (TT := []) (f := 75) Tryz.func75 (ent_of Tryz.func75 (by kernel_rfl) rfl) (Eq.mpr (by kernel_rfl) hV)
/-- windrose/lookup.Many -/
def V76 (la : Option Addr) (ln lc : Nat) (w : World) (R : Value → World → Prop) : Prop :=
 ∀ (b : Nat) (w1 : World), b = w.heap.size → w1 = w.alloc (.cells #[.slice la ln lc] 25) →
 (∃ (x1a : Option Addr) (x1n x1c : Nat), w1.cell? (Addr.mk b 0 none) = some (.slice x1a x1n x1c) ∧
 (Cl Tryz.prog 84 #[.agg #[.slice x1a x1n x1c]] w1 fun v w2 => ∃ (x2a : Option Addr) (x2n x2c : Nat), v = .slice x2a x2n x2c ∧ (R (.int .i64 (x2n : Int)) w2)))
theorem c76 (la : Option Addr) (ln lc : Nat) {w : World} {R : Value → World → Prop} (hV : V76 la ln lc w R) : Cl Tryz.prog 76 #[.agg #[.slice la ln lc]] w R :=
 fn_sound hmTryz (TT := []) (f := 76) Tryz.func76 (ent_of Tryz.func76 (by kernel_rfl) rfl) (Eq.mpr (by kernel_rfl) hV)
/-- windrose/types.some -/
def V77 (la : Option Addr) (ln lc : Nat) (holdsf : FuncId) (holdsc : List Value) (w : World) (R : Value → World → Prop) : Prop :=
 ∀ (b : Nat) (w1 : World), b = w.heap.size → w1 = w.alloc (.cells #[.slice la ln lc] 33) →
 (∀ (b2 : Nat) (w2 : World), b2 = w1.heap.size → w2 = w1.alloc (.cells #[.func (.func holdsf) #[] holdsc.toArray] 101) → (R (.func (.func 117) #[] #[.pointer (some (Addr.mk b 0 none)), .pointer (some (Addr.mk b2 0 none))]) w2))
theorem c77 (la : Option Addr) (ln lc : Nat) (holdsf : FuncId) (holdsc : List Value) {w : World} {R : Value → World → Prop} (hV : V77 la ln lc holdsf holdsc w R) : Cl Tryz.prog 77 #[.slice la ln lc, .func (.func holdsf) #[] holdsc.toArray] w R :=
 fn_sound hmTryz (TT := []) (f := 77) Tryz.func77 (ent_of Tryz.func77 (by kernel_rfl) rfl) (Eq.mpr (by kernel_rfl) hV)
/-- windrose/types.Has$1 -/
def V78 (x1 : Int) (cap0 : Addr) (w : World) (R : Value → World → Prop) : Prop :=
 ∃ (x2 : Int), w.cell? cap0 = some (.int .u64 x2) ∧ (R (.bool (x1 == x2)) w)
theorem c78 (x1 : Int) (cap0 : Addr) {w : World} {R : Value → World → Prop} (hV : V78 x1 cap0 w R) : Cl Tryz.prog 78 #[.int .u64 x1, .pointer (some cap0)] w R :=
 fn_sound hmTryz (TT := []) (f := 78) Tryz.func78 (ent_of Tryz.func78 (by kernel_rfl) rfl) (Eq.mpr (by kernel_rfl) hV)
/-- windrose/graph.used -/
def V79 (ga : Option Addr) (gn gc : Nat) (g2a : Option Addr) (g2n g2c : Nat) (w : World) (R : Value → World → Prop) : Prop :=
 ∀ (b : Nat) (w1 : World), b = w.heap.size → w1 = w.alloc (.cells #[.slice ga gn gc, .slice g2a g2n g2c] 27) → (R (.func (.func 118) #[] #[.pointer (some (Addr.mk b 0 none))]) w1)
theorem c79 (ga : Option Addr) (gn gc : Nat) (g2a : Option Addr) (g2n g2c : Nat) {w : World} {R : Value → World → Prop} (hV : V79 ga gn gc g2a g2n g2c w R) : Cl Tryz.prog 79 #[.agg #[.slice ga gn gc, .slice g2a g2n g2c]] w R :=
 fn_sound hmTryz (TT := []) (f := 79) Tryz.func79 (ent_of Tryz.func79 (by kernel_rfl) rfl) (Eq.mpr (by kernel_rfl) hV)
/-- windrose/lookup.All -/
def V84 (la : Option Addr) (ln lc : Nat) (w : World) (R : Value → World → Prop) : Prop :=
 ∀ (b : Nat) (w1 : World), b = w.heap.size → w1 = w.alloc (.cells #[.slice la ln lc] 25) →
 (∃ (x1a : Option Addr) (x1n x1c : Nat), w1.cell? (Addr.mk b 0 none) = some (.slice x1a x1n x1c) ∧
 (Cl Tryz.prog 73 #[.agg #[.slice x1a x1n x1c]] w1 fun v w2 => ∃ (x2 : Int), v = .int .i64 x2 ∧
 (cond (x2 != 0) (R (.slice none 0 0) w2) (∃ (x3a : Option Addr) (x3n x3c : Nat), w2.cell? (Addr.mk b 0 none) = some (.slice x3a x3n x3c) ∧
 (Cl Tryz.prog 119 #[.agg #[.slice x3a x3n x3c]] w2 fun v2 w3 => ∃ (x4a : Option Addr) (x4n x4c : Nat), v2 = .slice x4a x4n x4c ∧ (R (.slice x4a x4n x4c) w3))))))
theorem c84 (la : Option Addr) (ln lc : Nat) {w : World} {R : Value → World → Prop} (hV : V84 la ln lc w R) : Cl Tryz.prog 84 #[.agg #[.slice la ln lc]] w R :=
 fn_sound hmTryz (TT := []) (f := 84) Tryz.func84 (ent_of Tryz.func84 (by kernel_rfl) rfl) (Eq.mpr (by kernel_rfl) hV)
end Go.Eng
