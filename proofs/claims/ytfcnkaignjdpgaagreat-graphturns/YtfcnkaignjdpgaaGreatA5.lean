/- Part 5 of the proof of GraphTurnsSaid. What is proved: what a call of each function leaves. Conditions: those that each theorem names. -/
import Derived.Test.YtfcnkaignjdpgaaGreatA4
import Derived.Deep.Draws
import Derived.Test.YtfcnkaignjdpgaaGreatA1
import Derived.RangeFuncRecord
set_option linter.unusedVariables false
set_option linter.unusedSimpArgs false
set_option linter.unusedSectionVars false
namespace Go.Eng
open Go Go.RowKit Go.Proofs
set_option maxRecDepth 10000
theorem cnd {b : Bool} {X Y : Prop} (h1 : b = true → X) (h2 : b = false → Y) : cond b X Y := by
  cases b
  · exact h2 rfl
  · exact h1 rfl
theorem nx {k : Nat} (h : k < 9223372036854775807) : IntKind.i64.wrap ((k : Int) + 1) = ((k + 1 : Nat) : Int) := by
  rw [wrap64 (by omega) (by omega)]; omega
/-- Nothing but draws. -/
def Qt (w w' : World) : Prop := ∃ q, w' = w.drewN q
theorem Qt.refl (w : World) : Qt w w := ⟨0, rfl⟩
theorem Qt.drew {w w' : World} (h : Qt w w') : Qt w w'.drew := by obtain ⟨q, rfl⟩ := h; exact ⟨q + 1, by simp [World.drewN, World.drew, Nat.add_assoc]⟩
theorem Qt.trans {a b c : World} (h : Qt a b) (h' : Qt b c) : Qt a c := by obtain ⟨q, rfl⟩ := h; obtain ⟨r, rfl⟩ := h'; exact ⟨q + r, by simp [World.drewN, Nat.add_assoc]⟩
theorem Qt.below {w w' : World} (h : Qt w w') (B : Nat) : Below B w w' := by obtain ⟨q, rfl⟩ := h; exact ⟨rfl, rfl, rfl, Nat.le_refl _, fun _ _ => rfl⟩
theorem Row.qt {α : Type} {enc : α → List Value} {w w' : World} {a : Option Addr} {n c : Nat} {l : List α} (h : Row enc w a n c l) (hq : Qt w w') : Row enc w' a n c l := h.below (hq.below _)
/-- The k-th element, read. -/
theorem Row.at1 {α : Type} {enc : α → List Value} {f : α → Value} (hf : ∀ x, enc x = [f x]) {w : World} {a : Option Addr} {n c : Nat} {l : List α} (h : Row enc w a n c l) {k : Nat} (hk : k < n) :
    ∃ (hl : k < l.length) (p : Addr), a = some p ∧ w.cell? (p.add ((k : Int).toNat * 1)) = some (f l[k]) := by
  obtain ⟨p, hp, hc⟩ := h.ix1 hf (i := (k : Int)) (by omega) (by omega)
  have hl : k < l.length := by have := h.len; omega
  exact ⟨hl, p, hp, by simpa using hc⟩
theorem Row.idN {w : World} {a : Option Addr} {n c : Nat} {l : List Int} (h : Row encId w a n c l) {k : Nat} {K : Int → Prop} (hk : k < n) (hK : ∀ hl : k < l.length, K l[k]) :
    ∃ p : Addr, a = some p ∧ 0 ≤ (k : Int) ∧ (k : Int) < (n : Int) ∧ ∃ x : Int, w.cell? (p.add ((k : Int).toNat * 1)) = some (.int .u64 x) ∧ K x := by
  obtain ⟨hl, p, hp, hc⟩ := h.at1 (fun _ => rfl) hk
  exact ⟨p, hp, by omega, by omega, _, hc, hK _⟩
theorem Row.intN {w : World} {a : Option Addr} {n c : Nat} {l : List Int} (h : Row encInt w a n c l) {k : Nat} {K : Int → Prop} (hk : k < n) (hK : ∀ hl : k < l.length, K l[k]) :
    ∃ p : Addr, a = some p ∧ 0 ≤ (k : Int) ∧ (k : Int) < (n : Int) ∧ ∃ x : Int, w.cell? (p.add ((k : Int).toNat * 1)) = some (.int .i64 x) ∧ K x := by
  obtain ⟨hl, p, hp, hc⟩ := h.at1 (fun _ => rfl) hk
  exact ⟨p, hp, by omega, by omega, _, hc, hK _⟩
theorem take_one {α : Type} {l : List α} {k : Nat} (h : k < l.length) : l.take (k + 1) = l.take k ++ [l[k]] := by
  rw [List.take_add_one, List.getElem?_eq_getElem h]; rfl
theorem dec {n k : Nat} (h : k < n) : n - ((k + 1 : Nat) : Int).toNat < n - (k : Int).toNat := by omega
theorem take_all {α : Type} {l : List α} {k : Nat} (h : l.length ≤ k) : l.take k = l := List.take_of_length_le h
/-- A call that reads alone. -/
def Tells (w : World) (v : Value) (v' : Value) (w' : World) : Prop := v' = v ∧ Qt w w'
section
variable {w : World} {a b : Option Addr} {n c m d : Nat} {l l' : List Int}
theorem k_EqIds (h1 : Row encId w a n c l) (h2 : Row encId w b m d l') : Cl Tryz.prog 22 #[.slice a n c, .slice b m d] w (Tells w (.bool (l == l'))) := by
  refine c22 _ _ _ _ _ _ ?_
  have e1 := h1.len; have e2 := h2.len; have e3 := h1.n63
  refine cnd (fun hc => ⟨?_, Qt.refl _⟩) fun hc => ?_
  · have : n ≠ m := by simp at hc; omega
    have : l ≠ l' := by rintro rfl; omega
    simp [this]
  · have hnm : n = m := by simp at hc; omega
    refine ⟨fun _ i w' => Qt w w' ∧ ∃ k : Nat, i = k ∧ k ≤ n ∧ l.take k = l'.take k, fun _ i _ => n - i.toNat, ⟨Qt.refl _, 0, rfl, by omega, rfl⟩, ?_⟩
    rintro _ w1 s _ ⟨hq, k, rfl, hk, ht⟩
    refine cnd (fun hc => ?_) fun hc => ?_
    · have hkn : k < n := by simpa using hc
      rintro w2 rfl
      refine (h1.qt hq.drew).idN hkn fun hl => ?_
      refine (h2.qt hq.drew).idN (by omega) fun hl' => ?_
      refine cnd (fun hc => ⟨?_, hq.drew⟩) fun hc => ?_
      · have : l[k] ≠ l'[k] := by simpa using hc
        have : l ≠ l' := by rintro rfl; exact this rfl
        simp [this]
      · have : l[k] = l'[k] := by simpa using hc
        rw [nx (by omega)]
        exact ⟨⟨hq.drew, k + 1, rfl, by omega, by rw [take_one hl, take_one hl', ht, this]⟩, dec hkn⟩
    · have hkn : ¬ k < n := by simpa using hc
      rw [take_all (by omega), take_all (by omega)] at ht
      exact ⟨by simp [ht], hq⟩
theorem k_r03Same (h1 : Row encId w a n c l) (h2 : Row encId w b m d l') : Cl Tryz.prog 89 #[.slice a n c, .slice b m d] w (Tells w (.bool (l == l'))) := by
  refine c89 _ _ _ _ _ _ ?_
  have e1 := h1.len; have e2 := h2.len; have e3 := h1.n63
  refine cnd (fun hc => ⟨?_, Qt.refl _⟩) fun hc => ?_
  · have : n ≠ m := by simp at hc; omega
    have : l ≠ l' := by rintro rfl; omega
    simp [this]
  · have hnm : n = m := by simp at hc; omega
    refine ⟨fun _ i w' => Qt w w' ∧ ∃ k : Nat, i = k ∧ k ≤ n ∧ l.take k = l'.take k, fun _ i _ => n - i.toNat, ⟨Qt.refl _, 0, rfl, by omega, rfl⟩, ?_⟩
    rintro _ w1 s _ ⟨hq, k, rfl, hk, ht⟩
    refine cnd (fun hc => ?_) fun hc => ?_
    · have hkn : k < n := by simpa using hc
      rintro w2 rfl
      refine (h1.qt hq.drew).idN hkn fun hl => ?_
      refine (h2.qt hq.drew).idN (by omega) fun hl' => ?_
      refine cnd (fun hc => ⟨?_, hq.drew⟩) fun hc => ?_
      · have : l[k] ≠ l'[k] := by simpa using hc
        have : l ≠ l' := by rintro rfl; exact this rfl
        simp [this]
      · have : l[k] = l'[k] := by simpa using hc
        rw [nx (by omega)]
        exact ⟨⟨hq.drew, k + 1, rfl, by omega, by rw [take_one hl, take_one hl', ht, this]⟩, dec hkn⟩
    · have hkn : ¬ k < n := by simpa using hc
      rw [take_all (by omega), take_all (by omega)] at ht
      exact ⟨by simp [ht], hq⟩
theorem k_EqInts (h1 : Row encInt w a n c l) (h2 : Row encInt w b m d l') : Cl Tryz.prog 28 #[.slice a n c, .slice b m d] w (Tells w (.bool (l == l'))) := by
  refine c28 _ _ _ _ _ _ ?_
  have e1 := h1.len; have e2 := h2.len; have e3 := h1.n63
  refine cnd (fun hc => ⟨?_, Qt.refl _⟩) fun hc => ?_
  · have : n ≠ m := by simp at hc; omega
    have : l ≠ l' := by rintro rfl; omega
    simp [this]
  · have hnm : n = m := by simp at hc; omega
    refine ⟨fun _ i w' => Qt w w' ∧ ∃ k : Nat, i = k ∧ k ≤ n ∧ l.take k = l'.take k, fun _ i _ => n - i.toNat, ⟨Qt.refl _, 0, rfl, by omega, rfl⟩, ?_⟩
    rintro _ w1 s _ ⟨hq, k, rfl, hk, ht⟩
    refine cnd (fun hc => ?_) fun hc => ?_
    · have hkn : k < n := by simpa using hc
      rintro w2 rfl
      refine (h1.qt hq.drew).intN hkn fun hl => ?_
      refine (h2.qt hq.drew).intN (by omega) fun hl' => ?_
      refine cnd (fun hc => ⟨?_, hq.drew⟩) fun hc => ?_
      · have : l[k] ≠ l'[k] := by simpa using hc
        have : l ≠ l' := by rintro rfl; exact this rfl
        simp [this]
      · have : l[k] = l'[k] := by simpa using hc
        rw [nx (by omega)]
        exact ⟨⟨hq.drew, k + 1, rfl, by omega, by rw [take_one hl, take_one hl', ht, this]⟩, dec hkn⟩
    · have hkn : ¬ k < n := by simpa using hc
      rw [take_all (by omega), take_all (by omega)] at ht
      exact ⟨by simp [ht], hq⟩
theorem k_r03Has (h : Row encId w a n c l) (x : Int) : Cl Tryz.prog 55 #[.slice a n c, .int .u64 x] w (Tells w (.bool (decide (x ∈ l)))) := by
  refine c55 _ _ _ _ ?_
  have e1 := h.len; have e3 := h.n63
  refine ⟨fun _ i w' => w' = w ∧ ∃ k : Nat, i = k ∧ k ≤ n ∧ x ∉ l.take k, fun _ i _ => n - i.toNat, ⟨rfl, 0, rfl, by omega, by simp⟩, ?_⟩
  rintro _ w1 s _ ⟨rfl, k, rfl, hk, ht⟩
  refine cnd (fun hc => ?_) fun hc => ?_
  · have hkn : k < n := by simpa using hc
    refine h.idN hkn fun hl => ?_
    refine cnd (fun hc => ⟨?_, Qt.refl _⟩) fun hc => ?_
    · have : l[k] = x := by simpa using hc
      have : x ∈ l := by rw [← this]; exact List.getElem_mem _
      simp [this]
    · have : l[k] ≠ x := by simpa using hc
      rw [nx (by omega)]
      exact ⟨⟨rfl, k + 1, rfl, by omega, by rw [take_one hl]; simp [-List.take_append_getElem, ht, Ne.symm this]⟩, dec hkn⟩
  · have hkn : ¬ k < n := by simpa using hc
    rw [take_all (by omega)] at ht
    exact ⟨by simp [ht], Qt.refl _⟩
/-- A row that grows in a loop. -/
def with3 (l : List Int) (x : Int) : List Int := l.filter (fun y => decide (y < x)) ++ x :: l.filter (fun y => decide (x < y))
def without3 (l : List Int) (x : Int) : List Int := l.filter (fun y => y != x)
theorem k_r03Without (h : Row encId w a n c l) (x : Int) (hs : n ≤ 1048576) : Cl Tryz.prog 57 #[.slice a n c, .int .u64 x] w (Made encId 1 32 w (without3 l x)) := by
  refine c57 _ _ _ _ ?_
  have e1 := h.len
  refine ⟨fun oa on oc i w' => Below w.heap.size w w' ∧ ∃ k : Nat, i = k ∧ k ≤ n ∧ Own encId 1 32 w.heap.size w' oa on oc (without3 (l.take k) x), fun _ _ _ i _ => n - i.toNat, ⟨Below.refl _ _, 0, rfl, by omega, Own.nil⟩, ?_⟩
  rintro _ w1 oa on oc _ ⟨hB, k, rfl, hk, ho⟩
  refine cnd (fun hc => ?_) fun hc => ?_
  · have hkn : k < n := by simpa using hc
    have hon : on ≤ k := by have := ho.len; have := List.length_filter_le (fun y => y != x) (l.take k); simp only [without3, List.length_take] at *; omega
    refine (h.below hB).idN hkn fun hl => ?_
    rw [nx (by omega)]
    refine cnd (fun hc => ?_) fun hc => ?_
    · refine app1 tyIds enId ho hB.size _ (by simp only [maxLen]; omega) (by omega) fun a' c' w' ho' hg => ?_
      refine ⟨⟨hB.grown hg hB.size (fun k hk => ?_), k + 1, rfl, by omega, ?_⟩, dec hkn⟩
      · cases oa with
        | none => simp at hk
        | some p => simp at hk; subst hk; exact (ho.lt rfl).1
      · rw [take_one hl]; simpa [-List.take_append_getElem, without3, hc] using ho'
    · refine ⟨⟨hB, k + 1, rfl, by omega, ?_⟩, dec hkn⟩
      rw [take_one hl]; simpa [-List.take_append_getElem, without3, hc] using ho
  · have hkn : ¬ k < n := by simpa using hc
    rw [take_all (by omega)] at ho
    exact ⟨_, _, _, rfl, ho, hB⟩
end
end Go.Eng
namespace Go.Eng
open Go Go.RowKit Go.Proofs
set_option maxRecDepth 10000
/-- A call that turns nothing at all. -/
def Is (v : Value) (w : World) : Value → World → Prop := fun v' w' => v' = v ∧ w' = w
theorem Cl.is {P : Program} {g : FuncId} {args : Array Value} {w : World} {v : Value} {K : Value → World → Prop} (h : Cl P g args w (Is v w)) (hk : K v w) : Cl P g args w K :=
  h.mono fun v' w' ⟨e1, e2⟩ => by subst e1; subst e2; exact hk
theorem Cl.tells {P : Program} {g : FuncId} {args : Array Value} {w : World} {v : Value} {K : Value → World → Prop} (h : Cl P g args w (Tells w v)) (hk : ∀ w', Qt w w' → K v w') : Cl P g args w K :=
  h.mono fun v' w' ⟨e1, e2⟩ => by subst e1; exact hk w' e2
def is1 (n low most : Int) : Bool := decide (low ≤ n) && decide (n ≤ most)
def hi1 (id : Int) : Int := IntKind.i64.wrap (Int.tmod (IntKind.u64.wrap (Int.tdiv id 4294967296)) 1073741824)
def lo1 (id : Int) : Int := IntKind.i64.wrap (Int.tmod id 1073741824)
def made1 (mark a b : Int) : Int := IntKind.u64.wrap ((IntKind.u64.wrap (mark + (IntKind.u64.wrap ((IntKind.u64.wrap a) * 4294967296)))) + (IntKind.u64.wrap b))
/-- The kind of an id, as the document says it. -/
def kind1 (id : Int) : Int :=
  if (id == made1 0 (hi1 id) (lo1 id)) = true ∧ is1 (lo1 id) 1 1048578 = true ∧ is1 (hi1 id) 0 7 = true then 1
  else if (id == made1 4611686018427387904 0 (lo1 id)) = true ∧ is1 (lo1 id) 1 24 = true then 2
  else if (id == made1 9223372036854775808 (hi1 id) (lo1 id)) = true ∧ is1 (hi1 id) 1 1048578 = true ∧ is1 (lo1 id) 1 1048578 = true then 3
  else if (id == made1 9223372036854775808 (hi1 id) (lo1 id)) = true ∧ is1 (hi1 id) 0 1048578 = true ∧ is1 (lo1 id) 0 1048578 = true then 4
  else 0
def may3 (id : Int) : Bool := kind1 id == 2 || kind1 id == 3
theorem k_r01Halves (id : Int) {w : World} : Cl Tryz.prog 140 #[.int .u64 id] w (Is (.tuple #[.int .i64 (hi1 id), .int .i64 (lo1 id)]) w) := c140 _ ⟨rfl, rfl⟩
theorem k_r01Made (mark a b : Int) {w : World} : Cl Tryz.prog 141 #[.int .u64 mark, .int .i64 a, .int .i64 b] w (Is (.int .u64 (made1 mark a b)) w) := c141 _ _ _ ⟨rfl, rfl⟩
theorem k_r01Is (n low most : Int) {w : World} : Cl Tryz.prog 142 #[.int .i64 n, .int .i64 low, .int .i64 most] w (Is (.bool (is1 n low most)) w) :=
  c142 _ _ _ (cnd (fun h => ⟨by simp [is1, h], rfl⟩) (fun h => ⟨by simp [is1, h], rfl⟩))
theorem k_r01Kind (id : Int) {w : World} : Cl Tryz.prog 106 #[.int .u64 id] w (Is (.int .i64 (kind1 id)) w) := by
  refine c106 _ ?_
  refine (k_r01Halves id).is ⟨_, _, rfl, ?_⟩
  repeat' first
    | refine (k_r01Made _ _ _).is ⟨_, rfl, ?_⟩
    | refine (k_r01Is _ _ _).is ⟨_, rfl, ?_⟩
    | refine cnd (fun _ => ?_) (fun _ => ?_)
  all_goals first
    | (refine ⟨?_, rfl⟩; simp only [kind1, *, true_and, and_true, and_false, false_and, and_self, Bool.false_eq_true, if_true, if_false]; done)
    | exact absurd (‹is1 (lo1 id) 1 1048578 = true›.symm.trans ‹is1 (lo1 id) 1 1048578 = false›) (by decide)
    | exact absurd (‹(id == made1 9223372036854775808 (hi1 id) (lo1 id)) = true›.symm.trans ‹(id == made1 9223372036854775808 (hi1 id) (lo1 id)) = false›) (by decide)
theorem k_r03May (id : Int) {w : World} : Cl Tryz.prog 56 #[.int .u64 id] w (Is (.bool (may3 id)) w) := by
  refine c56 _ ?_
  refine (k_r01Kind id).is ⟨_, rfl, cnd (fun h => ⟨by simp [may3, h], rfl⟩) fun h => ?_⟩
  exact (k_r01Kind id).is ⟨_, rfl, ⟨by simp [may3, h], rfl⟩⟩
/-- In order, each once, and each may be. -/
def up3 : List Int → Bool
  | [] => true
  | [x] => may3 x
  | x :: y :: l => may3 x && decide (x < y) && up3 (y :: l)
def right3 (l : List Int) : Bool := up3 l && decide (l.length ≤ 12)
theorem up3_snoc : ∀ (l : List Int) (y : Int), up3 (l ++ [y]) = (up3 l && may3 y && (match l.getLast? with | some x => decide (x < y) | none => true))
  | [], y => by simp [up3]
  | [x], y => by simp [up3, Bool.and_comm, Bool.and_assoc]
  | x :: z :: l, y => by
    have := up3_snoc (z :: l) y
    simp only [List.cons_append, up3] at this ⊢
    rw [this]
    simp [List.getLast?_cons_cons, Bool.and_assoc]
theorem up3_take {l : List Int} {k : Nat} (h : up3 l = true) : up3 (l.take k) = true := by
  induction l generalizing k with
  | nil => simp [up3]
  | cons x l ih =>
    cases k with
    | zero => simp [up3]
    | succ k =>
      cases l with
      | nil => simpa [up3] using h
      | cons y l =>
        cases k with
        | zero => simp only [up3, Bool.and_eq_true] at h; simpa [up3] using h.1.1
        | succ k =>
          simp only [up3, Bool.and_eq_true] at h
          have := ih (k := k + 1) h.2
          simp only [List.take_succ_cons] at this ⊢
          simp only [up3, h.1.1, h.1.2, this, Bool.and_self]
theorem getLast_take {l : List Int} {k : Nat} (hk : 0 < k) (hl : k < l.length) : (l.take k).getLast? = some l[k - 1] := by
  rw [List.getLast?_eq_getElem?, List.length_take, Nat.min_eq_left (by omega), List.getElem?_take, if_pos (by omega), List.getElem?_eq_getElem]
section
variable {w : World} {a b : Option Addr} {n c m d : Nat} {l l' : List Int}
theorem k_r03Right (h : Row encId w a n c l) : Cl Tryz.prog 23 #[.slice a n c] w (Is (.bool (right3 l)) w) := by
  refine c23 _ _ _ ?_
  have e1 := h.len; have e3 := h.n63
  refine ⟨fun _ i w' => w' = w ∧ ∃ k : Nat, i = k ∧ k ≤ n ∧ up3 (l.take k) = true, fun _ i _ => n - i.toNat, ⟨rfl, 0, rfl, by omega, rfl⟩, ?_⟩
  rintro _ w1 s _ ⟨rfl, k, rfl, hk, ht⟩
  refine cnd (fun hc => ?_) fun hc => ?_
  · have hkn : k < n := by simpa using hc
    refine h.idN hkn fun hl => ?_
    have hno : up3 (l.take (k + 1)) = false → right3 l = false := by
      intro hf
      cases hu : up3 l with
      | false => simp [right3, hu]
      | true => rw [up3_take hu] at hf; simp at hf
    rw [take_one hl, up3_snoc, ht] at hno
    refine (k_r03May _).is ⟨_, rfl, cnd (fun hc => ⟨?_, rfl⟩) fun hc => ?_⟩
    · rw [hno (by simp at hc; simp [hc])]
    · have hm : may3 l[k] = true := by simpa using hc
      rw [nx (by omega)]
      refine cnd (fun hc => ?_) fun hc => ?_
      · have hk0 : 0 < k := by simpa using hc
        have e : IntKind.i64.wrap ((k : Int) - 1) = ((k - 1 : Nat) : Int) := by rw [wrap64 (by omega) (by omega)]; omega
        rw [e]
        refine h.idN (by omega) fun hl' => ?_
        rw [getLast_take hk0 hl] at hno
        refine cnd (fun hc => ⟨?_, rfl⟩) fun hc => ?_
        · rw [hno]
          have : ¬ l[k - 1] < l[k] := by simp at hc; omega
          simp [this]
        · refine ⟨⟨rfl, k + 1, rfl, by omega, ?_⟩, dec hkn⟩
          have : l[k - 1] < l[k] := by simp at hc; omega
          rw [take_one hl, up3_snoc, ht, getLast_take hk0 hl, hm]
          simp [this]
      · have hk0 : k = 0 := by simp at hc; omega
        subst hk0
        exact ⟨⟨rfl, 0 + 1, rfl, by omega, by rw [take_one hl, up3_snoc]; simp [up3, hm]⟩, dec hkn⟩
  · have hkn : ¬ k < n := by simpa using hc
    rw [take_all (by omega)] at ht
    refine ⟨?_, rfl⟩
    have : decide ((n : Int) ≤ 12) = decide (l.length ≤ 12) := by rw [e1]; congr 1; simp; omega
    rw [right3, ht, this]; rfl
end
end Go.Eng
namespace Go.Eng
open Go Go.RowKit Go.Proofs
set_option maxRecDepth 10000
theorem cell_alloc {w : World} {a : Addr} {v : Value} (h : w.cell? a = some v) (o : Obj) : (w.alloc o).cell? a = some v := by
  rw [World.cell?_alloc_lt _ _ _ (World.block_lt_of_cell? w a h), h]
theorem cell_below {w w' : World} {a : Addr} {v : Value} (h : w.cell? a = some v) (hB : Below w.heap.size w w') : w'.cell? a = some v := by
  rw [hB.cell (World.block_lt_of_cell? w a h), h]
theorem alloc_below (w : World) (o : Obj) : Below w.heap.size w (w.alloc o) := (Below.refl _ _).alloc (Nat.le_refl _) _
/-- A row that was made for a call. -/
theorem row_new {α : Type} {enc : α → List Value} {k : Nat} (E : En enc k) (w : World) (e : TypeId) (l : List α) (hl : l.length ≤ 1000) : Row enc (w.alloc (.cells (l.flatMap enc).toArray e)) (some ⟨w.heap.size, 0, none⟩) l.length l.length l :=
  (Own.new (lo := 0) E.len w l (Nat.zero_le _) (by simp only [maxLen]; omega)).row
theorem k_iwithin (low most : Int) {w : World} {a : Option Addr} {n c : Nat} {l : List Int} (h : Row encInt w a n c l) : Cl Tryz.prog 95 #[.int .i64 low, .int .i64 most, .slice a n c] w (Is (.bool (l.all fun x => is1 x low most)) w) := by
  refine c95 _ _ _ _ _ ?_
  have e1 := h.len; have e3 := h.n63
  refine ⟨fun ok i w' => ok = true ∧ w' = w ∧ ∃ k : Nat, i = k ∧ k ≤ n ∧ (l.take k).all (fun x => is1 x low most) = true, fun _ i _ => n - i.toNat, ⟨rfl, rfl, 0, rfl, by omega, rfl⟩, ?_⟩
  rintro _ w1 s _ ⟨rfl, rfl, k, rfl, hk, ht⟩
  have hno : ∀ hl : k < l.length, is1 l[k] low most = false → (l.all fun x => is1 x low most) = false := by
    intro hl hf
    rw [List.all_eq_false]
    exact ⟨_, List.getElem_mem hl, by rw [hf]; simp⟩
  refine cnd (fun hc => ?_) fun hc => ?_
  · have hkn : k < n := by simpa using hc
    refine h.intN hkn fun hl => ?_
    refine cnd (fun h1 => cnd (fun h2 => ⟨?_, rfl⟩) fun h2 => ?_) fun h1 => ⟨?_, rfl⟩
    · have h2' : decide (l[k] ≤ most) = false := by simpa using h2
      rw [hno hl (by simp only [is1, h2', Bool.and_false]), h2']
    · have h2' : decide (l[k] ≤ most) = true := by simpa using h2
      rw [nx (by omega)]
      refine ⟨⟨h2', rfl, k + 1, rfl, by omega, ?_⟩, dec hkn⟩
      rw [take_one hl, List.all_append, ht]
      simp only [List.all_cons, List.all_nil, is1, h1, h2', Bool.and_self]
    · rw [hno hl (by simp only [is1, h1, Bool.false_and])]
  · have hkn : ¬ k < n := by simpa using hc
    rw [take_all (by omega)] at ht
    exact ⟨by rw [ht], rfl⟩
def packed2 (mark second first : Int) : Int := bor .u64 (bor .u64 mark (bshl .u64 (IntKind.u64.wrap second) 32)) (IntKind.u64.wrap first)
def hi2 (id : Int) : Int := IntKind.i64.wrap (band .u64 (bshr .u64 id 32) 1073741823)
def lo2 (id : Int) : Int := IntKind.i64.wrap (band .u64 id 1073741823)
theorem k_ipacked (m a b : Int) {w : World} : Cl Tryz.prog 96 #[.int .u64 m, .int .i64 a, .int .i64 b] w (Is (.int .u64 (packed2 m a b)) w) := c96 _ _ _ ⟨rfl, rfl⟩
theorem k_ihalves (id : Int) {w : World} : Cl Tryz.prog 144 #[.int .u64 id] w (Is (.tuple #[.int .i64 (hi2 id), .int .i64 (lo2 id)]) w) := c144 _ ⟨rfl, rfl⟩
def ent2 (id a b : Int) : Bool := (id == packed2 0 a b) && (is1 b 1 1048578 && is1 a 0 7)
def com2 (id b : Int) : Bool := (id == packed2 4611686018427387904 0 b) && is1 b 1 24
def pai2 (id a b : Int) : Bool := (id == packed2 9223372036854775808 a b) && (is1 a 1 1048578 && is1 b 1 1048578)
def pat2 (id a b : Int) : Bool := (id == packed2 9223372036854775808 a b) && (is1 a 0 1048578 && is1 b 0 1048578)
/-- A call that makes blocks of its own alone. -/
def Gives (w : World) (v : Value) : Value → World → Prop := fun v' w' => v' = v ∧ Below w.heap.size w w'
theorem Cl.gives {P : Program} {g : FuncId} {args : Array Value} {w : World} {v : Value} {K : Value → World → Prop} (h : Cl P g args w (Gives w v)) (hk : ∀ w', Below w.heap.size w w' → K v w') : Cl P g args w K :=
  h.mono fun v' w' ⟨e1, e2⟩ => by subst e1; exact hk w' e2
section
variable {w : World} {c0 c1 c2 : Addr} {id a b : Int}
theorem k_iKind1 (h0 : w.cell? c0 = some (.int .u64 id)) (h1 : w.cell? c1 = some (.int .i64 a)) (h2 : w.cell? c2 = some (.int .i64 b)) :
    Cl Tryz.prog 145 #[.pointer (some c0), .pointer (some c1), .pointer (some c2)] w (Gives w (.bool (ent2 id a b))) := by
  refine c145 _ _ _ ?_
  rintro _ rfl
  refine ⟨_, h0, _, h1, _, h2, (k_ipacked _ _ _).is ⟨_, rfl, h0, cnd (fun he => ?_) fun he => ⟨by simp only [ent2, he, Bool.false_and], (Below.refl _ _).drew⟩⟩⟩
  refine ⟨_, h2, ?_⟩
  rintro _ _ rfl rfl
  refine (k_iwithin 1 1048578 (row_new enInt w.drew 3 [b] (by simp))).is ⟨_, rfl, ?_⟩
  have hB := ((Below.refl w.heap.size w).drew).alloc (o := .cells ([b].flatMap encInt).toArray 3) (Nat.le_refl _)
  refine cnd (fun hi => ⟨_, cell_alloc (w := w.drew) h1 _, ?_⟩) fun hi => ⟨?_, hB⟩
  · rintro _ _ rfl rfl
    refine (k_iwithin 0 7 (row_new enInt _ 3 [a] (by simp))).is ⟨_, rfl, ?_, hB.alloc hB.size _⟩
    simp only [List.all_cons, List.all_nil, Bool.and_true] at hi ⊢
    simp only [ent2, he, hi, Bool.true_and]
  · simp only [List.all_cons, List.all_nil, Bool.and_true] at hi
    simp only [ent2, he, hi, Bool.false_and, Bool.and_false]
theorem k_iKind2 (h0 : w.cell? c0 = some (.int .u64 id)) (h2 : w.cell? c2 = some (.int .i64 b)) :
    Cl Tryz.prog 146 #[.pointer (some c0), .pointer (some c2)] w (Gives w (.bool (com2 id b))) := by
  refine c146 _ _ ?_
  rintro _ rfl
  refine ⟨_, h0, _, h2, (k_ipacked _ _ _).is ⟨_, rfl, h0, cnd (fun he => ?_) fun he => ⟨by simp only [com2, he, Bool.false_and], (Below.refl _ _).drew⟩⟩⟩
  refine ⟨_, h2, ?_⟩
  rintro _ _ rfl rfl
  refine (k_iwithin 1 24 (row_new enInt w.drew 3 [b] (by simp))).is ⟨_, rfl, ?_, ((Below.refl w.heap.size w).drew).alloc (Nat.le_refl _) _⟩
  simp only [com2, he, Bool.true_and, List.all_cons, List.all_nil, Bool.and_true]
theorem k_iKind3 (h0 : w.cell? c0 = some (.int .u64 id)) (h1 : w.cell? c1 = some (.int .i64 a)) (h2 : w.cell? c2 = some (.int .i64 b)) :
    Cl Tryz.prog 147 #[.pointer (some c0), .pointer (some c1), .pointer (some c2)] w (Gives w (.bool (pai2 id a b))) := by
  refine c147 _ _ _ ?_
  rintro _ rfl
  refine ⟨_, h0, _, h1, _, h2, (k_ipacked _ _ _).is ⟨_, rfl, h0, cnd (fun he => ?_) fun he => ⟨by simp only [pai2, he, Bool.false_and], (Below.refl _ _).drew⟩⟩⟩
  refine ⟨_, h1, _, h2, ?_⟩
  rintro _ _ rfl rfl
  refine (k_iwithin 1 1048578 (row_new enInt w.drew 3 [a, b] (by simp))).is ⟨_, rfl, ?_, ((Below.refl w.heap.size w).drew).alloc (Nat.le_refl _) _⟩
  simp only [pai2, he, Bool.true_and, List.all_cons, List.all_nil, Bool.and_true]
theorem k_iKind4 (h0 : w.cell? c0 = some (.int .u64 id)) (h1 : w.cell? c1 = some (.int .i64 a)) (h2 : w.cell? c2 = some (.int .i64 b)) :
    Cl Tryz.prog 148 #[.pointer (some c0), .pointer (some c1), .pointer (some c2)] w (Gives w (.bool (pat2 id a b))) := by
  refine c148 _ _ _ ?_
  rintro _ rfl
  refine ⟨_, h0, _, h1, _, h2, (k_ipacked _ _ _).is ⟨_, rfl, h0, cnd (fun he => ?_) fun he => ⟨by simp only [pat2, he, Bool.false_and], (Below.refl _ _).drew⟩⟩⟩
  refine ⟨_, h1, _, h2, ?_⟩
  rintro _ _ rfl rfl
  refine (k_iwithin 0 1048578 (row_new enInt w.drew 3 [a, b] (by simp))).is ⟨_, rfl, ?_, ((Below.refl w.heap.size w).drew).alloc (Nat.le_refl _) _⟩
  simp only [pat2, he, Bool.true_and, List.all_cons, List.all_nil, Bool.and_true]
end
/-- The kind of an id, as the code says it. -/
def kind2 (id : Int) : Int :=
  if ent2 id (hi2 id) (lo2 id) then 1 else if com2 id (lo2 id) then 2 else if pai2 id (hi2 id) (lo2 id) then 3 else if pat2 id (hi2 id) (lo2 id) then 4 else 0
theorem k_iKind (id : Int) {w : World} : Cl Tryz.prog 114 #[.int .u64 id] w (Gives w (.int .i64 (kind2 id))) := by
  refine c114 _ ?_
  rintro _ _ rfl rfl
  have q1 := blk_new (w := w) (.cells #[.int .u64 id] 32)
  have B1 := alloc_below w (.cells #[.int .u64 id] 32)
  generalize w.alloc (.cells #[.int .u64 id] 32) = w1 at q1 B1
  refine ⟨_, blk_cell q1 0, (k_ihalves id).is ⟨_, _, rfl, ?_⟩⟩
  rintro _ w3 rfl h3 _ w4 rfl h4
  have q2 : w4.heap[w1.heap.size]? = some (.cells #[.int .i64 0] 3) := by rw [h4, h3]; exact blk_alloc (blk_new _)
  have q3 : w4.heap[w3.heap.size]? = some (.cells #[.int .i64 0] 3) := by rw [h4]; exact blk_new _
  have B4 : Below w1.heap.size w1 w4 := by rw [h4, h3]; exact ((alloc_below w1 _)).alloc (by rw [size_alloc]; omega) _
  have n3 : w3.heap.size = w1.heap.size + 1 := by rw [h3, size_alloc]
  refine ⟨blk_some q2 (by decide), blk_free q2 _, ?_⟩
  rintro w5 rfl
  have q2' := blk_set q2 0 (.int .i64 (hi2 id))
  have q3' := blk_far q3 (a := ⟨w1.heap.size, 0, none⟩) (by show w3.heap.size ≠ w1.heap.size; omega) (.int .i64 (hi2 id))
  have B5 := B4.setCell (p := ⟨w1.heap.size, 0, none⟩) (Nat.le_refl _) (.int .i64 (hi2 id))
  generalize w4.setCell ⟨w1.heap.size, 0, none⟩ (.int .i64 (hi2 id)) = w5 at q2' q3' B5
  refine ⟨blk_some q3' (by decide), blk_free q3' _, ?_⟩
  rintro w6 rfl
  have r2 := blk_far q2' (a := ⟨w3.heap.size, 0, none⟩) (by show w1.heap.size ≠ w3.heap.size; omega) (.int .i64 (lo2 id))
  have r3 := blk_set q3' 0 (.int .i64 (lo2 id))
  have B6 := B5.setCell (p := ⟨w3.heap.size, 0, none⟩) (by show w1.heap.size ≤ w3.heap.size; omega) (.int .i64 (lo2 id))
  generalize w5.setCell ⟨w3.heap.size, 0, none⟩ (.int .i64 (lo2 id)) = w6 at r2 r3 B6
  have r1 := blk_below q1 B6 (blk_lt q1)
  rintro b4 w7 hb4 h7
  obtain ⟨t7, s7⟩ : ∃ t, w7.heap[b4]? = some (.cells #[.nilFunc, .nilFunc, .nilFunc, .nilFunc, .nilFunc] t (0, 0)) := by subst h7; subst hb4; exact ⟨_, blk_new _⟩
  refine ⟨blk_some s7 (by decide), blk_free s7 _, blk_some s7 (j := 1) (by decide), blk_free s7 1, blk_some s7 (j := 2) (by decide), blk_free s7 2, blk_some s7 (j := 3) (by decide), blk_free s7 3, blk_some s7 (j := 4) (by decide), blk_free s7 4, ?_⟩
  rintro w8 h8
  have s8 := blk_set (blk_set (blk_set (blk_set (blk_set s7 0 .nilFunc) 1 (.func (.func 145) #[] #[.pointer (some (Addr.mk w.heap.size 0 none)), .pointer (some (Addr.mk w1.heap.size 0 none)), .pointer (some (Addr.mk w3.heap.size 0 none))]))
    2 (.func (.func 146) #[] #[.pointer (some (Addr.mk w.heap.size 0 none)), .pointer (some (Addr.mk w3.heap.size 0 none))]))
    3 (.func (.func 147) #[] #[.pointer (some (Addr.mk w.heap.size 0 none)), .pointer (some (Addr.mk w1.heap.size 0 none)), .pointer (some (Addr.mk w3.heap.size 0 none))]))
    4 (.func (.func 148) #[] #[.pointer (some (Addr.mk w.heap.size 0 none)), .pointer (some (Addr.mk w1.heap.size 0 none)), .pointer (some (Addr.mk w3.heap.size 0 none))])
  have B8 : Below w6.heap.size w6 w8 := by
    subst h8 h7 hb4
    exact (((((alloc_below w6 _).setCell (Nat.le_refl _) _).setCell (Nat.le_refl _) _).setCell (Nat.le_refl _) _).setCell (Nat.le_refl _) _).setCell (Nat.le_refl _) _
  have s9 : w8.heap[b4]? = some (.cells #[.nilFunc, .func (.func 145) #[] #[.pointer (some (Addr.mk w.heap.size 0 none)), .pointer (some (Addr.mk w1.heap.size 0 none)), .pointer (some (Addr.mk w3.heap.size 0 none))], .func (.func 146) #[] #[.pointer (some (Addr.mk w.heap.size 0 none)), .pointer (some (Addr.mk w3.heap.size 0 none))], .func (.func 147) #[] #[.pointer (some (Addr.mk w.heap.size 0 none)), .pointer (some (Addr.mk w1.heap.size 0 none)), .pointer (some (Addr.mk w3.heap.size 0 none))], .func (.func 148) #[] #[.pointer (some (Addr.mk w.heap.size 0 none)), .pointer (some (Addr.mk w1.heap.size 0 none)), .pointer (some (Addr.mk w3.heap.size 0 none))]] t7 (0, 0)) := by rw [h8]; exact s8
  clear s8 s7 h8 h7
  have BB : Below w.heap.size w w8 := (B1.trans (B6.mono B1.size)).trans (B8.mono (Nat.le_trans B1.size B6.size))
  have t1 := blk_cell (blk_below r1 B8 (blk_lt r1)) 0
  have t2 := blk_cell (blk_below r2 B8 (blk_lt r2)) 0
  have t3 := blk_cell (blk_below r3 B8 (blk_lt r3)) 0
  refine ⟨fun _ k w' => Below w8.heap.size w8 w' ∧ (k = 1 ∨ (k = 2 ∧ ent2 id (hi2 id) (lo2 id) = false) ∨ (k = 3 ∧ ent2 id (hi2 id) (lo2 id) = false ∧ com2 id (lo2 id) = false) ∨
      (k = 4 ∧ ent2 id (hi2 id) (lo2 id) = false ∧ com2 id (lo2 id) = false ∧ pai2 id (hi2 id) (lo2 id) = false) ∨ (k = 5 ∧ kind2 id = 0)), fun _ k _ => 5 - k.toNat, ⟨Below.refl _ _, .inl rfl⟩, ?_⟩
  rintro _ w9 _ k ⟨B9, hk⟩
  have u1 := cell_below t1 B9
  have u2 := cell_below t2 B9
  have u3 := cell_below t3 B9
  have u4 := blk_below s9 B9 (blk_lt s9)
  have fin : Below w.heap.size w w9 := BB.trans (B9.mono BB.size)
  rcases hk with rfl | ⟨rfl, e1⟩ | ⟨rfl, e1, e2⟩ | ⟨rfl, e1, e2, e3⟩ | ⟨rfl, e1⟩
  · refine ⟨by decide, by decide, _, [_, _, _], blk_cell u4 1, (k_iKind1 u1 u2 u3).gives fun w' hB => ⟨_, rfl, cnd (fun h => ⟨by simp only [kind2, h, if_true], fin.trans (hB.mono fin.size)⟩) fun h => ?_⟩⟩
    exact ⟨⟨B9.trans (hB.mono B9.size), .inr (.inl ⟨by decide, h⟩)⟩, by dsimp only; decide⟩
  · refine ⟨by decide, by decide, _, [_, _], blk_cell u4 2, (k_iKind2 u1 u3).gives fun w' hB => ⟨_, rfl, cnd (fun h => ⟨by simp only [kind2, e1, h, if_true, Bool.false_eq_true, if_false], fin.trans (hB.mono fin.size)⟩) fun h => ?_⟩⟩
    exact ⟨⟨B9.trans (hB.mono B9.size), .inr (.inr (.inl ⟨by decide, e1, h⟩))⟩, by dsimp only; decide⟩
  · refine ⟨by decide, by decide, _, [_, _, _], blk_cell u4 3, (k_iKind3 u1 u2 u3).gives fun w' hB => ⟨_, rfl, cnd (fun h => ⟨by simp only [kind2, e1, e2, h, if_true, Bool.false_eq_true, if_false], fin.trans (hB.mono fin.size)⟩) fun h => ?_⟩⟩
    exact ⟨⟨B9.trans (hB.mono B9.size), .inr (.inr (.inr (.inl ⟨by decide, e1, e2, h⟩)))⟩, by dsimp only; decide⟩
  · refine ⟨by decide, by decide, _, [_, _, _], blk_cell u4 4, (k_iKind4 u1 u2 u3).gives fun w' hB => ⟨_, rfl, cnd (fun h => ⟨by simp only [kind2, e1, e2, e3, h, if_true, Bool.false_eq_true, if_false], fin.trans (hB.mono fin.size)⟩) fun h => ?_⟩⟩
    exact ⟨⟨B9.trans (hB.mono B9.size), .inr (.inr (.inr (.inr ⟨by decide, by simp only [kind2, e1, e2, e3, h, Bool.false_eq_true, if_false]⟩)))⟩, by dsimp only; decide⟩
  · exact ⟨by rw [e1], fin⟩
def may2 (id : Int) : Bool := kind2 id == 2 || kind2 id == 3
theorem k_tmay (id : Int) {w : World} : Cl Tryz.prog 70 #[.int .u64 id] w (Gives w (.bool (may2 id))) :=
  c70 _ ((k_iKind id).gives fun w' hB => ⟨_, rfl, cnd (fun h => ⟨by simp only [may2, h, Bool.true_or], hB⟩) fun h => ⟨by simp only [may2, h, Bool.false_or], hB⟩⟩)
end Go.Eng
namespace Go.Eng
open Go Go.RowKit
variable {P : Program}
theorem below_grown {w w' : World} (h : Below w.heap.size w w') : w.grownBy w' none := ⟨h.os, h.tape, h.output, h.size, fun k hk _ => h.block k hk⟩
/-- An iterator's contract. J: what has been yielded; Jx: .. when it was stopped. -/
theorem seqs_of {g : FuncId} {lb : List Value} {xs : List (List Value)} {Kp : World → World → Prop} {w : World}
    (h : ∀ (l : Nat) (J Jx : List (List Value) → World → Prop) (W : World), Below w.heap.size w W → (∀ s A B, J s A → Below A.heap.size A B → J s B) → (∀ s A B, Jx s A → Below A.heap.size A B → Jx s B) →
      (∀ pre vs W1, vs ∈ xs → J pre W1 → pre.length < xs.length → Yl P l vs W1 fun b W' => cond b (J (pre ++ [vs]) W' ∧ Kp W1 W') (Jx (pre ++ [vs]) W')) → J [] W →
      Cl P g (.func (.yield l) #[] #[] :: lb).toArray W fun _ W' => J xs W' ∨ ∃ pre, pre <+: xs ∧ Jx pre W') : Seqs P g lb xs Kp w := by
  intro l J Jx W hB hA hAx hy h0
  have key := h l (fun pre W => ∃ pre' : List {v : List Value // v ∈ xs}, pre'.map (·.1) = pre ∧ J pre' W) (fun pre W => ∃ pre' : List {v : List Value // v ∈ xs}, pre'.map (·.1) = pre ∧ Jx pre' W) W hB
    (fun s A B ⟨p, hp, hj⟩ hb => ⟨p, hp, hA p A B none hj (below_grown hb) (fun r e => by cases e)⟩) (fun s A B ⟨p, hp, hj⟩ hb => ⟨p, hp, hAx p A B none hj (below_grown hb) (fun r e => by cases e)⟩) ?_ ⟨[], rfl, h0⟩
  · refine callsIn_wide.2 ?_
    have hl : (.func (.yield l) #[] #[] :: lb).toArray = #[.func (.yield l) #[] #[]] ++ lb.toArray := by simp
    have h2 := key.2
    rw [hl] at h2
    refine h2.mono ?_
    rintro e W' ⟨v, rfl, hv⟩
    refine ⟨⟨v, rfl⟩, ?_⟩
    rcases hv with ⟨p, hp, hj⟩ | ⟨pre, hpre, p, hp, hj⟩
    · exact .inl ⟨p, hp, hj⟩
    · exact .inr ⟨p, by show p.map (fun x => x.1) <+: xs; rw [hp]; exact hpre, hj⟩
  · rintro pre vs W1 hvs ⟨p, rfl, hj⟩ hlen
    obtain ⟨fn, tmps, asg, body, hr, hround⟩ := hy p ⟨vs, hvs⟩ W1 hj (by simpa using hlen)
    refine ⟨fn, tmps, asg, body, hr, hround.mono ?_⟩
    rintro e w' (⟨rfl, hj', hk⟩ | ⟨rfl, hj'⟩)
    · exact ⟨true, rfl, ⟨p ++ [⟨vs, hvs⟩], by simp, hj'⟩, hk⟩
    · exact ⟨false, rfl, p ++ [⟨vs, hvs⟩], by simp, hj'⟩
theorem Yl.mono {l : Nat} {args : List Value} {w : World} {K K' : Bool → World → Prop} (h : Yl P l args w K) (hk : ∀ b w', K b w' → K' b w') : Yl P l args w K' := by
  obtain ⟨fn, tmps, asg, body, hr, hround⟩ := h
  exact ⟨fn, tmps, asg, body, hr, hround.mono fun e w' ⟨b, he, hb⟩ => ⟨b, he, hk b w' hb⟩⟩
/-- What lies below a number, kept. -/
theorem keepOk_below {w : World} {n : Nat} (hn : n ≤ w.heap.size) : KeepOk w (Below n) where
  refl W := Below.refl _ _
  trans h k := h.trans k
  put W l o o' hl h _ _ := (Below.refl n W).grown (grownBy_putObj' W l o') (by have := (Array.getElem?_eq_some_iff.1 h).1; omega) (fun k e => by cases e; omega)
/-- Some blocks are kept. -/
def KS (S : Nat → Prop) (A B : World) : Prop := A.heap.size ≤ B.heap.size ∧ ∀ k, S k → B.heap[k]? = A.heap[k]?
theorem KS.refl (S : Nat → Prop) (A : World) : KS S A A := ⟨Nat.le_refl _, fun _ _ => rfl⟩
theorem KS.trans {S : Nat → Prop} {A B C : World} (h : KS S A B) (k : KS S B C) : KS S A C := ⟨Nat.le_trans h.1 k.1, fun i hi => (k.2 i hi).trans (h.2 i hi)⟩
theorem KS.cell {S : Nat → Prop} {A B : World} (h : KS S A B) {a : Addr} {v : Value} (hS : S a.block) (hc : A.cell? a = some v) : B.cell? a = some v := by
  rw [World.cell?_of_block (h.2 _ hS), hc]
theorem KS.blk {S : Nat → Prop} {A B : World} (h : KS S A B) {b : Nat} {o : Obj} (hS : S b) (hc : A.heap[b]? = some o) : B.heap[b]? = some o := (h.2 _ hS).trans hc
theorem KS.of_below {S : Nat → Prop} {A B : World} {n : Nat} (h : Below n A B) (hS : ∀ k, S k → k < n) : KS S A B := ⟨h.size, fun k hk => h.block k (hS k hk)⟩
theorem keepOk_ks {w : World} {S : Nat → Prop} (hS : ∀ k, S k → k < w.heap.size) : KeepOk w (KS S) where
  refl W := KS.refl _ _
  trans h k := h.trans k
  put W l o o' hl h _ _ := ⟨by simp, fun k hk => World.putObj_heap_other (by have := hS k hk; omega)⟩
theorem ownFrom_blk {β : Type} {B b : Nat} {cs : Array Value} {t : TypeId} {fr : Nat × Nat} : OwnFrom B fun (_ : β) W => W.heap[b]? = some (.cells cs t fr) := by
  intro s W W' row h hg hr
  refine (hg.block b (blk_lt h) ?_).trans h
  rintro rfl
  obtain ⟨_, o, ho, hc⟩ := hr b rfl
  rw [h] at ho; cases ho; simp [Obj.isCells] at hc
theorem ownFrom_below {β : Type} {B n : Nat} {w : World} (hn : n ≤ B) (hw : n ≤ w.heap.size) : OwnFrom B fun (_ : β) W => Below n w W := by
  intro s W W' row h hg hr
  exact h.grown hg (by have := h.size; omega) (fun k e => by have := (hr k e).1; omega)
theorem ownFrom_const {β : Type} {B : Nat} {p : β → Prop} : OwnFrom B fun (s : β) _ => p s := fun s W W' row h _ _ => h
/-- What is no cells may have turned: cells lie as they lay. -/
theorem NC.blk {B : Nat} {W W' : World} (h : NC B W W') {b : Nat} {cs : Array Value} {t : TypeId} {fr : Nat × Nat} (hb : W.heap[b]? = some (.cells cs t fr)) : W'.heap[b]? = some (.cells cs t fr) := by
  induction h with
  | refl => exact hb
  | step row hg hr _ ih =>
    refine ih ((hg.block b (blk_lt hb) ?_).trans hb)
    rintro rfl
    obtain ⟨_, o, ho, hc⟩ := hr b rfl
    rw [hb] at ho; cases ho; simp [Obj.isCells] at hc
/-- Only cells are put, or blocks are new. -/
theorem keepsFrom_set {B : Nat} {W : World} {b j : Nat} {cs : Array Value} {t : TypeId} {fr : Nat × Nat} (h : W.heap[b]? = some (.cells cs t fr)) (v : Value) : KeepsFrom B W (W.setCell ⟨b, j, none⟩ v) := by
  refine ⟨by simp, fun k o _ hk ho => ?_⟩
  exact blk_far hk (by rintro rfl; rw [h] at hk; cases hk; simp [Obj.isCells] at ho) v
theorem keepsFrom_below {B : Nat} {W W' : World} (h : Below W.heap.size W W') : KeepsFrom B W W' := ⟨h.size, fun k o _ hk _ => blk_below hk h (blk_lt hk)⟩
end Go.Eng
namespace Go.Eng
open Go Go.RowKit Go.Proofs
set_option maxRecDepth 10000
/-- What types.Check asks. -/
def up2 : List Int → Bool
  | [] => true
  | [x] => may2 x
  | x :: y :: l => may2 x && decide (x < y) && up2 (y :: l)
def right2 (l : List Int) : Bool := decide (l.length ≤ 12) && up2 l
def check2 (l : List Int) : Int := if right2 l then 0 else 130
theorem up2_snoc : ∀ (l : List Int) (y : Int), up2 (l ++ [y]) = (up2 l && may2 y && (match l.getLast? with | some x => decide (x < y) | none => true))
  | [], y => by simp [up2]
  | [x], y => by simp [up2, Bool.and_comm, Bool.and_assoc]
  | x :: z :: l, y => by
    have := up2_snoc (z :: l) y
    simp only [List.cons_append, up2] at this ⊢
    rw [this]
    simp [List.getLast?_cons_cons, Bool.and_assoc]
theorem up2_take {l : List Int} {k : Nat} (h : up2 l = true) : up2 (l.take k) = true := by
  induction l generalizing k with
  | nil => simp [up2]
  | cons x l ih =>
    cases k with
    | zero => simp [up2]
    | succ k =>
      cases l with
      | nil => simpa [up2] using h
      | cons y l =>
        cases k with
        | zero => simp only [up2, Bool.and_eq_true] at h; simpa [up2] using h.1.1
        | succ k =>
          simp only [up2, Bool.and_eq_true] at h
          have := ih (k := k + 1) h.2
          simp only [List.take_succ_cons] at this ⊢
          simp only [up2, h.1.1, h.1.2, this, Bool.and_self]
section
variable {w : World} {a b : Option Addr} {n c m d : Nat} {l l' : List Int}
theorem k_tCheck (h : Row encId w a n c l) : Cl Tryz.prog 39 #[.slice a n c] w (Gives w (.int .i64 (check2 l))) := by
  refine c39 _ _ _ ?_
  have e1 := h.len; have e3 := h.n63
  refine ⟨fun ok i w' => Below w.heap.size w w' ∧ ∃ k : Nat, i = k ∧ k ≤ n ∧ ok = decide (l.length ≤ 12) ∧ up2 (l.take k) = true ∧ (k ≠ 0 → ok = true), fun _ i _ => n - i.toNat, ⟨Below.refl _ _, 0, rfl, by omega, by rw [e1]; congr 1; simp; omega, rfl, by simp⟩, ?_⟩
  rintro _ w1 ok _ ⟨hB, k, rfl, hk, hok, ht, hok2⟩
  refine cnd (fun hc => ?_) fun hc => ?_
  · have hkn : k < n := by simpa using hc
    refine (h.below hB).idN hkn fun hl => ?_
    have hno : up2 (l.take (k + 1)) = false → check2 l = 130 := by
      intro hf
      cases hu : up2 l with
      | false => simp [check2, right2, hu]
      | true => rw [up2_take hu] at hf; simp at hf
    rw [take_one hl, up2_snoc, ht] at hno
    refine cnd (fun h1 => ?_) fun h1 => ⟨?_, hB⟩
    · refine (k_tmay _).gives fun w2 hB2 => ⟨_, rfl, cnd (fun h2 => ?_) fun h2 => ⟨by rw [hno (by rw [h2]; simp)], hB.trans (hB2.mono hB.size)⟩⟩
      have hB3 := hB.trans (hB2.mono hB.size)
      have h12 : l.length ≤ 12 := by rw [hok] at h1; simpa using h1
      refine cnd (fun h3 => ?_) fun h3 => ?_
      · have hk0 : k = 0 := by simp at h3; omega
        subst hk0
        rw [nx (by omega)]
        refine ⟨⟨hB3, 0 + 1, rfl, by omega, by simp [h12], ?_, by simp⟩, dec hkn⟩
        rw [take_one hl, up2_snoc]; simp [up2, h2]
      · have hk0 : 0 < k := by simp at h3; omega
        have e : IntKind.i64.wrap ((k : Int) - 1) = ((k - 1 : Nat) : Int) := by rw [wrap64 (by omega) (by omega)]; omega
        rw [e]
        refine (h.below hB3).idN (by omega) fun hl' => ?_
        rw [getLast_take hk0 hl] at hno
        refine cnd (fun h4 => ?_) fun h4 => ?_
        · have hlt : decide (l[k - 1] < l[k]) = false := by simpa using h4
          refine cnd (fun h5 => ⟨by rw [hno (by simp only [hlt, Bool.and_false])], hB3⟩) fun h5 => ?_
          rw [h4] at h5; simp at h5
        · have hlt : decide (l[k - 1] < l[k]) = true := by simpa using h4
          rw [nx (by omega)]
          refine ⟨⟨hB3, k + 1, rfl, by omega, by simp [hlt, h12], ?_, by simp [hlt]⟩, dec hkn⟩
          rw [take_one hl, up2_snoc, ht, getLast_take hk0 hl, h2]
          simp only [hlt, Bool.and_self]
    · have : right2 l = false := by rw [h1] at hok; simp [right2, ← hok]
      simp [check2, this]
  · have hkn : ¬ k < n := by simpa using hc
    rw [take_all (by omega)] at ht
    refine cnd (fun h1 => ⟨?_, hB⟩) fun h1 => ⟨?_, hB⟩
    · have : ok = false := by simpa using h1
      rw [this] at hok; simp [check2, right2, ← hok]
    · have : ok = true := by simpa using h1
      rw [this] at hok; simp [check2, right2, ← hok, ht]
theorem k_cmpNaNId (x : Int) : Cl Tryz.prog 131 #[.int .u64 x] w (Is (.bool false) w) := c131 _ ⟨by simp, rfl⟩
theorem k_slNaNId (x : Int) : Cl Tryz.prog 139 #[.int .u64 x] w (Is (.bool false) w) := c139 _ ⟨by simp, rfl⟩
theorem k_cmpLessId (x y : Int) : Cl Tryz.prog 138 #[.int .u64 x, .int .u64 y] w (Is (.bool (decide (x < y))) w) :=
  c138 _ _ ((k_cmpNaNId x).is ⟨_, rfl, ⟨rfl, rfl⟩⟩)
def cmpI (x y : Int) : Int := if x < y then -1 else if y < x then 1 else 0
theorem k_cmpCompareId (x y : Int) : Cl Tryz.prog 93 #[.int .u64 x, .int .u64 y] w (Is (.int .i64 (cmpI x y)) w) := by
  refine c93 _ _ ((k_cmpNaNId x).is ⟨_, rfl, (k_cmpNaNId y).is ⟨_, rfl, ?_⟩⟩)
  refine cnd (fun h => by cases h) fun _ => cnd (fun h => by cases h) fun _ => cnd (fun h => ⟨?_, rfl⟩) fun h => cnd (fun h2 => ⟨?_, rfl⟩) fun h2 => ⟨?_, rfl⟩
  · have : x < y := by simpa using h
    simp [cmpI, this]
  · have g1 : ¬ x < y := by simpa using h
    have g2 : y < x := by simpa using h2
    simp [cmpI, g1, g2]
  · have g1 : ¬ x < y := by simpa using h
    have g2 : ¬ y < x := by simpa using h2
    simp [cmpI, g1, g2]
/-- How rows stand. -/
def cmpL : List Int → List Int → Int
  | [], [] => 0
  | [], _ :: _ => -1
  | _ :: _, [] => 1
  | x :: l, y :: l' => if x < y then -1 else if y < x then 1 else cmpL l l'
theorem cmpL_same : ∀ {k : Nat} {l l' : List Int}, l.take k = l'.take k → k ≤ l.length → k ≤ l'.length → cmpL l l' = cmpL (l.drop k) (l'.drop k)
  | 0, l, l', _, _, _ => by simp
  | k + 1, [], _, _, h, _ => by simp at h
  | k + 1, _, [], _, _, h => by simp at h
  | k + 1, x :: l, y :: l', h, h1, h2 => by
    simp only [List.take_succ_cons, List.cons.injEq] at h
    obtain ⟨rfl, h⟩ := h
    simp only [cmpL, Int.lt_irrefl, if_false, List.drop_succ_cons]
    exact cmpL_same h (by simpa using h1) (by simpa using h2)
theorem k_r03Compare (h1 : Row encId w a n c l) (h2 : Row encId w b m d l') : Cl Tryz.prog 135 #[.slice a n c, .slice b m d] w (Is (.int .i64 (cmpL l l')) w) := by
  refine c135 _ _ _ _ _ _ ?_
  have e1 := h1.len; have e2 := h2.len; have e3 := h1.n63; have e4 := h2.n63
  refine ⟨fun _ i w' => w' = w ∧ ∃ k : Nat, i = k ∧ k ≤ n ∧ k ≤ m ∧ l.take k = l'.take k, fun _ i _ => n - i.toNat, ⟨rfl, 0, rfl, by omega, by omega, rfl⟩, ?_⟩
  rintro _ w1 s _ ⟨rfl, k, rfl, hk, hkm, ht⟩
  have hcmp := cmpL_same ht (by omega) (by omega)
  refine cnd (fun hc => ?_) fun hc => ?_
  · have hkn : k < n := by simpa using hc
    refine h1.idN hkn fun hl => ?_
    rw [List.drop_eq_getElem_cons hl] at hcmp
    refine cnd (fun h3 => ⟨?_, rfl⟩) fun h3 => ?_
    · have : k = m := by simp at h3; omega
      rw [hcmp, List.drop_of_length_le (l := l') (by omega)]; rfl
    · have hkm' : k < m := by simp at h3; omega
      refine h2.idN hkm' fun hl' => ?_
      rw [List.drop_eq_getElem_cons hl'] at hcmp
      simp only [cmpL] at hcmp
      refine cnd (fun h4 => ⟨?_, rfl⟩) fun h4 => h2.idN hkm' fun hl' => cnd (fun h5 => ⟨?_, rfl⟩) fun h5 => ?_
      · have : l'[k] < l[k] := by simpa using h4
        rw [hcmp, if_neg (by omega), if_pos this]
      · have : l[k] < l'[k] := by simpa using h5
        rw [hcmp, if_pos this]
      · have g1 : ¬ l'[k] < l[k] := by simpa using h4
        have g2 : ¬ l[k] < l'[k] := by simpa using h5
        rw [nx (by omega)]
        exact ⟨⟨rfl, k + 1, rfl, by omega, by omega, by rw [take_one hl, take_one hl', ht, show l[k] = l'[k] by omega]⟩, dec hkn⟩
  · have hkn : ¬ k < n := by simpa using hc
    rw [List.drop_of_length_le (by omega)] at hcmp
    refine cnd (fun h3 => ⟨?_, rfl⟩) fun h3 => ⟨?_, rfl⟩
    · have : n < m := by simp at h3; omega
      rw [hcmp, List.drop_eq_getElem_cons (l := l') (by omega)]; rfl
    · have : ¬ n < m := by simp at h3; omega
      rw [hcmp, List.drop_of_length_le (by omega)]; rfl
theorem k_CompareFuncIds (h1 : Row encId w a n c l) (h2 : Row encId w b m d l') : Cl Tryz.prog 92 #[.slice a n c, .slice b m d, .func (.func 93) #[] #[]] w (Is (.int .i64 (cmpL l l')) w) := by
  refine c92 _ _ _ _ _ _ 93 [] ?_
  have e1 := h1.len; have e2 := h2.len; have e3 := h1.n63; have e4 := h2.n63
  refine ⟨fun _ i w' => w' = w ∧ ∃ k : Nat, i = k ∧ k ≤ n ∧ k ≤ m ∧ l.take k = l'.take k, fun _ i _ => n - i.toNat, ⟨rfl, 0, rfl, by omega, by omega, rfl⟩, ?_⟩
  rintro _ w1 s _ ⟨rfl, k, rfl, hk, hkm, ht⟩
  have hcmp := cmpL_same ht (by omega) (by omega)
  refine cnd (fun hc => ?_) fun hc => ?_
  · have hkn : k < n := by simpa using hc
    refine h1.idN hkn fun hl => ?_
    rw [List.drop_eq_getElem_cons hl] at hcmp
    refine cnd (fun h3 => ⟨?_, rfl⟩) fun h3 => ?_
    · have : k = m := by simp at h3; omega
      rw [hcmp, List.drop_of_length_le (l := l') (by omega)]; rfl
    · have hkm' : k < m := by simp at h3; omega
      refine h2.idN hkm' fun hl' => (k_cmpCompareId _ _).is ⟨_, rfl, ?_⟩
      rw [List.drop_eq_getElem_cons hl'] at hcmp
      simp only [cmpL] at hcmp
      refine cnd (fun h4 => ⟨?_, rfl⟩) fun h4 => ?_
      · by_cases g1 : l[k] < l'[k]
        · rw [hcmp, if_pos g1]; simp [cmpI, g1]
        · by_cases g2 : l'[k] < l[k]
          · rw [hcmp, if_neg g1, if_pos g2]; simp [cmpI, g1, g2]
          · simp [cmpI, g1, g2] at h4
      · have g1 : ¬ l[k] < l'[k] := by intro g; simp [cmpI, g] at h4
        have g2 : ¬ l'[k] < l[k] := by intro g; simp [cmpI, g, g1] at h4
        rw [nx (by omega)]
        exact ⟨⟨rfl, k + 1, rfl, by omega, by omega, by rw [take_one hl, take_one hl', ht, show l[k] = l'[k] by omega]⟩, dec hkn⟩
  · have hkn : ¬ k < n := by simpa using hc
    rw [List.drop_of_length_le (by omega)] at hcmp
    refine cnd (fun h3 => ⟨?_, rfl⟩) fun h3 => ⟨?_, rfl⟩
    · have : n < m := by simp at h3; omega
      rw [hcmp, List.drop_eq_getElem_cons (l := l') (by omega)]; rfl
    · have : ¬ n < m := by simp at h3; omega
      rw [hcmp, List.drop_of_length_le (by omega)]; rfl
theorem k_tCompare (h1 : Row encId w a n c l) (h2 : Row encId w b m d l') : Cl Tryz.prog 41 #[.slice a n c, .slice b m d] w (Is (.int .i64 (cmpL l l')) w) :=
  c41 _ _ _ _ _ _ ((k_CompareFuncIds h1 h2).is ⟨_, rfl, rfl, rfl⟩)
end
end Go.Eng
namespace Go.Eng
open Go Go.RowKit
variable {α : Type} {P : Program}
section
variable {enc : α → List Value} {k : Nat} {t e : TypeId} {bytes : Nat} {z : Value} {lo : Nat} {w : World} {a : Option Addr} {n c : Nat} {l : List α}
/-- append where there is room. -/
theorem app_room (T : Ty P t e k bytes z) (E : En enc k) (h : Own enc k e lo w a n c l) {b : Option Addr} {m c' : Nat} {l' : List α} (hr : Rd enc w b m l') (hroom : n + m ≤ c) {ty : TypeId} :
    ∃ w' : World, Sem.run P (Builtin.append_ #[t, t] ty #[.slice a n c, .slice b m c']) w = .ok (.slice a (n + m) c) w' ∧ (Own enc k e lo w' a (n + m) c (l ++ l') ∧ w.grownBy w' (a.map (·.block))) := by
  obtain ⟨i, hi, hs, hbs, hz⟩ := T.hi
  have hnl := h.1
  have hml := hr.1
  subst hs
  cases b with
  | none =>
    have hm0 : l' = [] := by
      rcases hr.2 with h0 | ⟨p, hp, _⟩
      · exact h0
      · simp at hp
    subst hm0
    simp at hml; subst hml
    refine ⟨w, ?_, by simpa using h, ⟨rfl, rfl, rfl, Nat.le_refl _, fun _ _ _ => rfl⟩⟩
    have h2 := h.2.1
    cases a <;> simp [Builtin.append_, run_underlying T.ht, sizeOf, typeInfo, hi, Builtin.lenOf, Builtin.firstCells, h2, storeCells]
  | some p =>
    rcases h.2.2.2 with ⟨ha, hc⟩ | ⟨g, cs, ha, hlg, hg, hsz, ht⟩
    · subst ha; subst hc
      obtain ⟨rfl, rfl⟩ : n = 0 ∧ m = 0 := by omega
      obtain rfl : l = [] := List.eq_nil_of_length_eq_zero hnl.symm
      obtain rfl : l' = [] := List.eq_nil_of_length_eq_zero hml.symm
      refine ⟨w, ?_, Own.nil, ⟨rfl, rfl, rfl, Nat.le_refl _, fun _ _ _ => rfl⟩⟩
      simp [Builtin.append_, run_underlying T.ht, sizeOf, typeInfo, hi, Builtin.lenOf, Builtin.firstCells, loadCells, loadCellsFrom]
    · subst ha
      have hl : (l'.flatMap enc).length = m * i.size := by rw [length_flat E.len, hml]
      have hfit : n * i.size + (l'.flatMap enc).length ≤ cs.size := by rw [hl, ← Nat.add_mul]; exact Nat.le_trans (Nat.mul_le_mul_right _ hroom) hsz
      have hrun := run_append_room (P := P) w t ty e i T.ht hi g n c cs hg p m c' _ hl hr.cells E.flat hroom hfit
      refine ⟨_, hrun, ⟨by simp [hnl, hml], hroom, h.2.2.1, .inr ⟨g, _, rfl, hlg, setRow_heap w g cs _ e _ hg, ?_, ?_⟩⟩, ⟨rfl, rfl, rfl, by simp, fun k _ hk => setRow_other w g k _ (fun e => hk (by simp [e]))⟩⟩
      · simp only [List.size_toArray, List.length_append, List.length_take, List.length_drop, Array.length_toList]
        omega
      · rw [ht, List.flatMap_append]
        exact List.take_left' (by rw [List.length_append, length_flat E.len, hl, ← hnl, Nat.add_mul])
theorem zeroCells_one {z : Value} (h1 : ∀ v ∈ z.cells.toList, v.oneCell' = true) (hz : 0 < z.cells.size) (n : Nat) : ∀ v ∈ (Builtin.zeroCells z.cells n).toList, v.oneCell' = true := by
  intro v hv
  simp only [Builtin.zeroCells, Array.toList_map, List.mem_map] at hv
  obtain ⟨i, _, rfl⟩ := hv
  have : i % z.cells.size < z.cells.size := Nat.mod_lt _ hz
  rw [getElem!_pos z.cells _ this]
  exact h1 _ (by simp)
/-- The room behind a row is cleared. -/
theorem clear_own (T : Ty P t e k bytes z) (E : En enc k) (h1 : ∀ v ∈ z.cells.toList, v.oneCell' = true) (h : Own enc k e lo w a n c l) {m c1 c2 : Nat} (hm : n + m ≤ c) (hc1 : c ≤ c1) {ty : TypeId} :
    ∃ w' : World, Sem.run P (Builtin.clear_ #[t] ty #[.slice (offA a c1 n k) m c2]) w = .ok (.tuple #[]) w' ∧ (Own enc k e lo w' a n c l ∧ w.grownBy w' (a.map (·.block))) := by
  obtain ⟨i, hi, hs, hbs, hz⟩ := T.hi
  have hnl := h.1
  subst hs
  have triv : ∀ b, (b = none ∨ m = 0) → Sem.run P (Builtin.clear_ #[t] ty #[.slice b m c2]) w = .ok (.tuple #[]) w := by
    intro b hb
    have : (Builtin.clear_ #[t] ty #[.slice b m c2]).run P w = .ok (.tuple #[]) w := by
      rcases hb with rfl | rfl
      · simp [Builtin.clear_, run_underlying T.ht]
      · cases b <;> simp [Builtin.clear_, run_underlying T.ht]
    exact this
  by_cases hm0 : m = 0
  · exact ⟨w, triv _ (.inr hm0), h, ⟨rfl, rfl, rfl, Nat.le_refl _, fun _ _ _ => rfl⟩⟩
  · rcases h.2.2.2 with ⟨ha, hc⟩ | ⟨g, cs, ha, hlg, hg, hsz, ht⟩
    · omega
    · subst ha
      have hbeq : Nat.beq c1 n = false := by
        rw [Bool.eq_false_iff]; intro hh
        have := Nat.eq_of_beq_eq_true hh; omega
      have hoff : offA (some ⟨g, 0, none⟩) c1 n i.size = some ⟨g, n * i.size, none⟩ := by
        simp [offA, hbeq, Addr.add_lit]
      have hsz2 : (Builtin.zeroCells z.cells m).toList.length = m * i.size := by simp [size_zeroCells, T.hz]
      have hst := run_storeCells_at P g (n * i.size) e (Builtin.zeroCells z.cells m).toList 0 cs w hg (by
        rw [hsz2, Nat.add_zero, ← Nat.add_mul]; exact Nat.le_trans (Nat.mul_le_mul_right _ hm) hsz) (zeroCells_one h1 (by rw [T.hz]; exact T.pos) m)
      simp only [Nat.add_zero] at hst
      rw [hoff]
      have hzv : (zeroValue e).run P w = .ok z w := by simp [zeroValue, typeInfo, hi, hz]
      have hrun : Sem.run P (Builtin.clear_ #[t] ty #[.slice (some ⟨g, n * i.size, none⟩) m c2]) w = .ok (.tuple #[]) (w.setRow g (cs.toList.take (n * i.size) ++ (Builtin.zeroCells z.cells m).toList ++ cs.toList.drop (n * i.size + (Builtin.zeroCells z.cells m).toList.length)).toArray) := by
        cases m with
        | zero => exact absurd rfl hm0
        | succ m => simp [Builtin.clear_, run_underlying T.ht, hzv, hst]
      refine ⟨_, hrun, ⟨hnl, h.2.1, h.2.2.1, .inr ⟨g, _, rfl, hlg, setRow_heap w g cs _ e _ hg, ?_, ?_⟩⟩, ⟨rfl, rfl, rfl, by simp, fun k _ hk => setRow_other w g k _ (fun e => hk (by simp [e]))⟩⟩
      · simp only [List.size_toArray, List.length_append, List.length_take, List.length_drop, Array.length_toList]
        omega
      · rw [ht, List.append_assoc]
        exact List.take_left' (by rw [length_flat E.len, hnl])
end
end Go.Eng
namespace Go.Eng
open Go Go.RowKit Go.Proofs
set_option maxRecDepth 10000
section
variable {w : World} {a b : Option Addr} {n c m d : Nat} {l l' : List Int}
theorem k_r03With (h : Row encId w a n c l) (x : Int) (hs : n ≤ 1048576) : Cl Tryz.prog 58 #[.slice a n c, .int .u64 x] w (Made encId 1 32 w (with3 l x)) := by
  refine c58 _ _ _ _ ?_
  have e1 := h.len
  refine ⟨fun oa on oc i w' => Below w.heap.size w w' ∧ ∃ k : Nat, i = k ∧ k ≤ n ∧ Own encId 1 32 w.heap.size w' oa on oc ((l.take k).filter fun y => decide (y < x)), fun _ _ _ i _ => n - i.toNat, ⟨Below.refl _ _, 0, rfl, by omega, Own.nil⟩, ?_⟩
  rintro _ w1 oa on oc _ ⟨hB, k, rfl, hk, ho⟩
  have hon : on ≤ k := by have := ho.len; have := List.length_filter_le (fun y => decide (y < x)) (l.take k); simp only [List.length_take] at *; omega
  have lift : ∀ {oa : Option Addr} {on oc : Nat} {ll : List Int} {w1 w2 : World}, Own encId 1 32 w.heap.size w1 oa on oc ll → Below w.heap.size w w1 → w1.grownBy w2 (oa.map (·.block)) → Below w.heap.size w w2 := by
    intro oa on oc ll w1 w2 ho hB hg
    exact hB.trans (ho.belowOf hg hB.size)
  refine cnd (fun hc => ?_) fun hc => ?_
  · have hkn : k < n := by simpa using hc
    refine (h.below hB).idN hkn fun hl => ?_
    rw [nx (by omega)]
    refine cnd (fun hc => ?_) fun hc => ?_
    · refine app1 tyIds enId ho hB.size _ (by simp only [maxLen]; omega) (by omega) fun a' c' w' ho' hg => ?_
      refine ⟨⟨lift ho hB hg, k + 1, rfl, by omega, ?_⟩, dec hkn⟩
      rw [take_one hl, List.filter_append]
      simpa [-List.take_append_getElem, hc] using ho'
    · refine ⟨⟨hB, k + 1, rfl, by omega, ?_⟩, dec hkn⟩
      rw [take_one hl, List.filter_append]
      simpa [-List.take_append_getElem, hc] using ho
  · have hkn : ¬ k < n := by simpa using hc
    rw [take_all (by omega)] at ho
    refine app1 tyIds enId ho hB.size x (by simp only [maxLen]; omega) (by omega) fun a2 c2 w2 ho2 hg => ?_
    have hB2 := lift ho hB hg
    have hl2 := ho2.len
    refine ⟨fun oa on oc i w' => Below w.heap.size w w' ∧ ∃ k : Nat, i = k ∧ k ≤ n ∧ Own encId 1 32 w.heap.size w' oa on oc (l.filter (fun y => decide (y < x)) ++ [x] ++ (l.take k).filter fun y => decide (x < y)), fun _ _ _ i _ => n - i.toNat, ⟨hB2, 0, rfl, by omega, by simpa using ho2⟩, ?_⟩
    rintro _ w1 oa on oc _ ⟨hB, k, rfl, hk, ho⟩
    have hon : on ≤ n + 1 + k := by
      have := ho.len; have := List.length_filter_le (fun y => decide (x < y)) (l.take k); have := List.length_filter_le (fun y => decide (y < x)) l
      simp only [List.length_take, List.length_append, List.length_singleton] at *; omega
    refine cnd (fun hc => ?_) fun hc => ?_
    · have hkn : k < n := by simpa using hc
      refine (h.below hB).idN hkn fun hl => ?_
      rw [nx (by omega)]
      refine cnd (fun hc => ?_) fun hc => ?_
      · refine app1 tyIds enId ho hB.size _ (by simp only [maxLen]; omega) (by omega) fun a' c' w' ho' hg => ?_
        refine ⟨⟨lift ho hB hg, k + 1, rfl, by omega, ?_⟩, dec hkn⟩
        rw [take_one hl, List.filter_append]
        simpa [-List.take_append_getElem, hc] using ho'
      · refine ⟨⟨hB, k + 1, rfl, by omega, ?_⟩, dec hkn⟩
        rw [take_one hl, List.filter_append]
        simpa [-List.take_append_getElem, hc] using ho
    · have hkn : ¬ k < n := by simpa using hc
      rw [take_all (by omega)] at ho
      exact ⟨_, _, _, rfl, by simpa [with3] using ho, hB⟩
/-- Where an id is, or would be. -/
def at2 (l : List Int) (x : Int) : Nat := (l.takeWhile fun y => decide (y < x)).length
theorem at2_le (l : List Int) (x : Int) : at2 l x ≤ l.length := (List.takeWhile_sublist _).length_le
theorem at2_eq : ∀ {l : List Int} {x : Int} {i : Nat}, i ≤ l.length → (∀ k (h : k < l.length), k < i → l[k] < x) → (∀ h : i < l.length, ¬ l[i] < x) → at2 l x = i
  | [], x, i, h, _, _ => by simp at h; subst h; rfl
  | y :: l, x, 0, _, _, h2 => by
    have := h2 (by simp)
    simp at this
    simp [at2, List.takeWhile_cons, Int.not_lt.2 this]
  | y :: l, x, i + 1, h, h1, h2 => by
    have e := h1 0 (by simp) (by omega)
    simp at e
    have ih := at2_eq (l := l) (x := x) (i := i) (by simpa using h) (fun k hk hki => h1 (k + 1) (Nat.succ_lt_succ hk) (by omega)) (fun hi => h2 (Nat.succ_lt_succ hi))
    simp only [at2, List.takeWhile_cons, e, decide_true, if_true, List.length_cons] at ih ⊢
    rw [ih]
theorem at2_spec : ∀ (l : List Int) (x : Int), (∀ k (h : k < l.length), k < at2 l x → l[k] < x) ∧ (∀ h : at2 l x < l.length, ¬ l[at2 l x] < x)
  | [], x => ⟨by simp, by simp⟩
  | y :: l, x => by
    by_cases hy : y < x
    · have e : at2 (y :: l) x = at2 l x + 1 := by simp [at2, List.takeWhile_cons, hy]
      obtain ⟨h1, h2⟩ := at2_spec l x
      refine ⟨fun k hk hki => ?_, fun h => ?_⟩
      · cases k with
        | zero => exact hy
        | succ k => exact h1 k (by simpa using hk) (by omega)
      · have e2 : (y :: l)[at2 (y :: l) x] = l[at2 l x]'(by rw [e] at h; simpa using h) := by simp [e]
        rw [e2]; exact h2 _
    · have e : at2 (y :: l) x = 0 := by simp [at2, List.takeWhile_cons, hy]
      refine ⟨fun k hk hki => by omega, fun h => ?_⟩
      have e2 : (y :: l)[at2 (y :: l) x] = y := by simp [e]
      rw [e2]; exact hy
theorem mid_eq {i j : Nat} (h : i + j < 9223372036854775808) : IntKind.i64.wrap (bshr .u64 (IntKind.u64.wrap (IntKind.i64.wrap ((i : Int) + (j : Int)))) 1) = (((i + j) / 2 : Nat) : Int) := by
  rw [show IntKind.i64.wrap ((i : Int) + (j : Int)) = (i : Int) + j from wrap64 (by omega) (by omega), wrapu (by omega) (by omega)]
  have : bshr .u64 ((i : Int) + (j : Int)) 1 = (((i + j) / 2 : Nat) : Int) := by
    simp only [bshr]
    rw [show (2 : Int) ^ (min (1 : Int).toNat IntKind.u64.bits) = 2 from rfl, Int.fdiv_eq_ediv_of_nonneg _ (by omega)]
    omega
  rw [this, wrap64 (by omega) (by omega)]
theorem k_BinSearchIds (h : Row encId w a n c l) (hsort : l.Pairwise (· < ·)) (hs : n ≤ 1048576) (x : Int) :
    Cl Tryz.prog 104 #[.slice a n c, .int .u64 x] w (Is (.tuple #[.int .i64 (at2 l x), .bool (decide (x ∈ l))]) w) := by
  refine c104 _ _ _ _ ?_
  have e1 := h.len
  have up : ∀ (i j : Nat) (hi : i < l.length) (hj : j < l.length), i < j → l[i] < l[j] := fun i j hi hj hij => List.pairwise_iff_getElem.1 hsort i j hi hj hij
  refine ⟨fun i j w' => w' = w ∧ ∃ i' : Nat, i = i' ∧ i' = at2 l x, ?_, ?_⟩
  · refine ⟨fun i j w' => w' = w ∧ ∃ i' j' : Nat, i = i' ∧ j = j' ∧ i' ≤ j' ∧ j' ≤ n ∧ (∀ k (h : k < l.length), k < i' → l[k] < x) ∧ (∀ k (h : k < l.length), j' ≤ k → ¬ l[k] < x), fun i j _ => (j - i).toNat,
      ⟨rfl, 0, n, rfl, rfl, by omega, by omega, by intros; omega, by intros; omega⟩, ?_⟩
    rintro _ w1 _ _ ⟨rfl, i, j, rfl, rfl, hij, hj, hlo, hhi⟩
    refine cnd (fun hc => ?_) fun hc => ?_
    · have hlt : i < j := by simpa using hc
      rw [mid_eq (by omega)]
      refine h.idN (k := (i + j) / 2) (by omega) fun hl => (k_cmpLessId _ _).is ⟨_, rfl, cnd (fun h2 => ?_) fun h2 => ?_⟩
      · have h2' : l[(i + j) / 2] < x := by simpa using h2
        rw [nx (by omega)]
        refine ⟨⟨rfl, (i + j) / 2 + 1, j, rfl, rfl, by omega, hj, fun k hk hki => ?_, hhi⟩, by dsimp only; omega⟩
        by_cases hkm : k = (i + j) / 2
        · subst hkm; exact h2'
        · have := up k ((i + j) / 2) hk hl (by omega); omega
      · have h2' : ¬ l[(i + j) / 2] < x := by simpa using h2
        refine ⟨⟨rfl, i, (i + j) / 2, rfl, rfl, by omega, by omega, hlo, fun k hk hki => ?_⟩, by dsimp only; omega⟩
        by_cases hkm : k = (i + j) / 2
        · subst hkm; exact h2'
        · have := up ((i + j) / 2) k hl hk (by omega); omega
    · have : i = j := by simp at hc; omega
      subst this
      exact ⟨rfl, i, rfl, (at2_eq (by omega) hlo (fun hi => hhi i hi (Nat.le_refl _))).symm⟩
  · rintro _ w3 _ j ⟨rfl, i, rfl, hi⟩
    have hle := at2_le l x
    subst hi
    have tw := (at2_spec l x).1
    have dw := (at2_spec l x).2
    refine cnd (fun hc => ?_) fun hc => ?_
    · have hin : at2 l x < n := by simpa using hc
      refine h.idN (k := at2 l x) hin fun hl => cnd (fun h2 => ⟨?_, rfl⟩) fun h2 => h.idN hin fun hl => (k_slNaNId _).is ⟨_, rfl, ⟨?_, rfl⟩⟩
      · have h2' : l[at2 l x] = x := by simpa using h2
        have : x ∈ l := by rw [← h2']; exact List.getElem_mem _
        simp [this]
      · have h2' : l[at2 l x] ≠ x := by simpa using h2
        have : x ∉ l := by
          intro hm
          obtain ⟨k, hk, hkx⟩ := List.mem_iff_getElem.1 hm
          have h3 := dw hl
          rcases Nat.lt_trichotomy k (at2 l x) with hki | hki | hki
          · have := tw k hk hki; omega
          · subst hki; exact h2' hkx
          · have := up (at2 l x) k hl hk hki; omega
        simp [this]
    · have hin : ¬ at2 l x < n := by simpa using hc
      have : x ∉ l := by
        intro hm
        obtain ⟨k, hk, hkx⟩ := List.mem_iff_getElem.1 hm
        have := tw k hk (by omega); omega
      refine ⟨?_, rfl⟩
      simp [this]
end
end Go.Eng
namespace Go.Eng
open Go Go.RowKit Go.Proofs
set_option maxRecDepth 10000
def with2 (l : List Int) (x : Int) : List Int := if x ∈ l then l else l.take (at2 l x) ++ x :: l.drop (at2 l x)
def without2 (l : List Int) (x : Int) : List Int := l.take (at2 l x) ++ l.drop (at2 l x + 1)
theorem offA_none {a : Option Addr} {m l s : Nat} (h : offA a m l s = none) : a = none := by
  unfold offA at h
  split at h
  · exact h
  · simpa using h
theorem up2_sorted : ∀ {l : List Int}, up2 l = true → l.Pairwise (· < ·)
  | [], _ => .nil
  | [x], _ => List.pairwise_singleton _ _
  | x :: y :: l, h => by
    simp only [up2, Bool.and_eq_true, decide_eq_true_eq] at h
    have ih := up2_sorted h.2
    refine .cons (fun z hz => ?_) ih
    rcases List.mem_cons.1 hz with rfl | hz
    · exact h.1.2
    · exact Int.lt_trans h.1.2 ((List.pairwise_cons.1 ih).1 z hz)
theorem right2_sorted {l : List Int} (h : right2 l = true) : l.Pairwise (· < ·) ∧ l.length ≤ 12 := by
  simp only [right2, Bool.and_eq_true, decide_eq_true_eq] at h
  exact ⟨up2_sorted h.2, h.1⟩
/-- A row that is read, wherever it lies. -/
def Reads (w : World) (l : List Int) (v : Value) (w' : World) : Prop := ∃ a n c, v = .slice a n c ∧ Row encId w' a n c l ∧ Below w.heap.size w w'
section
variable {w : World} {a b : Option Addr} {n c m d : Nat} {l l' : List Int}
theorem k_twith (h : Row encId w a n c l) (hsort : l.Pairwise (· < ·)) (hs : n ≤ 1048570) (x : Int) : Cl Tryz.prog 72 #[.slice a n c, .int .u64 x] w (Reads w (with2 l x)) := by
  refine c72 _ _ _ _ ((k_BinSearchIds h hsort (by omega) x).is ⟨_, _, rfl, cnd (fun hc => ?_) fun hc => ?_⟩)
  · have : x ∈ l := by simpa using hc
    exact ⟨_, _, _, rfl, by simpa [with2, this] using h, Below.refl _ _⟩
  · have hx : x ∉ l := by simpa using hc
    have e1 := h.len; have h2 := at2_le l x; have hle := h.le
    rintro _ rfl
    simp only [Int.toNat_natCast]
    refine ⟨by omega, by omega, by omega, by omega, by omega, by omega, ?_⟩
    rintro _ _ rfl rfl
    have hB := ((Below.refl w.heap.size w).drew).alloc (o := .cells #[.int .u64 x] 32) (Nat.le_refl _)
    have hnew : Rd encId (w.drew.alloc (.cells #[.int .u64 x] 32)) (some ⟨w.drew.heap.size, 0, none⟩) 1 [x] := (row_new enId w.drew 32 [x] (by simp)).rd
    obtain ⟨a1, n1, c1, w1, hrun, ho, hB1⟩ := app_new (c := at2 l x) (ty := 33) (lo := w.heap.size) tyIds enId ((h.below hB).rd.take (at2 l x) (by omega)) (fun ha => by have := h.nil ha; omega) hB.size hnew (by omega) (by omega) (c' := 1) (by simp only [maxLen]; omega) (by omega)
    refine ⟨a1, n1, c1, w1, hrun, ?_⟩
    have hB2 := hB.trans (hB1.mono hB.size)
    have hn1 := ho.len
    simp only [List.length_append, List.length_take, List.length_singleton] at hn1
    obtain ⟨a2, n2, c2, w2, hrun2, ho2, hg2⟩ := app_own (ty := 33) (c' := c - at2 l x) tyIds enId ho hB2.size ((h.below hB2).rd.drop enId.len (at2 l x) (by omega) h.le) (fun ha => by have := h.nil (offA_none ha); omega) (by simp only [maxLen]; omega) (by omega)
    refine ⟨a2, n2, c2, w2, hrun2, _, _, _, rfl, ?_, hB2.trans (ho.belowOf hg2 hB2.size)⟩
    have := ho2.row
    simpa [with2, hx] using this
theorem k_DeleteIds (h : Own encId 1 32 m w a n c l) (hm : m ≤ w.heap.size) {i : Nat} (hi : i < n) (hs : n ≤ 1048570) :
    Cl Tryz.prog 105 #[.slice a n c, .int .i64 (i : Int), .int .i64 ((i + 1 : Nat) : Int)] w fun v w' => v = .slice a (n - 1) c ∧ Own encId 1 32 m w' a (n - 1) c (l.take i ++ l.drop (i + 1)) ∧ Below m w w' := by
  have e1 := h.len; have hle := h.2.1
  refine c105 _ _ _ _ _ ⟨by omega, by omega, by omega, by omega, by omega, by omega, cnd (fun hc => by simp at hc; omega) fun hc => ?_⟩
  rintro _ rfl
  simp only [Int.toNat_natCast]
  refine ⟨by omega, by omega, by omega, by omega, ?_⟩
  have h0 : Own encId 1 32 m w.drew a n c l := h
  obtain ⟨w1, hrun, ho, hg⟩ := app_room (ty := 33) (c' := c - (i + 1)) tyIds enId (h0.take enId.len i c (by omega) (by omega) (Nat.le_refl _)) (h0.rd.drop enId.len (i + 1) (by omega) (c := c) hle) (by omega)
  have hn : i + (n - (i + 1)) = n - 1 := by omega
  rw [hn] at hrun ho
  refine ⟨_, _, _, w1, hrun, by omega, by omega, by omega, by omega, ?_⟩
  have hB1 : Below m w w1 := (Below.refl m w).drew.trans (h0.belowOf hg hm)
  obtain ⟨w2, hrun2, ho2, hg2⟩ := clear_own (ty := 0) (m := n - (n - 1)) (c1 := c) (c2 := c - (n - 1)) tyIds enId (by simp [Value.cells, Value.oneCell']) ho (by omega) (Nat.le_refl _)
  simp only [Int.toNat_natCast]
  exact ⟨w2, hrun2, trivial, ho2, hB1.trans (ho.belowOf hg2 (by have := hB1.size; omega))⟩
/-- A slice and an error. -/
def ReadsE (w : World) (l : List Int) (e : Int) (v : Value) (w' : World) : Prop := ∃ a n c, v = .tuple #[.slice a n c, .int .i64 e] ∧ Row encId w' a n c l ∧ Below w.heap.size w w'
theorem readsE {w w' : World} {p : List Int × Int} {l' : List Int} {e : Int} {a : Option Addr} {n c : Nat} (hp : p = (l', e)) (hr : Row encId w' a n c l') (hB : Below w.heap.size w w') : ReadsE w p.1 p.2 (.tuple #[.slice a n c, .int .i64 e]) w' := by
  subst hp; exact ⟨_, _, _, rfl, hr, hB⟩
def with2e (l : List Int) (x : Int) : List Int × Int :=
  if right2 l = false then ([], 130) else if may2 x = false then ([], 2) else if 12 < (with2 l x).length then ([], 6) else (with2 l x, 0)
def without2e (l : List Int) (x : Int) : List Int × Int :=
  if right2 l = false then ([], 130) else if x ∉ l then ([], 4) else (without2 l x, 0)
theorem with2_len (l : List Int) (x : Int) : (with2 l x).length ≤ l.length + 1 := by
  unfold with2; split
  · omega
  · have := at2_le l x; simp; omega
theorem k_tWith (h : Row encId w a n c l) (x : Int) : Cl Tryz.prog 25 #[.slice a n c, .int .u64 x] w (ReadsE w (with2e l x).1 (with2e l x).2) := by
  refine c25 _ _ _ _ ((k_tCheck h).gives fun w1 hB1 => ⟨_, rfl, cnd (fun hc => ?_) fun hc => ?_⟩)
  · have : right2 l = false := by cases hr : right2 l <;> simp [check2, hr] at hc ⊢
    exact readsE (by simp [with2e, this]) Row.nil' hB1
  · have hr : right2 l = true := by cases hr : right2 l <;> simp [check2, hr] at hc ⊢
    obtain ⟨hsort, h12⟩ := right2_sorted hr
    have e1 := h.len
    refine (k_tmay x).gives fun w2 hB2 => ⟨_, rfl, cnd (fun hc => ?_) fun hc => ?_⟩
    · have : may2 x = false := by simpa using hc
      exact readsE (by simp [with2e, hr, this]) Row.nil' (hB1.trans (hB2.mono hB1.size))
    · have hm : may2 x = true := by simpa using hc
      have hB3 := hB1.trans (hB2.mono hB1.size)
      have hwl := with2_len l x
      refine (k_twith (h.below hB3) hsort (by omega) x).mono ?_
      rintro _ w3 ⟨a3, n3, c3, rfl, h3, hB4⟩
      have hn3 := h3.len
      have hB5 := hB3.trans (hB4.mono hB3.size)
      refine ⟨_, _, _, rfl, (k_townIds h3 (by omega)).mono ?_⟩
      rintro _ w4 ⟨a4, n4, c4, rfl, ho, hB6⟩
      have hn4 := ho.len
      have hB7 := hB5.trans (hB6.mono hB5.size)
      refine ⟨_, _, _, rfl, cnd (fun hc => ?_) fun hc => ?_⟩
      · have : 12 < (with2 l x).length := by simp at hc; omega
        exact readsE (by simp [with2e, hr, hm, this]) Row.nil' hB7
      · have : ¬ 12 < (with2 l x).length := by simp at hc; omega
        exact readsE (by simp [with2e, hr, hm]; omega) ho.row hB7
theorem k_tWithout (h : Row encId w a n c l) (x : Int) : Cl Tryz.prog 54 #[.slice a n c, .int .u64 x] w (ReadsE w (without2e l x).1 (without2e l x).2) := by
  refine c54 _ _ _ _ ((k_tCheck h).gives fun w1 hB1 => ⟨_, rfl, cnd (fun hc => ?_) fun hc => ?_⟩)
  · have : right2 l = false := by cases hr : right2 l <;> simp [check2, hr] at hc ⊢
    rw [show check2 l = 130 by simp [check2, this]]
    exact readsE (by simp [without2e, this]) Row.nil' hB1
  · have hr : right2 l = true := by cases hr : right2 l <;> simp [check2, hr] at hc ⊢
    obtain ⟨hsort, h12⟩ := right2_sorted hr
    have e1 := h.len
    refine (k_BinSearchIds (h.below hB1) hsort (by omega) x).is ⟨_, _, rfl, cnd (fun hc => ?_) fun hc => ?_⟩
    · have : x ∉ l := by simpa using hc
      exact readsE (by simp [without2e, hr, this]) Row.nil' hB1
    · have hx : x ∈ l := by simpa using hc
      have hlt : at2 l x < n := by
        have h1 := (at2_spec l x).1; have h2 := at2_le l x
        rcases Nat.lt_or_ge (at2 l x) l.length with h3 | h3
        · omega
        · obtain ⟨k, hk, hkx⟩ := List.mem_iff_getElem.1 hx
          have := h1 k hk (by omega); omega
      refine (k_townIds (h.below hB1) (by omega)).mono ?_
      rintro _ w3 ⟨a3, n3, c3, rfl, ho, hB3⟩
      have hn3 := ho.len
      refine ⟨_, _, _, rfl, ?_⟩
      rw [nx (by omega)]
      have hB4 := hB1.trans (hB3.mono hB1.size)
      refine (k_DeleteIds (ho.mono hB1.size) hB4.size (by omega) (by omega)).mono ?_
      rintro _ w4 ⟨rfl, ho4, hB5⟩
      exact ⟨_, _, _, rfl, readsE (by simp [without2e, hr, hx, without2]) ho4.row (hB4.trans hB5)⟩
end
end Go.Eng
namespace Go.Eng
open Go Go.RowKit Go.Proofs
set_option maxRecDepth 10000
/-- A prefix of what is filtered. -/
theorem filter_pre {α : Type} (p : α → Bool) (l : List α) (k : Nat) : (l.take k).filter p <+: l.filter p :=
  ⟨(l.drop k).filter p, by rw [← List.filter_append, List.take_append_drop]⟩
theorem filter_more {α : Type} {p : α → Bool} {l : List α} {k : Nat} (h : k < l.length) (hp : p l[k] = true) : ((l.take k).filter p).length < (l.filter p).length := by
  have h1 : l.filter p = (l.take k).filter p ++ (l.drop k).filter p := by rw [← List.filter_append, List.take_append_drop]
  rw [h1, List.drop_eq_getElem_cons h, List.filter_cons, if_pos hp]
  simp
section
variable {w : World} {a b : Option Addr} {n c m d : Nat} {l l' : List Int}
theorem seqs_tsome1 {c0 c1 : Addr} {f : FuncId} {cf : List Value} {p : Int → Bool} (h0 : w.cell? c0 = some (.slice a n c)) (h : Row encId w a n c l) (h1 : w.cell? c1 = some (.func (.func f) #[] cf.toArray))
    (hp : ∀ W, Below w.heap.size w W → ∀ x, Cl Tryz.prog f (([.int .u64 x] : List Value) ++ cf).toArray W (Gives W (.bool (p x)))) :
    Seqs Tryz.prog 117 [.pointer (some c0), .pointer (some c1)] (if right2 l then (l.filter p).map encId else []) (Below w.heap.size) w := by
  refine seqs_of fun k J Jx W hW hJ hJx hy hJ0 => ?_
  refine c117 _ _ _ ⟨_, _, _, cell_below h0 hW, (k_tCheck (h.below hW)).gives fun w1 hB1 => ⟨_, rfl, cnd (fun hc => ?_) fun hc => ?_⟩⟩
  · have : right2 l = false := by cases hr : right2 l <;> simp [check2, hr] at hc ⊢
    exact .inl (by simpa [this] using hJ _ _ _ hJ0 hB1)
  · have hr : right2 l = true := by cases hr : right2 l <;> simp [check2, hr] at hc ⊢
    have e1 := h.len; have e3 := h.n63
    simp only [hr, if_true] at hy ⊢
    refine ⟨_, _, _, cell_below h0 (hW.trans (hB1.mono hW.size)), fun i W' => Below w.heap.size w W' ∧ ∃ k : Nat, i = k ∧ k ≤ n ∧ J (((l.take k).filter p).map encId) W', fun i _ => n - i.toNat, ⟨hW.trans (hB1.mono hW.size), 0, rfl, by omega, by simpa using hJ _ _ _ hJ0 hB1⟩, ?_⟩
    rintro _ w2 _ ⟨hB2, k, rfl, hk, hj⟩
    refine cnd (fun hc => ?_) fun hc => ?_
    · have hkn : k < n := by simpa using hc
      refine (h.below hB2).idN hkn fun hl => ⟨_, _, cell_below h1 hB2, (hp w2 hB2 _).gives fun w3 hB3 => ⟨_, rfl, cnd (fun hc => ?_) fun hc => ?_⟩⟩
      · have hB4 := hB2.trans (hB3.mono hB2.size)
        have hnext : ((l.take (k + 1)).filter p).map encId = ((l.take k).filter p).map encId ++ [[.int .u64 l[k]]] := by
          rw [take_one hl, List.filter_append]; simp [-List.take_append_getElem, hc, encId]
        refine (hy _ [.int .u64 l[k]] w3 ?_ (hJ _ _ _ hj hB3) ?_).mono fun y W' hyy => ?_
        · exact List.mem_map.2 ⟨l[k], List.mem_filter.2 ⟨List.getElem_mem _, hc⟩, rfl⟩
        · simpa using filter_more hl hc
        · refine cnd (fun h5 => .inr ?_) fun h5 => ?_
          · have : y = false := by simpa using h5
            subst this
            refine ⟨_, ?_, hyy⟩
            rw [← hnext]
            obtain ⟨r, hr⟩ := filter_pre p l (k + 1)
            exact ⟨r.map encId, by rw [← List.map_append, hr]⟩
          · have : y = true := by simpa using h5
            subst this
            rw [nx (by omega)]
            exact ⟨⟨hB4.trans hyy.2, k + 1, rfl, by omega, by rw [hnext]; exact hyy.1⟩, dec hkn⟩
      · rw [nx (by omega)]
        refine ⟨⟨hB2.trans (hB3.mono hB2.size), k + 1, rfl, by omega, ?_⟩, dec hkn⟩
        have hnext : ((l.take (k + 1)).filter p).map encId = ((l.take k).filter p).map encId := by
          rw [take_one hl, List.filter_append]; simp [-List.take_append_getElem, hc]
        rw [hnext]; exact hJ _ _ _ hj hB3
    · have hkn : ¬ k < n := by simpa using hc
      rw [take_all (by omega)] at hj
      exact .inl hj
theorem k_tHas1 {c0 : Addr} {x y : Int} (h : w.cell? c0 = some (.int .u64 y)) : Cl Tryz.prog 78 #[.int .u64 x, .pointer (some c0)] w (Is (.bool (x == y)) w) := c78 _ _ ⟨_, h, rfl, rfl⟩
def has2 (l : List Int) (x : Int) : Bool := right2 l && decide (x ∈ l)
theorem k_tHas (h : Row encId w a n c l) (x : Int) : Cl Tryz.prog 27 #[.slice a n c, .int .u64 x] w (Gives w (.bool (has2 l x))) := by
  refine c27 _ _ _ _ ?_
  rintro _ w1 rfl h1 _ w2 rfl h2
  have q1 : w2.heap[w.heap.size]? = some (.cells #[.int .u64 x] 32) := by rw [h2, h1]; exact blk_alloc (blk_new _)
  have q2 : w2.heap[w1.heap.size]? = some (.cells #[.bool false] 4) := by rw [h2]; exact blk_new _
  have hB2 : Below w.heap.size w w2 := by rw [h2, h1]; exact (alloc_below w _).alloc (by rw [size_alloc]; omega) _
  refine c77 _ _ _ 78 [_] ?_
  rintro _ w3 rfl h3 _ w4 rfl h4
  have q3 : w4.heap[w2.heap.size]? = some (.cells #[.slice a n c] 33) := by rw [h4, h3]; exact blk_alloc (blk_new _)
  obtain ⟨t5, q4⟩ : ∃ t, w4.heap[w3.heap.size]? = some (.cells #[.func (.func 78) #[] [Value.pointer (some ⟨w.heap.size, 0, none⟩)].toArray] t (0, 0)) := by rw [h4]; exact ⟨_, blk_new _⟩
  have hB4 : Below w2.heap.size w2 w4 := by rw [h4, h3]; exact (alloc_below w2 _).alloc (by rw [size_alloc]; omega) _
  have q1' := blk_below q1 hB4 (blk_lt q1)
  have q2' := blk_below q2 hB4 (blk_lt q2)
  have hBB := hB2.trans (hB4.mono hB2.size)
  have hs1 : w1.heap.size = w.heap.size + 1 := by rw [h1, size_alloc]
  have hlt := blk_lt q2'
  have hseq := seqs_tsome1 (p := fun y => y == x) (blk_cell q3 0) (h.below hBB) (blk_cell q4 0) (fun W hW y => (k_tHas1 (x := y) (blk_cell (blk_below q1' hW (blk_lt q1')) 0)).is ⟨rfl, Below.refl _ _⟩)
  have hxs : (if right2 l then (l.filter fun y => y == x).map encId else []) = [] ↔ has2 l x = false := by
    cases hr : right2 l
    · simp [has2, hr]
    · simp only [if_true, List.map_eq_nil_iff, has2, hr, Bool.true_and, decide_eq_false_iff_not, List.filter_eq_nil_iff]
      exact ⟨fun h hm => h x hm (by simp), fun h y hy hyx => h ((show y = x by simpa using hyx) ▸ hy)⟩
  generalize hxs' : (if right2 l then (l.filter fun y => y == x).map encId else []) = xs at hseq hxs
  have hty : ∀ vs ∈ xs, hasT Tryz.prog [32] vs := by
    rw [← hxs']
    intro vs hvs
    split at hvs
    · obtain ⟨y, _, rfl⟩ := List.mem_map.1 hvs
      exact ⟨y, rfl⟩
    · simp at hvs
  refine ⟨_, [_, _], rfl, xs, Below w4.heap.size, fun pre W => (pre = [] ∧ W.heap[w1.heap.size]? = some (.cells #[.bool false] 4)) ∧ Below w1.heap.size w4 W,
    fun _ pre W => (pre ≠ [] ∧ W.heap[w1.heap.size]? = some (.cells #[.bool true] 4)) ∧ Below w1.heap.size w4 W, ⟨?_, hseq, hty, keepOk_below (Nat.le_refl _), ?_, fun _ => ?_, ⟨rfl, q2'⟩, Below.refl _ _⟩, ?_, ?_, ?_, trivial⟩
  · exact ent_of Tryz.func117 (by kernel_rfl) rfl
  · exact (ownFrom_const.and ownFrom_blk).and (ownFrom_below (by omega) (by omega))
  · exact (ownFrom_const.and ownFrom_blk).and (ownFrom_below (by omega) (by omega))
  · rintro pre W y hy hlen ⟨⟨rfl, hb⟩, hB⟩
    refine ⟨blk_some hb (by decide), blk_free hb _, ?_⟩
    rintro _ rfl
    exact ⟨keepsFrom_set hb _, ⟨by simp, blk_set hb 0 _⟩, hB.setCell (Nat.le_refl _) _⟩
  · rintro D W hD ⟨⟨hnil, hb⟩, hB⟩ hd
    refine ⟨blk_some hb (by decide), blk_free hb _, ?_⟩
    rintro _ rfl
    have hdne : D ≠ w1.heap.size := by omega
    refine ⟨blk_far hd hdne _, ?_⟩
    rintro _ rfl
    have hb2 : ((W.setCell ⟨w1.heap.size, 0, none⟩ (.bool false)).putObj D (.deferred none)).heap[w1.heap.size]? = some (.cells #[.bool false] 4) := by
      have := blk_set hb 0 (.bool false)
      refine (World.putObj_heap_other ?_).trans this
      omega
    refine ⟨_, blk_cell hb2 0, by rw [hxs.1 hnil], ?_⟩
    have := (hBB.trans ((hB.setCell (p := ⟨w1.heap.size, 0, none⟩) (Nat.le_refl _) (.bool false)).mono (by omega)))
    exact this.trans ((Below.refl _ _).grown (grownBy_putObj' _ D _) (by have := this.size; omega) (fun k e => by cases e; omega))
  · rintro D pre W hD hpre ⟨⟨hne, hb⟩, hB⟩ hd
    refine ⟨hd, ?_⟩
    rintro _ rfl
    have hb2 : (W.putObj D (.deferred none)).heap[w1.heap.size]? = some (.cells #[.bool true] 4) := by
      refine (World.putObj_heap_other ?_).trans hb
      omega
    have hx : has2 l x = true := by
      cases hh : has2 l x with
      | true => rfl
      | false => rw [hxs.2 hh] at hpre; exact absurd (List.prefix_nil.1 hpre) hne
    refine ⟨_, blk_cell hb2 0, by rw [hx], ?_⟩
    have := hBB.trans (hB.mono (by omega))
    exact this.trans ((Below.refl _ _).grown (grownBy_putObj' _ D _) (by have := this.size; omega) (fun k e => by cases e; omega))
end
end Go.Eng
namespace Go.Eng
open Go
set_option exponentiation.threshold 300
theorem u64_wrap {n : Nat} : IntKind.u64.wrap (n : Int) = ((n % 2 ^ 64 : Nat) : Int) := by
  rw [IntKind.wrap_u64]; omega
theorem bv_nat (n : Nat) : (BitVec.ofInt 64 (n : Int)) = BitVec.ofNat 64 n := by simp
theorem bxor_nat {a b : Nat} (ha : a < 2 ^ 64) (hb : b < 2 ^ 64) : bxor .u64 (a : Int) (b : Int) = ((a ^^^ b : Nat) : Int) := by
  have hx : a ^^^ b < 2 ^ 64 := Nat.xor_lt_two_pow ha hb
  have h1 : (BitVec.ofInt IntKind.u64.bits (a : Int) ^^^ BitVec.ofInt IntKind.u64.bits (b : Int)).toNat = a ^^^ b := by
    show (BitVec.ofInt 64 (a : Int) ^^^ BitVec.ofInt 64 (b : Int)).toNat = a ^^^ b
    rw [bv_nat, bv_nat, BitVec.toNat_xor, BitVec.toNat_ofNat, BitVec.toNat_ofNat, Nat.mod_eq_of_lt ha, Nat.mod_eq_of_lt hb]
  show IntKind.u64.wrap (_ : Int) = _
  rw [h1, u64_wrap, Nat.mod_eq_of_lt hx]
theorem band_nat {a b : Nat} (ha : a < 2 ^ 64) (hb : b < 2 ^ 64) : band .u64 (a : Int) (b : Int) = ((a &&& b : Nat) : Int) := by
  have hx : a &&& b < 2 ^ 64 := Nat.and_lt_two_pow a hb
  have h1 : (BitVec.ofInt IntKind.u64.bits (a : Int) &&& BitVec.ofInt IntKind.u64.bits (b : Int)).toNat = a &&& b := by
    show (BitVec.ofInt 64 (a : Int) &&& BitVec.ofInt 64 (b : Int)).toNat = a &&& b
    rw [bv_nat, bv_nat, BitVec.toNat_and, BitVec.toNat_ofNat, BitVec.toNat_ofNat, Nat.mod_eq_of_lt ha, Nat.mod_eq_of_lt hb]
  show IntKind.u64.wrap (_ : Int) = _
  rw [h1, u64_wrap, Nat.mod_eq_of_lt hx]
theorem bor_nat {a b : Nat} (ha : a < 2 ^ 64) (hb : b < 2 ^ 64) : bor .u64 (a : Int) (b : Int) = ((a ||| b : Nat) : Int) := by
  have hx : a ||| b < 2 ^ 64 := Nat.or_lt_two_pow ha hb
  have h1 : (BitVec.ofInt IntKind.u64.bits (a : Int) ||| BitVec.ofInt IntKind.u64.bits (b : Int)).toNat = a ||| b := by
    show (BitVec.ofInt 64 (a : Int) ||| BitVec.ofInt 64 (b : Int)).toNat = a ||| b
    rw [bv_nat, bv_nat, BitVec.toNat_or, BitVec.toNat_ofNat, BitVec.toNat_ofNat, Nat.mod_eq_of_lt ha, Nat.mod_eq_of_lt hb]
  show IntKind.u64.wrap (_ : Int) = _
  rw [h1, u64_wrap, Nat.mod_eq_of_lt hx]
theorem bshr_nat {a i : Nat} (hi : i ≤ 64) : bshr .u64 (a : Int) (i : Int) = ((a / 2 ^ i : Nat) : Int) := by
  show Int.fdiv (a : Int) (2 ^ (min (i : Int).toNat 64)) = _
  rw [Int.toNat_natCast, Nat.min_eq_left hi, Int.fdiv_eq_ediv_of_nonneg _ (by exact Int.le_of_lt (Int.pow_pos (by decide)))]
  norm_cast
theorem bshl_nat {a i : Nat} (hi : i ≤ 64) : bshl .u64 (a : Int) (i : Int) = ((a * 2 ^ i % 2 ^ 64 : Nat) : Int) := by
  show IntKind.u64.wrap ((a : Int) * 2 ^ (min (i : Int).toNat 64)) = _
  rw [Int.toNat_natCast, Nat.min_eq_left hi, ← u64_wrap]
  norm_cast
theorem and_255 (a : Nat) : a &&& 255 = a % 256 := Nat.and_two_pow_sub_one_eq_mod a 8
def hbyte (h b : Nat) : Nat := ((h ^^^ b) * 1099511628211) % 2 ^ 64
def byteAt (id i : Nat) : Nat := id / 2 ^ (8 * i) % 256
def hadd (h id : Nat) : Nat := (List.range 8).foldl (fun h i => hbyte h (byteAt id i)) h
def hof (l : List Nat) : Nat := l.foldl hadd 14695981039346656037
theorem hof_nil : hof [] = 14695981039346656037 := by unfold hof; rw [List.foldl_nil]
theorem hof_snoc (l : List Nat) (x : Nat) : hof (l ++ [x]) = hadd (hof l) x := by unfold hof; rw [List.foldl_append, List.foldl_cons, List.foldl_nil]
theorem hbyte_lt (h b : Nat) : hbyte h b < 2 ^ 64 := Nat.mod_lt _ (by decide)
theorem foldl_lt : ∀ (is : List Nat) (h id : Nat), h < 2 ^ 64 → is.foldl (fun h i => hbyte h (byteAt id i)) h < 2 ^ 64
  | [], h, id, hh => hh
  | i :: is, h, id, hh => foldl_lt is _ id (hbyte_lt _ _)
theorem hadd_lt {h : Nat} (hh : h < 2 ^ 64) (id : Nat) : hadd h id < 2 ^ 64 := foldl_lt _ _ _ hh
theorem hof_lt' : ∀ (l : List Nat) (h : Nat), h < 2 ^ 64 → l.foldl hadd h < 2 ^ 64
  | [], h, hh => hh
  | x :: l, h, hh => hof_lt' l _ (hadd_lt hh x)
theorem hof_lt (l : List Nat) : hof l < 2 ^ 64 := hof_lt' l _ (by decide)
/-- A number turned in its lowest byte, bit by bit. -/
theorem turn_step (x y i : Nat) : (x ^^^ y) % 2 ^ (i + 1) = (x ^^^ y) % 2 ^ i + (if x / 2 ^ i % 2 ≠ y / 2 ^ i % 2 then 2 ^ i else 0) := by
  have e : ∀ z : Nat, z.testBit i = decide (z / 2 ^ i % 2 = 1) := fun z => Nat.testBit_eq_decide_div_mod_eq
  have e3 := Nat.testBit_xor x y i
  rw [e, e, e] at e3
  rw [Nat.mod_pow_succ]
  have h0 : (x ^^^ y) / 2 ^ i % 2 = 0 ∨ (x ^^^ y) / 2 ^ i % 2 = 1 := by omega
  have h1 : x / 2 ^ i % 2 = 0 ∨ x / 2 ^ i % 2 = 1 := by omega
  have h2 : y / 2 ^ i % 2 = 0 ∨ y / 2 ^ i % 2 = 1 := by omega
  rcases h0 with h0 | h0 <;> rcases h1 with h1 | h1 <;> rcases h2 with h2 | h2 <;> simp [h0, h1, h2] at e3 ⊢
theorem xor_low {h b : Nat} (hb : b < 256) : h ^^^ b = h - h % 256 + ((h % 256 ^^^ b) % 2 ^ 8) := by
  have h4 : b % 2 ^ 8 = b := Nat.mod_eq_of_lt hb
  have h1 : (h ^^^ b) % 256 = h % 256 ^^^ b := by
    have := Nat.xor_mod_two_pow (a := h) (b := b) (n := 8)
    rw [h4] at this; exact this
  have h2 : (h ^^^ b) / 256 = h / 256 := by
    have := Nat.xor_div_two_pow (a := h) (b := b) (n := 8)
    rw [show b / 2 ^ 8 = 0 from Nat.div_eq_of_lt hb, Nat.xor_zero] at this; exact this
  have h5 : h % 256 ^^^ b < 2 ^ 8 := Nat.xor_lt_two_pow (Nat.mod_lt _ (by decide)) hb
  rw [Nat.mod_eq_of_lt h5]
  have h6 := Nat.div_add_mod (h ^^^ b) 256
  have h7 := Nat.div_add_mod h 256
  rw [h1, h2] at h6
  generalize h % 256 ^^^ b = q at *
  omega
end Go.Eng
namespace Go.Eng
open Go Go.RowKit Go.Proofs
set_option maxRecDepth 10000
theorem tmodN (a b : Nat) : Int.tmod (a : Int) (b : Int) = ((a % b : Nat) : Int) := rfl
theorem tdivN (a b : Nat) : Int.tdiv (a : Int) (b : Int) = ((a / b : Nat) : Int) := rfl
theorem beqN (a b : Nat) : ((a : Int) != (b : Int)) = decide (a ≠ b) := by
  by_cases h : a = b <;> simp [h] ; omega
section
variable {w : World} {a b : Option Addr} {n c m d : Nat} {l l' : List Int}
theorem k_r06Byte {h b : Nat} (hh : h < 2 ^ 64) (hb : b < 256) : Cl Tryz.prog 168 #[.int .u64 (h : Int), .int .u8 (b : Int)] w (Tells w (.int .u64 (hbyte h b : Nat))) := by
  refine c168 _ _ ⟨fun t bit i w' => Qt w w' ∧ ∃ k : Nat, i = k ∧ k ≤ 8 ∧ t = ((((h % 256) ^^^ b) % 2 ^ k : Nat) : Int) ∧ bit = ((2 ^ k : Nat) : Int), fun _ _ i _ => 8 - i.toNat, ⟨Qt.refl _, 0, rfl, by omega, by simp [Nat.mod_one], rfl⟩, ?_⟩
  rintro _ w1 _ _ _ ⟨hq, k, rfl, hk, rfl, rfl⟩
  have h256 : h % 256 < 256 := Nat.mod_lt _ (by decide)
  refine cnd (fun hc => ?_) fun hc => ?_
  · have hk8 : k < 8 := by simp at hc; omega
    have hp : (2 : Nat) ^ k ≤ 2 ^ 7 := Nat.pow_le_pow_right (by decide) (by omega)
    have hp0 : 0 < (2 : Nat) ^ k := Nat.pow_pos (by decide)
    have hlow : ((h % 256) ^^^ b) % 2 ^ k < 2 ^ k := Nat.mod_lt _ hp0
    rintro w2 rfl
    refine cnd (fun h0 => ?_) fun _ => cnd (fun h0 => ?_) fun _ => ?_
    · exact absurd (of_decide_eq_true h0) (by omega)
    · exact absurd (of_decide_eq_true h0) (by omega)
    rw [nx (by omega)]
    have hlt1 : h % 256 / 2 ^ k < 2 ^ 64 := Nat.lt_of_le_of_lt (Nat.div_le_self _ _) (by omega)
    have hlt2 : b / 2 ^ k < 2 ^ 64 := Nat.lt_of_le_of_lt (Nat.div_le_self _ _) (by omega)
    have e1 : Int.tmod (IntKind.u64.wrap (Int.tdiv (Int.tmod (h : Int) 256) ((2 ^ k : Nat) : Int))) 2 = ((h % 256 / 2 ^ k % 2 : Nat) : Int) := by
      rw [show Int.tmod (h : Int) 256 = ((h % 256 : Nat) : Int) from rfl, tdivN, u64_wrap, Nat.mod_eq_of_lt hlt1]; rfl
    have e2 : Int.tmod (IntKind.u64.wrap (Int.tdiv (IntKind.u64.wrap (b : Int)) ((2 ^ k : Nat) : Int))) 2 = ((b / 2 ^ k % 2 : Nat) : Int) := by
      rw [u64_wrap, Nat.mod_eq_of_lt (by omega), tdivN, u64_wrap, Nat.mod_eq_of_lt hlt2]; rfl
    have e3 : IntKind.u64.wrap (((((h % 256) ^^^ b) % 2 ^ k : Nat) : Int) + ((2 ^ k : Nat) : Int)) = ((((h % 256) ^^^ b) % 2 ^ k + 2 ^ k : Nat) : Int) := by
      rw [← Int.natCast_add, u64_wrap, Nat.mod_eq_of_lt (by omega)]
    have e4 : IntKind.u64.wrap (2 * ((2 ^ k : Nat) : Int)) = ((2 ^ (k + 1) : Nat) : Int) := by
      rw [show (2 : Int) * ((2 ^ k : Nat) : Int) = ((2 * 2 ^ k : Nat) : Int) by omega, u64_wrap, Nat.mod_eq_of_lt (by omega), Nat.pow_succ, Nat.mul_comm]
    have hs := turn_step (h % 256) b k
    rw [e1, e2, e3, e4, beqN]
    refine cnd (fun h1 => ⟨⟨hq.drew, k + 1, rfl, by omega, ?_, rfl⟩, dec hk8⟩) fun h1 => ⟨⟨hq.drew, k + 1, rfl, by omega, ?_, rfl⟩, dec hk8⟩
    · rw [hs, if_pos (by simpa using h1)]
    · rw [hs, if_neg (by simpa using h1), Nat.add_zero]
  · have hk8 : k = 8 := by simp at hc; omega
    subst hk8
    refine ⟨?_, hq⟩
    have hlow : ((h % 256) ^^^ b) % 2 ^ 8 < 2 ^ 8 := Nat.mod_lt _ (by decide)
    have hx : h ^^^ b < 2 ^ 64 := Nat.xor_lt_two_pow hh (by omega)
    have hxl := xor_low (h := h) hb
    have e1 : IntKind.u64.wrap ((h : Int) - Int.tmod (h : Int) 256) = ((h - h % 256 : Nat) : Int) := by
      rw [show Int.tmod (h : Int) 256 = ((h % 256 : Nat) : Int) from rfl, show (h : Int) - ((h % 256 : Nat) : Int) = ((h - h % 256 : Nat) : Int) by omega, u64_wrap, Nat.mod_eq_of_lt (by omega)]
    rw [e1, ← Int.natCast_add, ← hxl, u64_wrap, Nat.mod_eq_of_lt hx, show ((h ^^^ b : Nat) : Int) * 1099511628211 = (((h ^^^ b) * 1099511628211 : Nat) : Int) by omega, u64_wrap]
    rfl
theorem range_foldl (h id k : Nat) : (List.range (k + 1)).foldl (fun h i => hbyte h (byteAt id i)) h = hbyte ((List.range k).foldl (fun h i => hbyte h (byteAt id i)) h) (byteAt id k) := by
  rw [List.range_succ, List.foldl_append, List.foldl_cons, List.foldl_nil]
theorem byteAt_lt (id i : Nat) : byteAt id i < 256 := Nat.mod_lt _ (by decide)
end
end Go.Eng
namespace Go.Eng
open Go Go.RowKit Go.Proofs
set_option maxRecDepth 10000
section
variable {w : World} {a b : Option Addr} {n c m d : Nat} {l l' : List Int}
theorem k_r06Add {h id : Nat} (hh : h < 2 ^ 64) (hid : id < 2 ^ 64) : Cl Tryz.prog 160 #[.int .u64 (h : Int), .int .u64 (id : Int)] w (Tells w (.int .u64 (hadd h id : Nat))) := by
  refine c160 _ _ ⟨fun h2 id2 i w' => Qt w w' ∧ ∃ k : Nat, i = k ∧ k ≤ 8 ∧ h2 = (((List.range k).foldl (fun h i => hbyte h (byteAt id i)) h : Nat) : Int) ∧ id2 = ((id / 2 ^ (8 * k) : Nat) : Int), fun _ _ i _ => 8 - i.toNat, ⟨Qt.refl _, 0, rfl, by omega, by simp, by simp⟩, ?_⟩
  rintro _ w1 _ _ _ ⟨hq, k, rfl, hk, rfl, rfl⟩
  refine cnd (fun hc => ?_) fun hc => ?_
  · have hk8 : k < 8 := by simp at hc; omega
    have hd : id / 2 ^ (8 * k) ≤ id := Nat.div_le_self _ _
    have e1 : IntKind.u8.wrap (Int.tmod ((id / 2 ^ (8 * k) : Nat) : Int) 256) = ((byteAt id k : Nat) : Int) := by
      rw [show Int.tmod ((id / 2 ^ (8 * k) : Nat) : Int) 256 = ((id / 2 ^ (8 * k) % 256 : Nat) : Int) from rfl, IntKind.wrap_u8]
      have := byteAt_lt id k
      unfold byteAt at *
      omega
    rw [e1]
    refine (k_r06Byte (w := w1) (foldl_lt _ _ _ hh) (byteAt_lt id k)).tells fun w2 hq2 => ⟨_, rfl, ?_⟩
    rw [nx (by omega)]
    have e2 : IntKind.u64.wrap (Int.tdiv ((id / 2 ^ (8 * k) : Nat) : Int) 256) = ((id / 2 ^ (8 * (k + 1)) : Nat) : Int) := by
      have hdd : id / 2 ^ (8 * k) / 256 ≤ id / 2 ^ (8 * k) := Nat.div_le_self _ _
      rw [show Int.tdiv ((id / 2 ^ (8 * k) : Nat) : Int) 256 = ((id / 2 ^ (8 * k) / 256 : Nat) : Int) from rfl, u64_wrap, Nat.mod_eq_of_lt (by omega), Nat.div_div_eq_div_mul, show 256 = 2 ^ 8 from rfl, ← Nat.pow_add, show 8 * k + 8 = 8 * (k + 1) by omega]
    rw [e2]
    exact ⟨⟨hq.trans hq2, k + 1, rfl, by omega, by rw [range_foldl], rfl⟩, dec hk8⟩
  · have hk8 : k = 8 := by simp at hc; omega
    subst hk8
    exact ⟨rfl, hq⟩
/-- Ids are numbers of 64 bits. -/
def Rng (l : List Int) : Prop := ∀ x ∈ l, 0 ≤ x ∧ x < 18446744073709551616
def nats (l : List Int) : List Nat := l.map Int.toNat
theorem nats_snoc (l : List Int) (x : Int) : nats (l ++ [x]) = nats l ++ [x.toNat] := by simp [nats]
theorem k_r06Of (h : Row encId w a n c l) (hr : Rng l) : Cl Tryz.prog 133 #[.slice a n c] w (Tells w (.int .u64 (hof (nats l) : Nat))) := by
  have e1 := h.len; have e3 := h.n63
  refine c133 _ _ _ ⟨fun h2 i w' => Qt w w' ∧ ∃ k : Nat, i = k ∧ k ≤ n ∧ h2 = ((hof (nats (l.take k)) : Nat) : Int), fun _ i _ => n - i.toNat, ⟨Qt.refl _, 0, rfl, by omega, by rw [List.take_zero, show nats [] = [] from rfl, hof_nil]; rfl⟩, ?_⟩
  rintro _ w1 _ _ ⟨hq, k, rfl, hk, rfl⟩
  refine cnd (fun hc => ?_) fun hc => ?_
  · have hkn : k < n := by simpa using hc
    refine (h.qt hq).idN hkn fun hl => ?_
    obtain ⟨r1, r2⟩ := hr _ (List.getElem_mem hl)
    have ex : l[k] = ((l[k].toNat : Nat) : Int) := by omega
    rw [ex]
    refine (k_r06Add (w := w1) (hof_lt _) (by omega)).tells fun w2 hq2 => ⟨_, rfl, ?_⟩
    rw [nx (by omega)]
    refine ⟨⟨hq.trans hq2, k + 1, rfl, by omega, ?_⟩, dec hkn⟩
    rw [take_one hl, nats_snoc, hof_snoc]
  · have hkn : ¬ k < n := by simpa using hc
    exact ⟨by rw [take_all (by omega)], hq⟩
theorem k_hAdd1 {h b : Nat} (hh : h < 2 ^ 64) (hb : b < 2 ^ 64) : Cl Tryz.prog 174 #[.int .u64 (h : Int), .int .u64 (b : Int)] w (Is (.int .u64 (hbyte h b : Nat)) w) := by
  refine c174 _ _ ⟨?_, rfl⟩
  rw [bxor_nat hh hb, show ((h ^^^ b : Nat) : Int) * 1099511628211 = (((h ^^^ b) * 1099511628211 : Nat) : Int) by omega, u64_wrap]
  rfl
end
end Go.Eng
namespace Go.Eng
open Go Go.RowKit Go.Proofs
set_option maxRecDepth 10000
def encN (x : Nat) : List Value := [.int .u64 (x : Int)]
section
variable {w : World} {a b : Option Addr} {n c m d : Nat} {l l' : List Int}
theorem byte_of (id k : Nat) (hid : id < 2 ^ 64) (hk : k < 8) : band .u64 (bshr .u64 (id : Int) (IntKind.i64.wrap (8 * (k : Int)))) 255 = ((byteAt id k : Nat) : Int) := by
  rw [wrap64 (by omega) (by omega), show 8 * (k : Int) = ((8 * k : Nat) : Int) by omega, bshr_nat (by omega)]
  have hd : id / 2 ^ (8 * k) ≤ id := Nat.div_le_self _ _
  rw [show (255 : Int) = ((255 : Nat) : Int) from rfl, band_nat (by omega) (by decide), and_255]
  rfl
theorem seqs_hbytes1 {c0 c1 : Addr} {id : Nat} (hid : id < 2 ^ 64) (h0 : w.cell? c0 = some (.bool true)) (h1 : w.cell? c1 = some (.int .u64 (id : Int))) {S : Nat → Prop} (s0 : S c0.block) (s1 : S c1.block) (hS : ∀ k, S k → k < w.heap.size) :
    Seqs Tryz.prog 187 [.pointer (some c0), .pointer (some c1)] ((List.range 8).map fun i => encN (byteAt id i)) (KS S) w := by
  refine seqs_of fun k J Jx W hW hJ hJx hy hJ0 => ?_
  refine c187 _ _ _ ⟨fun i W' => KS S w W' ∧ ∃ k : Nat, i = k ∧ k ≤ 8 ∧ J ((List.range k).map fun i => encN (byteAt id i)) W', fun i _ => 8 - i.toNat, ⟨KS.of_below hW hS, 0, rfl, by omega, by simpa using hJ0⟩, ?_⟩
  rintro _ w2 _ ⟨hB2, k, rfl, hk, hj⟩
  refine cnd (fun hc => ?_) fun hc => ?_
  · have hk8 : k < 8 := by simp at hc; omega
    refine ⟨_, hB2.cell s0 h0, cnd (fun hc => by cases hc) fun _ => ⟨_, hB2.cell s1 h1, cnd (fun hc => ?_) fun _ => ?_⟩⟩
    · exact absurd (of_decide_eq_true hc) (by rw [wrap64 (by omega) (by omega)]; omega)
    rw [byte_of id k hid hk8]
    have hnext : ((List.range (k + 1)).map fun i => encN (byteAt id i)) = ((List.range k).map fun i => encN (byteAt id i)) ++ [encN (byteAt id k)] := by
      rw [List.range_succ, List.map_append, List.map_cons, List.map_nil]
    refine (hy _ (encN (byteAt id k)) w2 ?_ hj ?_).mono fun y W' hyy => ?_
    · exact List.mem_map.2 ⟨k, List.mem_range.2 hk8, rfl⟩
    · simpa using hk8
    · refine cnd (fun h5 => .inr ?_) fun h5 => ?_
      · have : y = false := by simpa using h5
        subst this
        refine ⟨_, ?_, hyy⟩
        rw [← hnext]
        refine ⟨((List.range 8).drop (k + 1)).map fun i => encN (byteAt id i), ?_⟩
        rw [← List.map_append]
        congr 1
        have := List.take_append_drop (k + 1) (List.range 8)
        rw [List.take_range, Nat.min_eq_left (by omega)] at this
        exact this
      · have : y = true := by simpa using h5
        subst this
        rw [nx (by omega)]
        exact ⟨⟨hB2.trans hyy.2, k + 1, rfl, by omega, by rw [hnext]; exact hyy.1⟩, dec hk8⟩
  · have hk8 : k = 8 := by simp at hc; omega
    subst hk8
    exact .inl hj
/-- A loop over bytes: what h becomes. -/
def foldB (g : Nat → Nat → Nat) (h : Nat) (pre : List (List Value)) : Nat := pre.foldl (fun h v => match v with | [.int _ x] => g h x.toNat | _ => h) h
theorem foldB_snoc (g : Nat → Nat → Nat) (h : Nat) (pre : List (List Value)) (x : Nat) : foldB g h (pre ++ [encN x]) = g (foldB g h pre) x := by
  unfold foldB; rw [List.foldl_append, List.foldl_cons, List.foldl_nil]; simp [encN]
theorem foldB_bytes (id : Nat) : ∀ (k h : Nat), foldB hbyte h ((List.range k).map fun i => encN (byteAt id i)) = (List.range k).foldl (fun h i => hbyte h (byteAt id i)) h
  | 0, h => by simp [foldB]
  | k + 1, h => by rw [range_foldl, List.range_succ, List.map_append, List.map_cons, List.map_nil, foldB_snoc, foldB_bytes id k h]
theorem k_hover {h id : Nat} (hh : h < 2 ^ 64) (hid : id < 2 ^ 64) : Cl Tryz.prog 173 #[.int .u64 (h : Int), .int .u64 (id : Int), .bool true, .func (.func 174) #[] #[]] w (Gives w (.int .u64 (hadd h id : Nat))) := by
  refine c173 _ _ _ 174 [] ?_
  rintro _ w1 rfl h1 _ w2 rfl h2
  have q1 : w2.heap[w.heap.size]? = some (.cells #[.int .u64 (h : Int)] 31) := by rw [h2, h1]; exact blk_alloc (blk_new _)
  obtain ⟨t2, q2⟩ : ∃ t, w2.heap[w1.heap.size]? = some (.cells #[.func (.func 174) #[] ([] : List Value).toArray] t (0, 0)) := by rw [h2]; exact ⟨_, blk_new _⟩
  have hB2 : Below w.heap.size w w2 := by rw [h2, h1]; exact (alloc_below w _).alloc (by rw [size_alloc]; omega) _
  refine c183 _ _ ?_
  rintro _ w3 rfl h3 _ w4 rfl h4
  have q3 : w4.heap[w2.heap.size]? = some (.cells #[.int .u64 (id : Int)] 32) := by rw [h4, h3]; exact blk_alloc (blk_new _)
  have q4 : w4.heap[w3.heap.size]? = some (.cells #[.bool true] 4) := by rw [h4]; exact blk_new _
  have hB4 : Below w2.heap.size w2 w4 := by rw [h4, h3]; exact (alloc_below w2 _).alloc (by rw [size_alloc]; omega) _
  have q1' := blk_below q1 hB4 (blk_lt q1)
  have q2' := blk_below q2 hB4 (blk_lt q2)
  have hBB := hB2.trans (hB4.mono hB2.size)
  have hs1 : w1.heap.size = w.heap.size + 1 := by rw [h1, size_alloc]
  have hlt := blk_lt q2'
  have hs2 : w2.heap.size = w1.heap.size + 1 := by rw [h2, size_alloc]
  have hs3 : w3.heap.size = w2.heap.size + 1 := by rw [h3, size_alloc]
  have hs4 : w4.heap.size = w3.heap.size + 1 := by rw [h4, size_alloc]
  have hseq := seqs_hbytes1 (S := fun k => w1.heap.size ≤ k ∧ k < w4.heap.size) hid (blk_cell q4 0) (blk_cell q3 0) ⟨by show w1.heap.size ≤ w3.heap.size; omega, by show w3.heap.size < w4.heap.size; omega⟩ ⟨by show w1.heap.size ≤ w2.heap.size; omega, by show w2.heap.size < w4.heap.size; omega⟩ (fun k hk => hk.2)
  have hty : ∀ vs ∈ (List.range 8).map (fun i => encN (byteAt id i)), hasT Tryz.prog [31] vs := by
    intro vs hvs
    obtain ⟨y, _, rfl⟩ := List.mem_map.1 hvs
    exact ⟨_, rfl⟩
  have hlast : foldB hbyte h ((List.range 8).map fun i => encN (byteAt id i)) = hadd h id := foldB_bytes id 8 h
  generalize hxs : (List.range 8).map (fun i => encN (byteAt id i)) = xs at hseq hty hlast
  refine ⟨_, [_, _], rfl, xs, KS fun k => w1.heap.size ≤ k ∧ k < w4.heap.size,
    fun pre W => (foldB hbyte h pre < 2 ^ 64 ∧ W.heap[w.heap.size]? = some (.cells #[.int .u64 (foldB hbyte h pre : Nat)] 31)) ∧ (Below w.heap.size w W ∧ W.heap[w1.heap.size]? = some (.cells #[.func (.func 174) #[] ([] : List Value).toArray] t2 (0, 0))),
    fun _ _ _ => False, ⟨?_, hseq, hty, keepOk_ks (fun k hk => hk.2), ?_, fun _ => ?_, ⟨hh, q1'⟩, hBB, q2'⟩, ?_, ?_, ?_, trivial⟩
  · exact ent_of Tryz.func187 (by kernel_rfl) rfl
  · intro s W W' row hI hg hr
    obtain ⟨⟨i1, i2⟩, i3, i4⟩ := hI
    exact ⟨⟨i1, ownFrom_blk (β := Unit) () W W' row i2 hg hr⟩, ownFrom_below (β := Unit) (by omega) (Nat.le_refl _) () W W' row i3 hg hr, ownFrom_blk (β := Unit) () W W' row i4 hg hr⟩
  · intro s W W' row hI; exact hI.elim
  · rintro pre W e he hlen ⟨⟨hlt64, hb⟩, hB, hf⟩
    refine ⟨_, [], blk_cell hf 0, _, blk_cell hb 0, ?_⟩
    rw [← hxs] at he
    obtain ⟨i, _, hi⟩ := List.mem_map.1 he
    simp only [encN, List.cons.injEq, Value.int.injEq, true_and, and_true] at hi
    subst hi
    have hb64 : byteAt id i < 2 ^ 64 := Nat.lt_trans (byteAt_lt id i) (by decide)
    refine (k_hAdd1 (w := W) hlt64 hb64).is ⟨_, rfl, blk_some hb (by simp), blk_free hb _, ?_⟩
    rintro _ rfl
    have hfold : foldB hbyte h (pre ++ [[.int .u64 ((byteAt id i : Nat) : Int)]]) = hbyte (foldB hbyte h pre) (byteAt id i) := foldB_snoc hbyte h pre (byteAt id i)
    refine ⟨keepsFrom_set hb _, ⟨by simp, fun k hk => Below.heap_setCell _ _ _ _ (by show k ≠ w.heap.size; omega)⟩, ⟨?_, ?_⟩, hB.setCell (Nat.le_refl _) _, blk_far hf (by show w1.heap.size ≠ w.heap.size; omega) _⟩
    · rw [hfold]; exact hbyte_lt _ _
    · rw [hfold]; exact blk_set hb 0 _
  · rintro D W hD ⟨⟨_, hb⟩, hB, _⟩ hd
    refine ⟨_, blk_cell hb 0, hd, ?_⟩
    rintro _ rfl
    exact ⟨by rw [hlast], hB.trans ((Below.refl _ _).grown (grownBy_putObj' _ D _) hB.size (fun k e => by cases e; omega))⟩
  · intro D pre W _ _ hx; exact hx.elim
theorem k_hAdd {h id : Nat} (hh : h < 2 ^ 64) (hid : id < 2 ^ 64) : Cl Tryz.prog 170 #[.int .u64 (h : Int), .int .u64 (id : Int)] w (Gives w (.int .u64 (hadd h id : Nat))) :=
  c170 _ _ ((k_hover hh hid).gives fun w' hB => ⟨_, rfl, rfl, hB⟩)
theorem k_hOf (h : Row encId w a n c l) (hr : Rng l) : Cl Tryz.prog 163 #[.slice a n c] w (Gives w (.int .u64 (hof (nats l) : Nat))) := by
  have e1 := h.len; have e3 := h.n63
  refine c163 _ _ _ ⟨fun h2 i w' => Below w.heap.size w w' ∧ ∃ k : Nat, i = k ∧ k ≤ n ∧ h2 = ((hof (nats (l.take k)) : Nat) : Int), fun _ i _ => n - i.toNat, ⟨Below.refl _ _, 0, rfl, by omega, by rw [List.take_zero, show nats [] = [] from rfl, hof_nil]; rfl⟩, ?_⟩
  rintro _ w1 _ _ ⟨hB, k, rfl, hk, rfl⟩
  refine cnd (fun hc => ?_) fun hc => ?_
  · have hkn : k < n := by simpa using hc
    refine (h.below hB).idN hkn fun hl => ?_
    obtain ⟨r1, r2⟩ := hr _ (List.getElem_mem hl)
    have ex : l[k] = ((l[k].toNat : Nat) : Int) := by omega
    rw [ex]
    refine (k_hAdd (w := w1) (hof_lt _) (by omega)).gives fun w2 hB2 => ⟨_, rfl, ?_⟩
    rw [nx (by omega)]
    refine ⟨⟨hB.trans (hB2.mono hB.size), k + 1, rfl, by omega, ?_⟩, dec hkn⟩
    rw [take_one hl, nats_snoc, hof_snoc]
  · have hkn : ¬ k < n := by simpa using hc
    exact ⟨by rw [take_all (by omega)], hB⟩
/-- The slot so many turns from a hash's. -/
def probe (h many turn : Nat) : Nat := (h % many + turn % many) % many
theorem k_r06Probe {h many turn : Nat} (hh : h < 2 ^ 64) (hm : 0 < many) (hmx : many ≤ 1099511627776) : Cl Tryz.prog 134 #[.int .u64 (h : Int), .int .i64 (many : Int), .int .i64 (turn : Int)] w (Is (.int .i64 (probe h many turn : Nat)) w) := by
  have e0 : IntKind.u64.wrap (many : Int) = (many : Int) := wrapu (by omega) (by omega)
  have h1 : h % many < many := Nat.mod_lt _ hm
  have h2 : turn % many < many := Nat.mod_lt _ hm
  refine c134 _ _ _ (cnd (fun hc => ?_) fun _ => cnd (fun hc => ?_) fun _ => cnd (fun hc => ?_) fun _ => ⟨?_, rfl⟩)
  · exact absurd (of_decide_eq_true hc) (by rw [e0]; omega)
  · exact absurd (of_decide_eq_true hc) (by omega)
  · exact absurd (of_decide_eq_true hc) (by omega)
  · rw [e0, tmodN, tmodN, show IntKind.i64.wrap ((h % many : Nat) : Int) = ((h % many : Nat) : Int) from wrap64 (by omega) (by omega), ← Int.natCast_add, wrap64 (by omega) (by omega), tmodN]; rfl
theorem k_hSlot {h many : Nat} (hh : h < 2 ^ 64) (hm : 0 < many) (hmx : many ≤ 1099511627776) : Cl Tryz.prog 171 #[.int .u64 (h : Int), .int .i64 (many : Int)] w (Is (.tuple #[.int .i64 ((h % many : Nat) : Int), .int .i64 0]) w) := by
  have e0 : IntKind.u64.wrap (many : Int) = (many : Int) := wrapu (by omega) (by omega)
  have h1 : h % many < many := Nat.mod_lt _ hm
  refine c171 _ _ (cnd (fun hc => ?_) fun _ => cnd (fun hc => ?_) fun _ => ⟨?_, rfl⟩)
  · exact absurd (of_decide_eq_true hc) (by omega)
  · exact absurd (of_decide_eq_true hc) (by rw [e0]; omega)
  · rw [e0, tmodN, wrap64 (by omega) (by omega)]
theorem k_hProbe {h many turn : Nat} (hh : h < 2 ^ 64) (hm : 0 < many) (hmx : many ≤ 1099511627776) : Cl Tryz.prog 164 #[.int .u64 (h : Int), .int .i64 (many : Int), .int .i64 (turn : Int)] w (Is (.tuple #[.int .i64 ((probe h many turn : Nat) : Int), .int .i64 0]) w) := by
  have h1 : h % many < many := Nat.mod_lt _ hm
  have h2 : turn % many < many := Nat.mod_lt _ hm
  refine c164 _ _ _ ((k_hSlot hh hm hmx).is ⟨_, _, rfl, ?_⟩)
  refine cnd (fun hc => by cases hc) fun _ => cnd (fun hc => ?_) fun _ => cnd (fun hc => ?_) fun _ => cnd (fun hc => ?_) fun _ => cnd (fun hc => ?_) fun _ => ⟨?_, rfl⟩
  · exact absurd (of_decide_eq_true hc) (by omega)
  · exact absurd (of_decide_eq_true hc) (by omega)
  · exact absurd (of_decide_eq_true hc) (by omega)
  · exact absurd (of_decide_eq_true hc) (by omega)
  · rw [tmodN, ← Int.natCast_add, wrap64 (by omega) (by omega), tmodN]; rfl
end
end Go.Eng
namespace Go.Eng
open Go Go.RowKit
theorem Row.atK {α : Type} {enc : α → List Value} {k : Nat} (E : En enc k) {w : World} {a : Option Addr} {n c : Nat} {l : List α} (h : Row enc w a n c l) {i : Nat} (hi : i < n) :
    ∃ (hl : i < l.length) (p : Addr), a = some p ∧ ∀ j, j < k → w.cell? ((p.add ((i : Int).toNat * k)).add j) = (enc l[i])[j]? := by
  have hl : i < l.length := by have := h.len; omega
  obtain ⟨p, hp, hc⟩ := h.rd.get E.len hl
  exact ⟨hl, p, hp, by simpa using hc⟩
section
variable {w : World} {a : Option Addr} {n c : Nat}
theorem Row.entN {l : List REnt} (h : Row encEnt w a n c l) {i : Nat} {K : Int → Option Addr → Nat → Nat → Int → Prop} (hi : i < n) (hK : ∀ hl : i < l.length, K l[i].st l[i].ty.a l[i].ty.n l[i].ty.c l[i].num) :
    ∃ p : Addr, a = some p ∧ 0 ≤ (i : Int) ∧ (i : Int) < (n : Int) ∧ ∃ (x : Int) (ya : Option Addr) (yn yc : Nat) (z : Int),
      w.cell? (p.add ((i : Int).toNat * 3)) = some (.int .i64 x) ∧ w.cell? ((p.add ((i : Int).toNat * 3)).add 1) = some (.slice ya yn yc) ∧ w.cell? ((p.add ((i : Int).toNat * 3)).add 2) = some (.int .i64 z) ∧ K x ya yn yc z := by
  obtain ⟨hl, p, hp, hc⟩ := h.atK enEnt hi
  exact ⟨p, hp, by omega, by omega, _, _, _, _, _, hc 0 (by decide), hc 1 (by decide), hc 2 (by decide), hK hl⟩
theorem Row.entSt {l : List REnt} (h : Row encEnt w a n c l) {i : Nat} {K : Int → Prop} (hi : i < n) (hK : ∀ hl : i < l.length, K l[i].st) :
    ∃ p : Addr, a = some p ∧ 0 ≤ (i : Int) ∧ (i : Int) < (n : Int) ∧ ∃ x : Int, w.cell? (p.add ((i : Int).toNat * 3)) = some (.int .i64 x) ∧ K x := by
  obtain ⟨hl, p, hp, hc⟩ := h.atK enEnt hi
  exact ⟨p, hp, by omega, by omega, _, hc 0 (by decide), hK hl⟩
theorem Row.entTy {l : List REnt} (h : Row encEnt w a n c l) {i : Nat} {K : Option Addr → Nat → Nat → Prop} (hi : i < n) (hK : ∀ hl : i < l.length, K l[i].ty.a l[i].ty.n l[i].ty.c) :
    ∃ p : Addr, a = some p ∧ 0 ≤ (i : Int) ∧ (i : Int) < (n : Int) ∧ ∃ (ya : Option Addr) (yn yc : Nat), w.cell? ((p.add ((i : Int).toNat * 3)).add 1) = some (.slice ya yn yc) ∧ K ya yn yc := by
  obtain ⟨hl, p, hp, hc⟩ := h.atK enEnt hi
  exact ⟨p, hp, by omega, by omega, _, _, _, hc 1 (by decide), hK hl⟩
theorem Row.entNum {l : List REnt} (h : Row encEnt w a n c l) {i : Nat} {K : Int → Prop} (hi : i < n) (hK : ∀ hl : i < l.length, K l[i].num) :
    ∃ p : Addr, a = some p ∧ 0 ≤ (i : Int) ∧ (i : Int) < (n : Int) ∧ ∃ x : Int, w.cell? ((p.add ((i : Int).toNat * 3)).add 2) = some (.int .i64 x) ∧ K x := by
  obtain ⟨hl, p, hp, hc⟩ := h.atK enEnt hi
  exact ⟨p, hp, by omega, by omega, _, hc 2 (by decide), hK hl⟩
theorem Row.stpN {l : List Stp} (h : Row encStp w a n c l) {i : Nat} {K : Int → Int → Prop} (hi : i < n) (hK : ∀ hl : i < l.length, K l[i].1 l[i].2) :
    ∃ p : Addr, a = some p ∧ 0 ≤ (i : Int) ∧ (i : Int) < (n : Int) ∧ ∃ (x y : Int), w.cell? (p.add ((i : Int).toNat * 2)) = some (.int .u64 x) ∧ w.cell? ((p.add ((i : Int).toNat * 2)).add 1) = some (.int .i64 y) ∧ K x y := by
  obtain ⟨hl, p, hp, hc⟩ := h.atK enStp hi
  exact ⟨p, hp, by omega, by omega, _, _, hc 0 (by decide), hc 1 (by decide), hK hl⟩
theorem Row.nodeUsed {l : List RNode} (h : Row encNode w a n c l) {i : Nat} {K : Bool → Prop} (hi : i < n) (hK : ∀ hl : i < l.length, K l[i].used) :
    ∃ p : Addr, a = some p ∧ 0 ≤ (i : Int) ∧ (i : Int) < (n : Int) ∧ ∃ x : Bool, w.cell? (p.add ((i : Int).toNat * 4)) = some (.bool x) ∧ K x := by
  obtain ⟨hl, p, hp, hc⟩ := h.atK enNode hi
  exact ⟨p, hp, by omega, by omega, _, hc 0 (by decide), hK hl⟩
theorem Row.nodeTy {l : List RNode} (h : Row encNode w a n c l) {i : Nat} {K : Option Addr → Nat → Nat → Prop} (hi : i < n) (hK : ∀ hl : i < l.length, K l[i].ty.a l[i].ty.n l[i].ty.c) :
    ∃ p : Addr, a = some p ∧ 0 ≤ (i : Int) ∧ (i : Int) < (n : Int) ∧ ∃ (ya : Option Addr) (yn yc : Nat), w.cell? ((p.add ((i : Int).toNat * 4)).add 1) = some (.slice ya yn yc) ∧ K ya yn yc := by
  obtain ⟨hl, p, hp, hc⟩ := h.atK enNode hi
  exact ⟨p, hp, by omega, by omega, _, _, _, hc 1 (by decide), hK hl⟩
theorem Row.nodeN {l : List RNode} (h : Row encNode w a n c l) {i : Nat} {K : Bool → Option Addr → Nat → Nat → Option Addr → Nat → Nat → Option Addr → Nat → Nat → Prop} (hi : i < n)
    (hK : ∀ hl : i < l.length, K l[i].used l[i].ty.a l[i].ty.n l[i].ty.c l[i].plus.a l[i].plus.n l[i].plus.c l[i].less.a l[i].less.n l[i].less.c) :
    ∃ p : Addr, a = some p ∧ 0 ≤ (i : Int) ∧ (i : Int) < (n : Int) ∧ ∃ (x : Bool) (ya : Option Addr) (yn yc : Nat) (ua : Option Addr) (un uc : Nat) (va : Option Addr) (vn vc : Nat),
      w.cell? (p.add ((i : Int).toNat * 4)) = some (.bool x) ∧ w.cell? ((p.add ((i : Int).toNat * 4)).add 1) = some (.slice ya yn yc) ∧ w.cell? ((p.add ((i : Int).toNat * 4)).add 2) = some (.slice ua un uc) ∧ w.cell? ((p.add ((i : Int).toNat * 4)).add 3) = some (.slice va vn vc) ∧
      K x ya yn yc ua un uc va vn vc := by
  obtain ⟨hl, p, hp, hc⟩ := h.atK enNode hi
  exact ⟨p, hp, by omega, by omega, _, _, _, _, _, _, _, _, _, _, hc 0 (by decide), hc 1 (by decide), hc 2 (by decide), hc 3 (by decide), hK hl⟩
end
/-- A number of 64 bits, signed. -/
def I64 (x : Int) : Prop := -9223372036854775808 ≤ x ∧ x < 9223372036854775808
/-- Element by element. -/
def All2 {α β : Type} (R : α → β → Prop) (l : List α) (l' : List β) : Prop := l.length = l'.length ∧ ∀ i (h : i < l.length) (h' : i < l'.length), R l[i] l'[i]
theorem All2.mono {α β : Type} {R R' : α → β → Prop} {l : List α} {l' : List β} (h : All2 R l l') (hr : ∀ x y, R x y → R' x y) : All2 R' l l' := ⟨h.1, fun i h1 h2 => hr _ _ (h.2 i h1 h2)⟩
theorem All2.nil {α β : Type} {R : α → β → Prop} : All2 R ([] : List α) ([] : List β) := ⟨rfl, fun i h => by simp at h⟩
theorem All2.take {α β : Type} {R : α → β → Prop} {l : List α} {l' : List β} (h : All2 R l l') (k : Nat) : All2 R (l.take k) (l'.take k) :=
  ⟨by simp [h.1], fun i h1 h2 => by simp at h1 h2; simpa using h.2 i (by omega) (by omega)⟩
structure IsEnt (w : World) (r : REnt) (e : Entry) : Prop where
  st : r.st = e.st
  num : r.num = e.num
  ty : Row encId w r.ty.a r.ty.n r.ty.c e.ty
  rng : Rng e.ty ∧ I64 e.st ∧ I64 e.num
structure IsNode (w : World) (r : RNode) (x : Node) : Prop where
  used : r.used = x.used
  ty : Row encId w r.ty.a r.ty.n r.ty.c x.ty
  plus : Row encStp w r.plus.a r.plus.n r.plus.c x.plus
  less : Row encStp w r.less.a r.less.n r.less.c x.less
  rng : Rng x.ty ∧ (∀ s ∈ x.plus ++ x.less, 0 ≤ s.1 ∧ s.1 < 18446744073709551616 ∧ I64 s.2)
def Ents (w : World) (a : Option Addr) (n c : Nat) (l : List Entry) : Prop := ∃ rs, Row encEnt w a n c rs ∧ All2 (IsEnt w) rs l
def Nodes (w : World) (a : Option Addr) (n c : Nat) (l : List Node) : Prop := ∃ rs, Row encNode w a n c rs ∧ All2 (IsNode w) rs l
theorem IsEnt.below {w w' : World} {r : REnt} {e : Entry} (h : IsEnt w r e) (hB : Below w.heap.size w w') : IsEnt w' r e := ⟨h.st, h.num, h.ty.below hB, h.rng⟩
theorem IsNode.below {w w' : World} {r : RNode} {e : Node} (h : IsNode w r e) (hB : Below w.heap.size w w') : IsNode w' r e := ⟨h.used, h.ty.below hB, h.plus.below hB, h.less.below hB, h.rng⟩
theorem Ents.below {w w' : World} {a : Option Addr} {n c : Nat} {l : List Entry} (h : Ents w a n c l) (hB : Below w.heap.size w w') : Ents w' a n c l := by
  obtain ⟨rs, h1, h2⟩ := h; exact ⟨rs, h1.below hB, h2.mono fun _ _ h => h.below hB⟩
theorem Nodes.below {w w' : World} {a : Option Addr} {n c : Nat} {l : List Node} (h : Nodes w a n c l) (hB : Below w.heap.size w w') : Nodes w' a n c l := by
  obtain ⟨rs, h1, h2⟩ := h; exact ⟨rs, h1.below hB, h2.mono fun _ _ h => h.below hB⟩
end Go.Eng
namespace Go.Eng
open Go Go.RowKit Go.Proofs
set_option maxRecDepth 10000
theorem probe_lt {h many turn : Nat} (hm : 0 < many) : probe h many turn < many := Nat.mod_lt _ hm
/-- A slot. -/
def slot (l : List Entry) (k : Nat) : Entry := l.getD k default
theorem slot_eq {l : List Entry} {k : Nat} (h : k < l.length) : slot l k = l[k] := by simp [slot, h]
/-- A type's hash. -/
def hashT (t : List Int) : Nat := hof (nats t)
/-- A type stands in a slot, all those ahead of it, from its hash's slot on, being not free. -/
def FoundP (l : List Entry) (t : List Int) (at_ : Int) : Prop :=
  ∃ k, k < l.length ∧ ((probe (hashT t) l.length k : Nat) : Int) = at_ ∧ (∀ u, u < k → ((probe (hashT t) l.length u : Nat) : Int) ≠ at_ ∧ (slot l (probe (hashT t) l.length u)).st ≠ 0) ∧
    (slot l (probe (hashT t) l.length k)).st = 1 ∧ (slot l (probe (hashT t) l.length k)).ty = t
/-- A call that tells whether something holds. -/
def Asks (w : World) (p : Prop) (v : Value) (w' : World) : Prop := ∃ b : Bool, v = .bool b ∧ (b = true ↔ p) ∧ Below w.heap.size w w'
section
variable {w : World} {a b : Option Addr} {n c m d : Nat} {l : List Entry} {t : List Int}
theorem k_r07Found (h : Ents w a n c l) (ht : Row encId w b m d t) (hr : Rng t) (hn : n ≤ 1048576) (at_ : Int) :
    Cl Tryz.prog 98 #[.agg #[.slice a n c], .slice b m d, .int .i64 at_] w (Asks w (FoundP l t at_)) := by
  refine c98 _ _ _ _ _ _ _ ?_
  obtain ⟨rs, hrow, hall⟩ := h
  have e1 := hrow.len; have el := hall.1
  obtain rfl : n = l.length := by omega
  clear e1
  rintro _ w1 rfl h1
  have q1 : w1.heap[w.heap.size]? = some (.cells #[.slice a l.length c] 25) := by rw [h1]; exact blk_new _
  have B1 : Below w.heap.size w w1 := by rw [h1]; exact alloc_below _ _
  clear h1
  have hO : Cl Tryz.prog 133 #[.slice b m d] w1 (Tells w1 (.int .u64 (hashT t : Nat))) := k_r06Of (ht.below B1) hr
  refine hO.tells fun w2 hq2 => ⟨_, rfl, _, _, _, blk_cell (blk_below q1 (hq2.below _) (blk_lt q1)) 0, ?_⟩
  have B2 := B1.trans (hq2.below _)
  have q2 := blk_below q1 (hq2.below _) (blk_lt q1)
  have hh : hashT t < 2 ^ 64 := hof_lt (nats t)
  refine ⟨fun _ i W => Below w.heap.size w W ∧ W.heap[w.heap.size]? = some (.cells #[.slice a l.length c] 25) ∧ ∃ k : Nat, i = k ∧ k ≤ l.length ∧ ∀ u, u < k → ((probe (hashT t) l.length u : Nat) : Int) ≠ at_ ∧ (slot l (probe (hashT t) l.length u)).st ≠ 0,
    fun _ i _ => l.length - i.toNat, ⟨B2, q2, 0, rfl, by omega, by intro u hu; omega⟩, ?_⟩
  rintro _ w3 _ _ ⟨B3, q3, k, rfl, hk, hu⟩
  refine cnd (fun hc => ?_) fun hc => ?_
  · have hkn : k < l.length := by simpa using hc
    have hpl := probe_lt (h := hashT t) (turn := k) (show 0 < l.length by omega)
    refine ⟨_, _, _, blk_cell q3 0, (k_r06Probe hh (by omega) (by omega)).is ⟨_, rfl, cnd (fun hc => ?_) fun hc => ?_⟩⟩
    · have hat : ((probe (hashT t) l.length k : Nat) : Int) = at_ := by simpa using hc
      subst hat
      refine ⟨_, _, _, blk_cell q3 0, (hrow.below B3).entSt hpl fun hl => ?_⟩
      have hent := hall.2 _ hl (by omega)
      have hsl : slot l (probe (hashT t) l.length k) = l[probe (hashT t) l.length k]'(by omega) := slot_eq _
      have uniq : ∀ k', (k' < l.length ∧ ((probe (hashT t) l.length k' : Nat) : Int) = ((probe (hashT t) l.length k : Nat) : Int) ∧ (∀ u, u < k' → ((probe (hashT t) l.length u : Nat) : Int) ≠ ((probe (hashT t) l.length k : Nat) : Int) ∧ (slot l (probe (hashT t) l.length u)).st ≠ 0)) → k' = k := by
        rintro k' ⟨h1, h2, h3⟩
        rcases Nat.lt_trichotomy k' k with h | h | h
        · exact absurd h2 (hu k' h).1
        · exact h
        · exact absurd rfl (h3 k h).1
      refine cnd (fun hc => ?_) fun hc => ?_
      · have hst : rs[probe (hashT t) l.length k].st = 1 := by simpa using hc
        refine ⟨_, _, _, blk_cell q3 0, (hrow.below B3).entTy hpl fun hl' => (k_r03Same (hent.ty.below B3) (ht.below B3)).tells fun w5 hq5 => ⟨_, rfl, _, rfl, ?_, B3.trans (hq5.below _)⟩⟩
        rw [beq_iff_eq]
        constructor
        · intro hty
          exact ⟨k, by omega, rfl, hu, by rw [hsl, ← hent.st]; exact hst, by rw [hsl]; exact hty⟩
        · rintro ⟨k', h1, h2, h3, h4, h5⟩
          obtain rfl := uniq k' ⟨h1, h2, h3⟩
          rw [hsl] at h5; exact h5
      · refine ⟨_, rfl, ?_, B3⟩
        simp only [Bool.false_eq_true, false_iff]
        rintro ⟨k', h1, h2, h3, h4, h5⟩
        obtain rfl := uniq k' ⟨h1, h2, h3⟩
        rw [hsl, ← hent.st] at h4
        simp [h4] at hc
    · have hat : ((probe (hashT t) l.length k : Nat) : Int) ≠ at_ := by simpa using hc
      refine ⟨_, _, _, blk_cell q3 0, (hrow.below B3).entSt hpl fun hl => ?_⟩
      have hent := hall.2 _ hl (by omega)
      have hsl : slot l (probe (hashT t) l.length k) = l[probe (hashT t) l.length k]'(by omega) := slot_eq _
      refine cnd (fun hc => ?_) fun hc => ?_
      · have hst : rs[probe (hashT t) l.length k].st = 0 := by simpa using hc
        refine ⟨_, rfl, ?_, B3⟩
        simp only [Bool.false_eq_true, false_iff]
        rintro ⟨k', h1, h2, h3, h4, h5⟩
        rcases Nat.lt_trichotomy k' k with h | h | h
        · exact (hu k' h).1 h2
        · subst h; exact hat h2
        · exact (h3 k h).2 (by rw [hsl, ← hent.st]; exact hst)
      · rw [nx (by omega)]
        refine ⟨⟨B3, q3, k + 1, rfl, by omega, fun u hu' => ?_⟩, dec hkn⟩
        by_cases huk : u = k
        · subst huk; exact ⟨hat, by rw [hsl, ← hent.st]; simpa using hc⟩
        · exact hu u (by omega)
  · have hkn : ¬ k < l.length := by simpa using hc
    refine ⟨_, rfl, ?_, B3⟩
    simp only [Bool.false_eq_true, false_iff]
    rintro ⟨k', h1, h2, _⟩
    exact (hu k' (by omega)).1 h2
end
end Go.Eng
namespace Go.Eng
open Go Go.RowKit Go.Proofs
set_option maxRecDepth 10000
theorem Row.ks {α : Type} {enc : α → List Value} {w w' : World} {a : Option Addr} {n c : Nat} {l : List α} {S : Nat → Prop} (h : Row enc w a n c l) (hk : KS S w w') (hs : l ≠ [] → ∀ p, a = some p → S p.block) : Row enc w' a n c l := by
  by_cases hl : l = []
  · subst hl; exact ⟨⟨h.rd.1, .inl rfl⟩, h.le, h.nil, h.max⟩
  · exact ⟨h.rd.keep fun p hp _ => hk.2 _ (hs hl p hp), h.le, h.nil, h.max⟩
theorem Row.block_lt {α : Type} {enc : α → List Value} {k : Nat} (E : En enc k) (hk : 0 < k) {w : World} {a : Option Addr} {n c : Nat} {l : List α} (h : Row enc w a n c l) (hl : l ≠ []) : ∀ p, a = some p → p.block < w.heap.size := by
  intro p hp
  have h0 : 0 < l.length := List.length_pos_iff.2 hl
  obtain ⟨hl', q, hq, hc⟩ := h.atK E (i := 0) (by have := h.len; omega)
  rw [hp] at hq; cases hq
  have h1 := hc 0 hk
  rw [List.getElem?_eq_getElem (by rw [E.len]; exact hk)] at h1
  have := World.block_lt_of_cell? w _ h1
  simpa [add_block] using this
def rslot (rs : List REnt) (k : Nat) : REnt := rs.getD k default
theorem rslot_eq {l : List REnt} {k : Nat} (h : k < l.length) : rslot l k = l[k] := by simp [rslot, h]
/-- What a turn yields. -/
def turnV (rs : List REnt) (i : Nat) : List Value := [.int .i64 (i : Int), .agg (encEnt (rslot rs i)).toArray]
def turnsV (rs : List REnt) (H : Nat) : List (List Value) := (List.range rs.length).map fun k => turnV rs (probe H rs.length k)
section
variable {w : World} {a b : Option Addr} {n c m d : Nat} {l : List Entry} {t : List Int} {rs : List REnt}
theorem seqs_lturns1 {c0 c1 : Addr} (h0 : w.cell? c0 = some (.slice b m d)) (ht : Row encId w b m d t) (hr : Rng t) (h1 : w.cell? c1 = some (.slice a n c)) (h : Row encEnt w a n c rs) (hn : n ≤ 1048576)
    {S : Nat → Prop} (s1 : S c1.block) (s2 : rs ≠ [] → ∀ p, a = some p → S p.block) (hS : ∀ k, S k → k < w.heap.size) :
    Seqs Tryz.prog 162 [.pointer (some c0), .pointer (some c1)] (turnsV rs (hashT t)) (KS S) w := by
  obtain rfl : n = rs.length := h.len
  have hlen : (turnsV rs (hashT t)).length = rs.length := by simp [turnsV]
  refine seqs_of fun k J Jx W hW hJ hJx hy hJ0 => ?_
  have hO : Cl Tryz.prog 163 #[.slice b m d] W (Gives W (.int .u64 (hashT t : Nat))) := k_hOf (ht.below hW) hr
  have hh : hashT t < 2 ^ 64 := hof_lt (nats t)
  refine c162 _ _ _ ⟨_, _, _, cell_below h0 hW, hO.gives fun w1 hB1 => ⟨_, rfl, _, _, _, cell_below h1 (hW.trans (hB1.mono hW.size)), ?_⟩⟩
  refine ⟨fun i W' => KS S w W' ∧ ∃ k : Nat, i = k ∧ k ≤ rs.length ∧ J ((turnsV rs (hashT t)).take k) W', fun i _ => rs.length - i.toNat, ⟨KS.of_below (hW.trans (hB1.mono hW.size)) hS, 0, rfl, by omega, by simpa using hJ _ _ _ hJ0 hB1⟩, ?_⟩
  rintro _ w2 _ ⟨hB2, k, rfl, hk, hj⟩
  refine cnd (fun hc => ?_) fun hc => ?_
  · have hkn : k < rs.length := by simpa using hc
    have hpl := probe_lt (h := hashT t) (turn := k) (show 0 < rs.length by omega)
    refine ⟨_, _, _, hB2.cell s1 h1, (k_hProbe hh (by omega) (by omega)).is ⟨_, _, rfl, cnd (fun hc => by cases hc) fun _ => ⟨_, _, _, hB2.cell s1 h1, (h.ks hB2 s2).entN hpl fun hl => ?_⟩⟩⟩
    have hk' : k < (turnsV rs (hashT t)).length := by omega
    have hget : (turnsV rs (hashT t))[k] = turnV rs (probe (hashT t) rs.length k) := by simp [turnsV]
    have hnext : (turnsV rs (hashT t)).take (k + 1) = (turnsV rs (hashT t)).take k ++ [turnV rs (probe (hashT t) rs.length k)] := by rw [take_one hk', hget]
    have hval : turnV rs (probe (hashT t) rs.length k) = [.int .i64 ((probe (hashT t) rs.length k : Nat) : Int), .agg #[.int .i64 (rs[probe (hashT t) rs.length k]).st, .slice (rs[probe (hashT t) rs.length k]).ty.a (rs[probe (hashT t) rs.length k]).ty.n (rs[probe (hashT t) rs.length k]).ty.c, .int .i64 (rs[probe (hashT t) rs.length k]).num]] := by
      simp only [turnV, rslot_eq hl]; rfl
    rw [← hval]
    refine (hy _ _ w2 ?_ hj ?_).mono fun y W' hyy => ?_
    · rw [← hget]; exact List.getElem_mem _
    · simp [hlen]; omega
    · refine cnd (fun h5 => .inr ?_) fun h5 => ?_
      · have : y = false := by simpa using h5
        subst this
        exact ⟨_, by rw [← hnext]; exact List.take_prefix _ _, hyy⟩
      · have : y = true := by simpa using h5
        subst this
        rw [nx (by have := h.n63; omega)]
        exact ⟨⟨hB2.trans hyy.2, k + 1, rfl, by omega, by rw [hnext]; exact hyy.1⟩, dec hkn⟩
  · have hkn : ¬ k < rs.length := by simpa using hc
    rw [take_all (by omega)] at hj
    exact .inl hj
end
end Go.Eng
namespace Go.Eng
open Go Go.RowKit Go.Proofs
set_option maxRecDepth 10000
/-- Where the turns of a type end. -/
def stops (t : List Int) (e : Entry) : Bool := e.st == 0 || (e.st == 1 && e.ty == t)
def stopAt (l : List Entry) (t : List Int) (k : Nat) : Bool := stops t (slot l (probe (hashT t) l.length k))
/-- The slot of a type; -1: it has none. -/
def place (l : List Entry) (t : List Int) : Int :=
  match (List.range l.length).find? (stopAt l t) with
  | none => -1
  | some k => if (slot l (probe (hashT t) l.length k)).st = 1 then ((probe (hashT t) l.length k : Nat) : Int) else -1
theorem turnV_inj {rs : List REnt} {i j : Nat} (h : turnV rs i = turnV rs j) : i = j := by
  simp only [turnV, List.cons.injEq, Value.int.injEq, true_and, and_true] at h
  omega
theorem turnV_eq {rs : List REnt} {i : Nat} (hi : i < rs.length) : turnV rs i = [.int .i64 (i : Int), .agg #[.int .i64 rs[i].st, .slice rs[i].ty.a rs[i].ty.n rs[i].ty.c, .int .i64 rs[i].num]] := by
  simp only [turnV, rslot_eq hi]; rfl
section
variable {w : World} {a b : Option Addr} {n c m d : Nat} {l : List Entry} {t : List Int}
theorem k_lplace (h : Ents w a n c l) (ht : Row encId w b m d t) (hr : Rng t) (hn : n ≤ 1048576) :
    Cl Tryz.prog 107 #[.agg #[.slice a n c], .slice b m d] w (Gives w (.int .i64 (place l t))) := by
  refine c107 _ _ _ _ _ _ ?_
  obtain ⟨rs, hrow, hall⟩ := h
  have el := hall.1
  obtain rfl : n = rs.length := hrow.len
  rintro _ w1 rfl h1 _ w2 rfl h2 _ w3 rfl h3
  have z1 : w1.heap.size = w.heap.size + 1 := by rw [h1, size_alloc]
  have z2 : w2.heap.size = w1.heap.size + 1 := by rw [h2, size_alloc]
  have z3 : w3.heap.size = w2.heap.size + 1 := by rw [h3, size_alloc]
  have p1 : w3.heap[w.heap.size]? = some (.cells #[.slice a rs.length c] 25) := by rw [h3, h2, h1]; exact blk_alloc (blk_alloc (blk_new _))
  have p2 : w3.heap[w1.heap.size]? = some (.cells #[.slice b m d] 33) := by rw [h3, h2]; exact blk_alloc (blk_new _)
  have p3 : w3.heap[w2.heap.size]? = some (.cells #[.int .i64 0] 3) := by rw [h3]; exact blk_new _
  have B3 : Below w.heap.size w w3 := by rw [h3, h2, h1]; exact ((alloc_below w _).alloc (by rw [size_alloc]; omega) _).alloc (by rw [size_alloc, size_alloc]; omega) _
  refine ⟨blk_some p3 (by decide), blk_free p3 _, ?_⟩
  rintro w4 h4
  have q1 : w4.heap[w.heap.size]? = some (.cells #[.slice a rs.length c] 25) := by rw [h4]; exact blk_far p1 (by show w.heap.size ≠ w2.heap.size; omega) _
  have q2 : w4.heap[w1.heap.size]? = some (.cells #[.slice b m d] 33) := by rw [h4]; exact blk_far p2 (by show w1.heap.size ≠ w2.heap.size; omega) _
  have q3 : w4.heap[w2.heap.size]? = some (.cells #[.int .i64 (-1)] 3) := by rw [h4]; exact blk_set p3 0 _
  have B4 : Below w.heap.size w w4 := by rw [h4]; exact B3.setCell (by show w.heap.size ≤ w2.heap.size; omega) _
  have z4 : w4.heap.size = w3.heap.size := by rw [h4, size_set]
  clear h4 p1 p2 p3 h3 h2 h1
  refine ⟨_, _, _, blk_cell q1 0, _, _, _, blk_cell q2 0, ?_⟩
  refine c143 _ _ _ _ _ _ ?_
  rintro _ w5 rfl h5 _ w6 rfl h6
  have z5 : w5.heap.size = w4.heap.size + 1 := by rw [h5, size_alloc]
  have z6 : w6.heap.size = w5.heap.size + 1 := by rw [h6, size_alloc]
  have r4 : w6.heap[w4.heap.size]? = some (.cells #[.slice a rs.length c] 25) := by rw [h6, h5]; exact blk_alloc (blk_new _)
  have r5 : w6.heap[w5.heap.size]? = some (.cells #[.slice b m d] 33) := by rw [h6]; exact blk_new _
  have B46 : Below w4.heap.size w4 w6 := by rw [h6, h5]; exact (alloc_below w4 _).alloc (by rw [size_alloc]; omega) _
  have r2 := blk_below q2 B46 (blk_lt q2)
  have r3 := blk_below q3 B46 (blk_lt q3)
  have B6 : Below w.heap.size w w6 := B4.trans (B46.mono B4.size)
  clear h5 h6 B46 q1 q2 q3
  have hseq := seqs_lturns1 (S := fun k => k < w.heap.size ∨ k = w4.heap.size) (blk_cell r5 0) (ht.below B6) hr (blk_cell r4 0) (hrow.below B6) hn (.inr rfl) (fun hne p hp => .inl (hrow.block_lt enEnt (by decide) hne p hp)) (fun k hk => by omega)
  have hxl : (turnsV rs (hashT t)).length = rs.length := by simp [turnsV]
  have hxg : ∀ k (hk : k < (turnsV rs (hashT t)).length), (turnsV rs (hashT t))[k] = turnV rs (probe (hashT t) rs.length k) := by intro k hk; simp [turnsV]
  refine ⟨_, [_, _], rfl, turnsV rs (hashT t), KS fun k => k < w.heap.size ∨ k = w4.heap.size,
    fun pre W => (((∀ v ∈ pre, ∀ i, i < rs.length → v = turnV rs i → stops t (slot l i) = false) ∧ W.heap[w2.heap.size]? = some (.cells #[.int .i64 (-1)] 3)) ∧ W.heap[w1.heap.size]? = some (.cells #[.slice b m d] 33)) ∧ Below w.heap.size w6 W,
    fun e pre W => match e with
      | none => False
      | some _ => ∃ q i, (((pre = q ++ [turnV rs i] ∧ i < rs.length ∧ (∀ v ∈ q, ∀ j, j < rs.length → v = turnV rs j → stops t (slot l j) = false) ∧ stops t (slot l i) = true) ∧
          W.heap[w2.heap.size]? = some (.cells #[.int .i64 (if (slot l i).st = 1 then (i : Int) else -1)] 3)) ∧ Below w.heap.size w6 W),
    ⟨?_, hseq, ?_, keepOk_ks (fun k hk => by omega), ?_, ?_, ⟨⟨by simp, r3⟩, r2⟩, Below.refl _ _⟩, ?_, ?_, ?_, ?_⟩
  · exact ent_of Tryz.func162 (by kernel_rfl) rfl
  · intro vs hvs
    obtain ⟨k, _, rfl⟩ := List.mem_map.1 hvs
    exact ⟨_, _, _, _, _, _, rfl⟩
  · exact ((ownFrom_const.and ownFrom_blk).and ownFrom_blk).and (ownFrom_below (by omega) (by omega))
  · intro e s W W' row hI hg hrw
    cases e with
    | none => exact hI
    | some x =>
      obtain ⟨q, i, ⟨i1, i2⟩, i3⟩ := hI
      exact ⟨q, i, ⟨i1, ownFrom_blk (β := Unit) () W W' row i2 hg hrw⟩, ownFrom_below (β := Unit) (by omega) (by omega) () W W' row i3 hg hrw⟩
  · -- a round
    rintro pre W e e2 e3a e3n e3c e4 he ⟨⟨⟨hpass, hfd⟩, htb⟩, hB⟩
    obtain ⟨k, hk, hek⟩ := List.mem_iff_getElem.1 he
    rw [hxg k hk] at hek
    have hi : probe (hashT t) rs.length k < rs.length := probe_lt (by omega)
    generalize hI : probe (hashT t) rs.length k = i at hek hi
    have hent := hall.2 i hi (by omega)
    have hsl : slot l i = l[i]'(by omega) := slot_eq _
    rw [turnV_eq hi] at hek
    have hek' : (i : Int) = e ∧ rs[i].st = e2 ∧ (rs[i].ty.a = e3a ∧ rs[i].ty.n = e3n ∧ rs[i].ty.c = e3c) ∧ rs[i].num = e4 := by simpa using hek
    obtain ⟨rfl, rfl, ⟨rfl, rfl, rfl⟩, rfl⟩ := hek'
    have hval : ([.int .i64 (i : Int), .agg #[.int .i64 rs[i].st, .slice rs[i].ty.a rs[i].ty.n rs[i].ty.c, .int .i64 rs[i].num]] : List Value) = turnV rs i := (turnV_eq hi).symm
    rw [hval]
    rintro b4 w7 hb4 h7
    have s7 : w7.heap[b4]? = some (.cells #[.int .i64 0, .slice none 0 0, .int .i64 0] 94) := by rw [h7, hb4]; exact blk_new _
    refine ⟨blk_some s7 (by decide), blk_free s7 _, blk_some s7 (j := 1) (by decide), blk_free s7 1, blk_some s7 (j := 2) (by decide), blk_free s7 2, ?_⟩
    rintro w8 h8
    have s8 : w8.heap[b4]? = some (.cells #[.int .i64 rs[i].st, .slice rs[i].ty.a rs[i].ty.n rs[i].ty.c, .int .i64 rs[i].num] 94) := by
      rw [h8]; exact blk_set (blk_set (blk_set s7 0 _) 1 _) 2 _
    have B8 : Below W.heap.size W w8 := by
      subst h8; subst h7; subst hb4
      exact (((alloc_below W _).setCell (Nat.le_refl _) _).setCell (Nat.le_refl _) _).setCell (Nat.le_refl _) _
    have hWs : w6.heap.size ≤ W.heap.size := hB.size
    refine ⟨keepsFrom_below B8, KS.of_below B8 (fun k hk => by omega), ⟨⟨⟨hpass, blk_below hfd B8 (blk_lt hfd)⟩, blk_below htb B8 (blk_lt htb)⟩, hB.trans (B8.mono (by have := hB.size; omega))⟩, ?_⟩
    rintro pre2 w9 hnc hlen ⟨⟨⟨hpass2, hfd2⟩, htb2⟩, hB9⟩
    have s9 := hnc.blk s8
    have Bw9 : Below w.heap.size w w9 := B6.trans hB9
    refine ⟨_, blk_cell s9 0, cnd (fun hc => ?_) fun hc => ⟨_, blk_cell s9 0, cnd (fun hc2 => ?_) fun hc2 => ?_⟩⟩
    · have hst : (slot l i).st = 0 := by rw [hsl, ← hent.st]; simpa using hc
      exact ⟨KeepsFrom.refl _ _, pre2, i, ⟨⟨rfl, hi, hpass2, by simp [stops, hst]⟩, by simpa [hst] using hfd2⟩, hB9⟩
    · have hst : (slot l i).st = 1 := by rw [hsl, ← hent.st]; simpa using hc2
      refine ⟨_, _, _, blk_cell s9 1, _, _, _, blk_cell htb2 0, (k_EqIds (hent.ty.below Bw9) (ht.below Bw9)).tells fun w10 hq => ⟨_, rfl, cnd (fun hc3 => ?_) fun hc3 => ?_⟩⟩
      · have hty : (slot l i).ty = t := by rw [hsl]; simpa using hc3
        have f10 := blk_below hfd2 (hq.below _) (blk_lt hfd2)
        refine ⟨blk_some f10 (by decide), blk_free f10 _, ?_⟩
        rintro _ rfl
        exact ⟨(keepsFrom_below (hq.below _)).trans (keepsFrom_set f10 _), pre2, i, ⟨⟨rfl, hi, hpass2, by simp [stops, hst, hty]⟩, by simpa [hst] using blk_set f10 0 (.int .i64 (i : Int))⟩, (hB9.trans (hq.below _)).setCell (by show w.heap.size ≤ w2.heap.size; omega) _⟩
      · have hty : (slot l i).ty ≠ t := by rw [hsl]; simpa using hc3
        refine ⟨keepsFrom_below (hq.below _), KS.of_below (hq.below w9.heap.size) (fun k hk => by have := hB9.size; omega), ⟨⟨⟨?_, blk_below hfd2 (hq.below _) (blk_lt hfd2)⟩, blk_below htb2 (hq.below _) (blk_lt htb2)⟩, hB9.trans (hq.below _)⟩⟩
        intro v hv j hj hvj
        rcases List.mem_append.1 hv with hv | hv
        · exact hpass2 v hv j hj hvj
        · simp only [List.mem_singleton] at hv
          subst hv
          obtain rfl := turnV_inj hvj
          simp [stops, hst, hty]
    · refine ⟨KeepsFrom.refl _ _, KS.refl _ _, ⟨⟨⟨?_, hfd2⟩, htb2⟩, hB9⟩⟩
      intro v hv j hj hvj
      rcases List.mem_append.1 hv with hv | hv
      · exact hpass2 v hv j hj hvj
      · simp only [List.mem_singleton] at hv
        subst hv
        obtain rfl := turnV_inj hvj
        have g1 : (slot l i).st ≠ 0 := by rw [hsl, ← hent.st]; simpa using hc
        have g2 : (slot l i).st ≠ 1 := by rw [hsl, ← hent.st]; simpa using hc2
        simp [stops, g1, g2]
  · -- the end
    rintro D W hD ⟨⟨⟨hpass, hfd⟩, htb⟩, hB⟩ hd
    refine ⟨_, blk_cell hfd 0, hd, ?_⟩
    rintro _ rfl
    refine ⟨?_, (B6.trans hB).trans ((Below.refl _ _).grown (grownBy_putObj' _ D _) (by have := hB.size; omega) (fun k e => by cases e; omega))⟩
    have : (List.range l.length).find? (stopAt l t) = none := by
      rw [List.find?_eq_none]
      intro k hk
      have hk' : k < rs.length := by have := List.mem_range.1 hk; omega
      have := hpass (turnV rs (probe (hashT t) rs.length k)) (by rw [← hxg k (by omega)]; exact List.getElem_mem _) _ (probe_lt (by omega)) rfl
      simp [stopAt, ← el, this]
    simp [place, this]
  · intro D pre W _ _ hx; exact hx.elim
  · -- the way out
    rintro D pre W hD hpre ⟨q, i, ⟨⟨rfl, hi, hpass, hstop⟩, hfd⟩, hB⟩ hd
    refine ⟨_, blk_cell hfd 0, hd, ?_⟩
    rintro _ rfl
    refine ⟨?_, (B6.trans hB).trans ((Below.refl _ _).grown (grownBy_putObj' _ D _) (by have := hB.size; omega) (fun k e => by cases e; omega))⟩
    have hql : q.length < (turnsV rs (hashT t)).length := by have := hpre.length_le; simp at this; omega
    have hqi : probe (hashT t) rs.length q.length = i := by
      have h1 := hpre.getElem (i := q.length) (by simp)
      rw [hxg _ hql] at h1
      simp only [List.getElem_append_right (Nat.le_refl _), Nat.sub_self, List.getElem_cons_zero] at h1
      exact (turnV_inj h1).symm
    have : (List.range l.length).find? (stopAt l t) = some q.length := by
      rw [List.find?_range_eq_some]
      refine ⟨by simp only [stopAt, ← el, hqi]; exact hstop, by simp; omega, fun j hj => ?_⟩
      have hjq : q[j] = turnV rs (probe (hashT t) rs.length j) := by
        have h1 := hpre.getElem (i := j) (by simp; omega)
        rw [hxg _ (by omega), List.getElem_append_left hj] at h1
        exact h1
      have := hpass q[j] (List.getElem_mem _) _ (probe_lt (by omega)) hjq
      simp [stopAt, ← el, this]
    rw [← el] at this
    simp only [place, ← el, this, hqi]
end
end Go.Eng
namespace Go.Eng
open Go Go.RowKit Go.Proofs
set_option maxRecDepth 10000
def cnt (l : List Entry) (s : Int) : Nat := (l.filter fun e => e.st == s).length
theorem cnt_snoc (l : List Entry) (x : Entry) (s : Int) : cnt (l ++ [x]) s = cnt l s + (if x.st = s then 1 else 0) := by
  simp only [cnt, List.filter_append, List.length_append]
  by_cases h : x.st = s <;> simp [h]
theorem cnt_le (l : List Entry) (s : Int) : cnt l s ≤ l.length := List.length_filter_le _ _
def StatesAre (l : List Entry) (w : World) (v : Value) (w' : World) : Prop :=
  ∃ (c0 c1 c2 : Int) (ok : Bool), v = .tuple #[.agg #[.int .i64 c0, .int .i64 c1, .int .i64 c2], .bool ok] ∧ (ok = true ↔ ∀ e ∈ l, 0 ≤ e.st ∧ e.st ≤ 2) ∧ (ok = true → c1 = cnt l 1 ∧ c2 = cnt l 2) ∧ Below w.heap.size w w'
section
variable {w : World} {a b : Option Addr} {n c m d : Nat} {l : List Entry} {t : List Int}
theorem k_lstates (h : Ents w a n c l) (hn : n ≤ 1048576) : Cl Tryz.prog 115 #[.agg #[.slice a n c]] w (StatesAre l w) := by
  refine c115 _ _ _ ?_
  obtain ⟨rs, hrow, hall⟩ := h
  have el := hall.1
  have e1 := hrow.len
  obtain rfl : n = l.length := by omega
  rintro _ w1 rfl h1 _ w2 rfl h2 _ w3 rfl h3
  have z1 : w1.heap.size = w.heap.size + 1 := by rw [h1, size_alloc]
  have z2 : w2.heap.size = w1.heap.size + 1 := by rw [h2, size_alloc]
  have p1 : w3.heap[w.heap.size]? = some (.cells #[.slice a l.length c] 25) := by rw [h3, h2, h1]; exact blk_alloc (blk_alloc (blk_new _))
  obtain ⟨t2, p2⟩ : ∃ t, w3.heap[w1.heap.size]? = some (.cells #[.int .i64 0, .int .i64 0, .int .i64 0] t (0, 0)) := by rw [h3, h2]; exact ⟨_, blk_alloc (blk_new _)⟩
  obtain ⟨t3, p3⟩ : ∃ t, w3.heap[w2.heap.size]? = some (.cells #[.int .i64 0, .int .i64 0, .int .i64 0] t (0, 0)) := by rw [h3]; exact ⟨_, blk_new _⟩
  have B3 : Below w.heap.size w w3 := by rw [h3, h2, h1]; exact ((alloc_below w _).alloc (by rw [size_alloc]; omega) _).alloc (by rw [size_alloc, size_alloc]; omega) _
  clear h1 h2 h3
  -- the ways out
  have out : ∀ (W : World) (x y z : Int) (ok : Bool), Below w.heap.size w W → W.heap[w1.heap.size]? = some (.cells #[.int .i64 0, .int .i64 0, .int .i64 0] t2 (0, 0)) → W.heap[w2.heap.size]? = some (.cells #[.int .i64 x, .int .i64 y, .int .i64 z] t3 (0, 0)) →
      (ok = true ↔ ∀ e ∈ l, 0 ≤ e.st ∧ e.st ≤ 2) → (ok = true → y = cnt l 1 ∧ z = cnt l 2) →
      ∃ (x7 x8 x9 : Int), W.cell? (Addr.mk w2.heap.size 0 none) = some (.int .i64 x7) ∧ W.cell? ((Addr.mk w2.heap.size 0 none).add 1) = some (.int .i64 x8) ∧ W.cell? ((Addr.mk w2.heap.size 0 none).add 2) = some (.int .i64 x9) ∧ ((W.cell? (Addr.mk w1.heap.size 0 none)).isSome = true ∧ W.frozen? (Addr.mk w1.heap.size 0 none) = false ∧ ((W.cell? ((Addr.mk w1.heap.size 0 none).add 1)).isSome = true ∧ W.frozen? ((Addr.mk w1.heap.size 0 none).add 1) = false ∧ ((W.cell? ((Addr.mk w1.heap.size 0 none).add 2)).isSome = true ∧ W.frozen? ((Addr.mk w1.heap.size 0 none).add 2) = false ∧
      (∀ w6 : World, w6 = ((W.setCell (Addr.mk w1.heap.size 0 none) (.int .i64 x7)).setCell ((Addr.mk w1.heap.size 0 none).add 1) (.int .i64 x8)).setCell ((Addr.mk w1.heap.size 0 none).add 2) (.int .i64 x9) →
      (∃ (r4 r5 r6 : Int), w6.cell? (Addr.mk w1.heap.size 0 none) = some (.int .i64 r4) ∧ w6.cell? ((Addr.mk w1.heap.size 0 none).add 1) = some (.int .i64 r5) ∧ w6.cell? ((Addr.mk w1.heap.size 0 none).add 2) = some (.int .i64 r6) ∧ (StatesAre l w (.tuple #[.agg #[.int .i64 r4, .int .i64 r5, .int .i64 r6], .bool ok]) w6)))))) := by
    intro W x y z ok hB q2 q3 hok hc
    refine ⟨x, y, z, blk_cell q3 0, blk_cell q3 1, blk_cell q3 2, blk_some q2 (by decide), blk_free q2 _, blk_some q2 (j := 1) (by decide), blk_free q2 1, blk_some q2 (j := 2) (by decide), blk_free q2 2, ?_⟩
    rintro w6 h6
    have q6 : w6.heap[w1.heap.size]? = some (.cells #[.int .i64 x, .int .i64 y, .int .i64 z] t2 (0, 0)) := by rw [h6]; exact blk_set (blk_set (blk_set q2 0 _) 1 _) 2 _
    have B6 : Below w.heap.size w w6 := by
      rw [h6]; exact ((hB.setCell (by show w.heap.size ≤ w1.heap.size; omega) _).setCell (by show w.heap.size ≤ w1.heap.size; omega) _).setCell (by show w.heap.size ≤ w1.heap.size; omega) _
    exact ⟨x, y, z, blk_cell q6 0, blk_cell q6 1, blk_cell q6 2, x, y, z, ok, rfl, hok, hc, B6⟩
  refine ⟨_, _, _, blk_cell p1 0, fun _ i W => Below w.heap.size w W ∧ W.heap[w.heap.size]? = some (.cells #[.slice a l.length c] 25) ∧ W.heap[w1.heap.size]? = some (.cells #[.int .i64 0, .int .i64 0, .int .i64 0] t2 (0, 0)) ∧
      ∃ k : Nat, i = k ∧ k ≤ l.length ∧ (∀ e ∈ l.take k, 0 ≤ e.st ∧ e.st ≤ 2) ∧ W.heap[w2.heap.size]? = some (.cells #[.int .i64 (cnt (l.take k) 0 : Nat), .int .i64 (cnt (l.take k) 1 : Nat), .int .i64 (cnt (l.take k) 2 : Nat)] t3 (0, 0)),
    fun _ i _ => l.length - i.toNat, ⟨B3, p1, p2, 0, rfl, by omega, by simp, p3⟩, ?_⟩
  rintro _ W _ _ ⟨hB, q1, q2, k, rfl, hk, hst, q3⟩
  refine cnd (fun hc => ?_) fun hc => ?_
  · have hkn : k < l.length := by simpa using hc
    refine ⟨_, _, _, blk_cell q1 0, (hrow.below hB).entSt (by omega) fun hl => ?_⟩
    have hent := hall.2 k hl hkn
    have hmem : l[k] ∈ l := List.getElem_mem hkn
    rw [hent.st]
    refine cnd (fun hc => ?_) fun hc => cnd (fun hc2 => ?_) fun hc2 => ?_
    · have : l[k].st < 0 := by simpa using hc
      exact out W _ _ _ false hB q2 q3 ⟨fun h => (by cases h), fun h => by have := (h _ hmem).1; omega⟩ (fun h => by cases h)
    · have : 2 < l[k].st := by simpa using hc2
      exact out W _ _ _ false hB q2 q3 ⟨fun h => (by cases h), fun h => by have := (h _ hmem).2; omega⟩ (fun h => by cases h)
    · have g1 : ¬ l[k].st < 0 := by simpa using hc
      have g2 : ¬ 2 < l[k].st := by simpa using hc2
      have hc0 := cnt_le (l.take k) 0; have hc1 := cnt_le (l.take k) 1; have hc2' := cnt_le (l.take k) 2
      have hlt : (l.take k).length ≤ 1048576 := by simp; omega
      have hnew : ∀ e ∈ l.take (k + 1), 0 ≤ e.st ∧ e.st ≤ 2 := by
        intro e he
        rw [take_one hkn] at he
        rcases List.mem_append.1 he with he | he
        · exact hst e he
        · simp only [List.mem_singleton] at he; subst he; omega
      have s0 := cnt_snoc (l.take k) l[k] 0; have s1 := cnt_snoc (l.take k) l[k] 1; have s2 := cnt_snoc (l.take k) l[k] 2
      rw [← take_one hkn] at s0 s1 s2
      have h3 : l[k].st = 0 ∨ l[k].st = 1 ∨ l[k].st = 2 := by omega
      have step : ∀ (j : Nat), j < 3 → ∀ (v : Value), Below w.heap.size w (W.setCell ⟨w2.heap.size, j, none⟩ v) ∧ (W.setCell ⟨w2.heap.size, j, none⟩ v).heap[w.heap.size]? = some (.cells #[.slice a l.length c] 25) ∧ (W.setCell ⟨w2.heap.size, j, none⟩ v).heap[w1.heap.size]? = some (.cells #[.int .i64 0, .int .i64 0, .int .i64 0] t2 (0, 0)) :=
        fun j hj v => ⟨hB.setCell (by show w.heap.size ≤ w2.heap.size; omega) v, blk_far q1 (by show w.heap.size ≠ w2.heap.size; omega) v, blk_far q2 (by show w1.heap.size ≠ w2.heap.size; omega) v⟩
      rcases h3 with h3 | h3 | h3
      · rw [h3] at s0 s1 s2 ⊢
        refine ⟨by decide, by decide, _, blk_cell q3 0, by decide, by decide, blk_some q3 (j := 0) (by simp), blk_free q3 0, ?_⟩
        rintro _ rfl
        rw [nx (by omega), nx (by omega)]
        obtain ⟨t1, t2', t3'⟩ := step 0 (by decide) (.int .i64 ((cnt (l.take k) 0 + 1 : Nat) : Int))
        refine ⟨⟨t1, t2', t3', k + 1, rfl, by omega, hnew, ?_⟩, dec hkn⟩
        rw [s0, s1, s2]
        exact blk_set q3 0 _
      · rw [h3] at s0 s1 s2 ⊢
        refine ⟨by decide, by decide, _, blk_cell q3 1, by decide, by decide, blk_some q3 (j := 1) (by simp), blk_free q3 1, ?_⟩
        rintro _ rfl
        rw [nx (by omega), nx (by omega)]
        obtain ⟨t1, t2', t3'⟩ := step 1 (by decide) (.int .i64 ((cnt (l.take k) 1 + 1 : Nat) : Int))
        refine ⟨⟨t1, t2', t3', k + 1, rfl, by omega, hnew, ?_⟩, dec hkn⟩
        rw [s0, s1, s2]
        exact blk_set q3 1 _
      · rw [h3] at s0 s1 s2 ⊢
        refine ⟨by decide, by decide, _, blk_cell q3 2, by decide, by decide, blk_some q3 (j := 2) (by simp), blk_free q3 2, ?_⟩
        rintro _ rfl
        rw [nx (by omega), nx (by omega)]
        obtain ⟨t1, t2', t3'⟩ := step 2 (by decide) (.int .i64 ((cnt (l.take k) 2 + 1 : Nat) : Int))
        refine ⟨⟨t1, t2', t3', k + 1, rfl, by omega, hnew, ?_⟩, dec hkn⟩
        rw [s0, s1, s2]
        exact blk_set q3 2 _
  · have hkn : ¬ k < l.length := by simpa using hc
    rw [take_all (by omega)] at hst q3
    exact out W _ _ _ true hB q2 q3 ⟨fun _ => hst, fun _ => rfl⟩ (fun _ => ⟨rfl, rfl⟩)
end
end Go.Eng
