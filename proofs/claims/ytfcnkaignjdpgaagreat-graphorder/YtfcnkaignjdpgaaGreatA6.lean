/- Part 6 of the proof of GraphOrderSaid. What is proved: what a call of each function leaves. Conditions: those that each theorem names. -/
import Derived.Test.YtfcnkaignjdpgaaGreatA5
set_option linter.unusedVariables false
set_option linter.unusedSimpArgs false
set_option linter.unusedSectionVars false
namespace Go.Eng
open Go Go.Proofs
set_option exponentiation.threshold 300
theorem hi_nat {n : Nat} (h : n < 2 ^ 64) : hi1 (n : Int) = ((n / 2 ^ 32 % 2 ^ 30 : Nat) : Int) ∧ hi2 (n : Int) = ((n / 2 ^ 32 % 2 ^ 30 : Nat) : Int) := by
  have h1 : n / 2 ^ 32 < 2 ^ 64 := Nat.lt_of_le_of_lt (Nat.div_le_self _ _) h
  have h2 : n / 2 ^ 32 % 2 ^ 30 < 2 ^ 30 := Nat.mod_lt _ (by decide)
  constructor
  · unfold hi1
    rw [show Int.tdiv (n : Int) 4294967296 = ((n / 2 ^ 32 : Nat) : Int) from rfl, u64_wrap, Nat.mod_eq_of_lt h1, show Int.tmod ((n / 2 ^ 32 : Nat) : Int) 1073741824 = ((n / 2 ^ 32 % 2 ^ 30 : Nat) : Int) from rfl, wrap64 (by omega) (by omega)]
  · unfold hi2
    rw [show (32 : Int) = ((32 : Nat) : Int) from rfl, bshr_nat (by decide), show (1073741823 : Int) = ((2 ^ 30 - 1 : Nat) : Int) by decide, band_nat h1 (by decide), Nat.and_two_pow_sub_one_eq_mod, wrap64 (by omega) (by omega)]
theorem lo_nat {n : Nat} (h : n < 2 ^ 64) : lo1 (n : Int) = ((n % 2 ^ 30 : Nat) : Int) ∧ lo2 (n : Int) = ((n % 2 ^ 30 : Nat) : Int) := by
  have h2 : n % 2 ^ 30 < 2 ^ 30 := Nat.mod_lt _ (by decide)
  constructor
  · unfold lo1
    rw [show Int.tmod (n : Int) 1073741824 = ((n % 2 ^ 30 : Nat) : Int) from rfl, wrap64 (by omega) (by omega)]
  · unfold lo2
    rw [show (1073741823 : Int) = ((2 ^ 30 - 1 : Nat) : Int) by decide, band_nat h (by decide), Nat.and_two_pow_sub_one_eq_mod, wrap64 (by omega) (by omega)]
theorem made_nat {m a b : Nat} (hm : m = 0 ∨ m = 2 ^ 62 ∨ m = 2 ^ 63) (ha : a < 2 ^ 30) (hb : b < 2 ^ 30) : made1 (m : Int) (a : Int) (b : Int) = ((m + a * 2 ^ 32 + b : Nat) : Int) ∧ packed2 (m : Int) (a : Int) (b : Int) = ((m + a * 2 ^ 32 + b : Nat) : Int) := by
  have h1 : a * 2 ^ 32 < 2 ^ 62 := by omega
  have h2 : m + a * 2 ^ 32 + b < 2 ^ 64 := by omega
  constructor
  · unfold made1
    rw [u64_wrap, Nat.mod_eq_of_lt (by omega), show ((a : Nat) : Int) * 4294967296 = ((a * 2 ^ 32 : Nat) : Int) by omega, u64_wrap, Nat.mod_eq_of_lt (by omega), ← Int.natCast_add, u64_wrap, Nat.mod_eq_of_lt (by omega), u64_wrap, Nat.mod_eq_of_lt (by omega), ← Int.natCast_add, u64_wrap, Nat.mod_eq_of_lt h2]
  · have e1 : m ||| (a * 2 ^ 32) = m + a * 2 ^ 32 := by
      rcases hm with rfl | rfl | rfl
      · simp
      · have := Nat.two_pow_add_eq_or_of_lt (i := 62) (b := a * 2 ^ 32) h1 1
        simpa using this.symm
      · have := Nat.two_pow_add_eq_or_of_lt (i := 63) (b := a * 2 ^ 32) (by omega) 1
        simpa using this.symm
    have e2 : (m + a * 2 ^ 32) ||| b = m + a * 2 ^ 32 + b := by
      have e3 : m + a * 2 ^ 32 = 2 ^ 32 * (m / 2 ^ 32 + a) := by
        rcases hm with rfl | rfl | rfl <;> omega
      have := Nat.two_pow_add_eq_or_of_lt (i := 32) (b := b) (by omega) (m / 2 ^ 32 + a)
      rw [← e3] at this; exact this.symm
    unfold packed2
    rw [u64_wrap, Nat.mod_eq_of_lt (by omega), show (32 : Int) = ((32 : Nat) : Int) from rfl, bshl_nat (by decide), Nat.mod_eq_of_lt (by omega), bor_nat (by omega) (by omega), e1, u64_wrap, Nat.mod_eq_of_lt (by omega), bor_nat (by omega) (by omega), e2]
theorem kind_alike {id : Int} (h : 0 ≤ id ∧ id < 18446744073709551616) : kind1 id = kind2 id := by
  obtain ⟨n, rfl⟩ : ∃ n : Nat, id = n := ⟨id.toNat, by omega⟩
  have hn : n < 2 ^ 64 := by omega
  obtain ⟨a1, a2⟩ := hi_nat hn
  obtain ⟨b1, b2⟩ := lo_nat hn
  have ha : n / 2 ^ 32 % 2 ^ 30 < 2 ^ 30 := Nat.mod_lt _ (by decide)
  have hb : n % 2 ^ 30 < 2 ^ 30 := Nat.mod_lt _ (by decide)
  have m0 := made_nat (m := 0) (.inl rfl) ha hb
  have m0' := made_nat (m := 2 ^ 62) (a := 0) (.inr (.inl rfl)) (by decide) hb
  have m3 := made_nat (m := 2 ^ 63) (.inr (.inr rfl)) ha hb
  have c0 : made1 0 (hi1 n) (lo1 n) = packed2 0 (hi1 n) (lo1 n) := by rw [a1, b1]; exact m0.1.trans m0.2.symm
  have c1 : made1 4611686018427387904 0 (lo1 n) = packed2 4611686018427387904 0 (lo1 n) := by rw [b1]; exact m0'.1.trans m0'.2.symm
  have c2 : made1 9223372036854775808 (hi1 n) (lo1 n) = packed2 9223372036854775808 (hi1 n) (lo1 n) := by rw [a1, b1]; exact m3.1.trans m3.2.symm
  have d1 : hi2 (n : Int) = hi1 n := by rw [a1, a2]
  have d2 : lo2 (n : Int) = lo1 n := by rw [b1, b2]
  unfold kind1 kind2 ent2 com2 pai2 pat2
  rw [d1, d2, c0, c1, c2]
  simp only [Bool.and_eq_true]
theorem may_alike {id : Int} (h : 0 ≤ id ∧ id < 18446744073709551616) : may2 id = may3 id := by unfold may2 may3; rw [kind_alike h]
theorem up_alike : ∀ {l : List Int}, Rng l → up2 l = up3 l
  | [], _ => rfl
  | [x], h => by simp only [up2, up3]; exact may_alike (h x (by simp))
  | x :: y :: l, h => by
    have := up_alike (l := y :: l) fun z hz => h z (List.mem_cons_of_mem _ hz)
    simp only [up2, up3] at this ⊢
    rw [may_alike (h x (by simp)), this]
theorem right_alike {l : List Int} (h : Rng l) : right2 l = right3 l := by unfold right2 right3; rw [up_alike h, Bool.and_comm]
theorem at2_split {l : List Int} (h : l.Pairwise (· < ·)) (x : Int) : l.take (at2 l x) = l.filter (fun y => decide (y < x)) ∧ l.drop (at2 l x) = l.filter (fun y => decide (x ≤ y)) := by
  induction l with
  | nil => simp [at2]
  | cons y l ih =>
    obtain ⟨h1, h2⟩ := List.pairwise_cons.1 h
    obtain ⟨i1, i2⟩ := ih h2
    by_cases hy : y < x
    · have e : at2 (y :: l) x = at2 l x + 1 := by simp [at2, hy]
      have hn : ¬ x ≤ y := by omega
      rw [e]
      simp only [List.take_succ_cons, List.drop_succ_cons, List.filter_cons, hy, hn, decide_true, decide_false, if_true, Bool.false_eq_true, if_false, i1, i2, and_self]
    · have e : at2 (y :: l) x = 0 := by simp [at2, hy]
      have hle : x ≤ y := by omega
      rw [e]
      have f1 : l.filter (fun z => decide (z < x)) = [] := by
        rw [List.filter_eq_nil_iff]; intro z hz; have := h1 z hz; simp; omega
      have f2 : l.filter (fun z => decide (x ≤ z)) = l := by
        rw [List.filter_eq_self]; intro z hz; have := h1 z hz; simp; omega
      simp only [List.take_zero, List.drop_zero, List.filter_cons, hy, hle, decide_true, decide_false, if_true, Bool.false_eq_true, if_false, f1, f2, and_self]
theorem filter_ge {l : List Int} (h : l.Pairwise (· < ·)) (x : Int) : l.filter (fun y => decide (x ≤ y)) = if x ∈ l then x :: l.filter (fun y => decide (x < y)) else l.filter (fun y => decide (x < y)) := by
  induction l with
  | nil => simp
  | cons y l ih =>
    obtain ⟨h1, h2⟩ := List.pairwise_cons.1 h
    have := ih h2
    by_cases hxy : x = y
    · subst hxy
      have hno : x ∉ l := fun hm => by have := h1 x hm; omega
      rw [if_neg hno] at this
      simp only [List.filter_cons, Int.le_refl, decide_true, if_true, Int.lt_irrefl, decide_false, Bool.false_eq_true, if_false, this, List.mem_cons, true_or]
    · have hm : (x ∈ y :: l) ↔ x ∈ l := by simp [hxy]
      by_cases hlt : x < y
      · have hle : x ≤ y := by omega
        have hno : x ∉ l := fun hm => by have := h1 x hm; omega
        rw [if_neg hno] at this
        simp only [hm, hno, if_false, List.filter_cons, hle, hlt, decide_true, if_true, this]
      · have hle : ¬ x ≤ y := by omega
        simp only [hm, List.filter_cons, hle, hlt, decide_false, Bool.false_eq_true, if_false, this]
theorem with_alike {l : List Int} (h : l.Pairwise (· < ·)) (x : Int) : with2 l x = with3 l x := by
  obtain ⟨h1, h2⟩ := at2_split h x
  have h3 := filter_ge h x
  unfold with2 with3
  by_cases hx : x ∈ l
  · rw [if_pos hx] at h3 ⊢
    rw [← h3, ← h1, ← h2, List.take_append_drop]
  · rw [if_neg hx] at h3 ⊢
    rw [h1, h2, h3]
theorem without_alike {l : List Int} (h : l.Pairwise (· < ·)) {x : Int} (hx : x ∈ l) : without2 l x = without3 l x := by
  obtain ⟨h1, h2⟩ := at2_split h x
  have h3 := filter_ge h x
  rw [if_pos hx] at h3
  have h4 : l.drop (at2 l x + 1) = l.filter (fun y => decide (x < y)) := by
    have : l.drop (at2 l x + 1) = (l.drop (at2 l x)).drop 1 := by rw [List.drop_drop]
    rw [this, h2, h3]; rfl
  have h5 : without3 l x = l.filter (fun y => decide (y < x)) ++ l.filter (fun y => decide (x < y)) := by
    conv => lhs; rw [without3, ← List.take_append_drop (at2 l x) l, h1, h2, h3, List.filter_append, List.filter_cons]
    have e1 : (l.filter (fun y => decide (y < x))).filter (fun y => y != x) = l.filter (fun y => decide (y < x)) := by
      rw [List.filter_eq_self]; intro z hz; have := (List.mem_filter.1 hz).2; simp at this ⊢; omega
    have e2 : (l.filter (fun y => decide (x < y))).filter (fun y => y != x) = l.filter (fun y => decide (x < y)) := by
      rw [List.filter_eq_self]; intro z hz; have := (List.mem_filter.1 hz).2; simp at this ⊢; omega
    rw [e1, e2]; simp
  rw [h5, without2, h1, h4]
theorem up2_may {l : List Int} (h : up2 l = true) : ∀ x ∈ l, may2 x = true := by
  induction l with
  | nil => simp
  | cons x l ih =>
    cases l with
    | nil => simpa [up2] using h
    | cons y l =>
      simp only [up2, Bool.and_eq_true] at h
      intro z hz
      rcases List.mem_cons.1 hz with rfl | hz
      · exact h.1.1
      · exact ih h.2 z hz
theorem up2_of {l : List Int} (h : l.Pairwise (· < ·)) (hm : ∀ x ∈ l, may2 x = true) : up2 l = true := by
  induction l with
  | nil => rfl
  | cons x l ih =>
    obtain ⟨h1, h2⟩ := List.pairwise_cons.1 h
    have := ih h2 fun z hz => hm z (List.mem_cons_of_mem _ hz)
    cases l with
    | nil => simpa [up2] using hm x (by simp)
    | cons y l =>
      simp only [up2, Bool.and_eq_true, decide_eq_true_eq]
      exact ⟨⟨hm x (by simp), h1 y (by simp)⟩, this⟩
theorem right2_iff {l : List Int} : right2 l = true ↔ l.Pairwise (· < ·) ∧ (∀ x ∈ l, may2 x = true) ∧ l.length ≤ 12 := by
  constructor
  · intro h
    have h' := h
    simp only [right2, Bool.and_eq_true, decide_eq_true_eq] at h'
    exact ⟨(right2_sorted h).1, up2_may h'.2, h'.1⟩
  · rintro ⟨h1, h2, h3⟩
    simp only [right2, Bool.and_eq_true, decide_eq_true_eq]
    exact ⟨h3, up2_of h1 h2⟩
theorem with3_mem {l : List Int} {x y : Int} : y ∈ with3 l x ↔ y = x ∨ (y ∈ l ∧ y ≠ x) := by
  simp only [with3, List.mem_append, List.mem_cons, List.mem_filter, decide_eq_true_eq]
  constructor
  · rintro (⟨h1, h2⟩ | rfl | ⟨h1, h2⟩)
    · exact .inr ⟨h1, by omega⟩
    · exact .inl rfl
    · exact .inr ⟨h1, by omega⟩
  · rintro (rfl | ⟨h1, h2⟩)
    · exact .inr (.inl rfl)
    · rcases Int.lt_or_gt_of_ne h2 with h | h
      · exact .inl ⟨h1, h⟩
      · exact .inr (.inr ⟨h1, h⟩)
theorem with3_sorted {l : List Int} (h : l.Pairwise (· < ·)) (x : Int) : (with3 l x).Pairwise (· < ·) := by
  unfold with3
  rw [List.pairwise_append]
  refine ⟨h.filter _, List.pairwise_cons.2 ⟨fun y hy => by have := (List.mem_filter.1 hy).2; simpa using this, h.filter _⟩, ?_⟩
  intro y hy z hz
  have h1 : y < x := by have := (List.mem_filter.1 hy).2; simpa using this
  rcases List.mem_cons.1 hz with rfl | hz
  · exact h1
  · have h2 : x < z := by have := (List.mem_filter.1 hz).2; simpa using this
    omega
theorem without3_mem {l : List Int} {x y : Int} : y ∈ without3 l x ↔ y ∈ l ∧ y ≠ x := by simp [without3]
theorem without3_sorted {l : List Int} (h : l.Pairwise (· < ·)) (x : Int) : (without3 l x).Pairwise (· < ·) := h.filter _
theorem with3_len {l : List Int} (h : l.Pairwise (· < ·)) (x : Int) : (with3 l x).length = if x ∈ l then l.length else l.length + 1 := by
  rw [← with_alike h x, with2]
  split
  · rfl
  · have := at2_le l x; simp; omega
/-- Strictly in order, the same elements: the same row. -/
theorem sorted_ext {l l' : List Int} (h : l.Pairwise (· < ·)) (h' : l'.Pairwise (· < ·)) (he : ∀ x, x ∈ l ↔ x ∈ l') : l = l' := by
  refine List.Perm.eq_of_pairwise (le := (· < ·)) (fun a b _ _ h1 h2 => by omega) h h' ?_
  have n1 : l.Nodup := h.imp fun hab => by omega
  have n2 : l'.Nodup := h'.imp fun hab => by omega
  exact pigeon_perm n2 (fun x hx => (he x).2 hx) (pigeon n1 fun x hx => (he x).1 hx)
theorem without_with {l : List Int} (h : l.Pairwise (· < ·)) {x : Int} (hx : x ∉ l) : without3 (with3 l x) x = l := by
  refine sorted_ext (without3_sorted (with3_sorted h x) x) h fun y => ?_
  rw [without3_mem, with3_mem]
  constructor
  · rintro ⟨rfl | h1, h2⟩
    · exact absurd rfl h2
    · exact h1.1
  · intro hy; exact ⟨.inr ⟨hy, by rintro rfl; exact hx hy⟩, by rintro rfl; exact hx hy⟩
theorem with_without {l : List Int} (h : l.Pairwise (· < ·)) {x : Int} (hx : x ∈ l) : with3 (without3 l x) x = l := by
  refine sorted_ext (with3_sorted (without3_sorted h x) x) h fun y => ?_
  rw [with3_mem, without3_mem]
  constructor
  · rintro (rfl | h1)
    · exact hx
    · exact h1.1.1
  · intro hy
    by_cases hyx : y = x
    · exact .inl hyx
    · exact .inr ⟨⟨hy, hyx⟩, hyx⟩
end Go.Eng
namespace Go.Eng
open Go Go.Proofs
set_option exponentiation.threshold 300
theorem and_pred_half {m : Nat} (hm : 0 < m) : (2 * m) &&& (2 * m - 1) = 2 * (m &&& (m - 1)) := by
  have h1 : ((2 * m) &&& (2 * m - 1)) / 2 = m &&& (m - 1) := by
    have := Nat.and_div_two_pow (a := 2 * m) (b := 2 * m - 1) (n := 1)
    rw [show 2 * m / 2 ^ 1 = m by omega, show (2 * m - 1) / 2 ^ 1 = m - 1 by omega] at this
    exact this
  have h2 : ((2 * m) &&& (2 * m - 1)) % 2 = 0 := by
    have := Nat.and_mod_two_pow (a := 2 * m) (b := 2 * m - 1) (n := 1)
    rw [show 2 * m % 2 ^ 1 = 0 by omega, Nat.zero_and] at this
    exact this
  omega
theorem and_pred_odd (m : Nat) : (2 * m + 1) &&& (2 * m) = 2 * m := by
  have h1 : ((2 * m + 1) &&& (2 * m)) / 2 = m := by
    have := Nat.and_div_two_pow (a := 2 * m + 1) (b := 2 * m) (n := 1)
    rw [show (2 * m + 1) / 2 ^ 1 = m by omega, show (2 * m) / 2 ^ 1 = m by omega, Nat.and_self] at this
    exact this
  have h2 : ((2 * m + 1) &&& (2 * m)) % 2 = 0 := by
    have := Nat.and_mod_two_pow (a := 2 * m + 1) (b := 2 * m) (n := 1)
    rw [show 2 * m % 2 ^ 1 = 0 by omega, Nat.and_zero] at this
    exact this
  omega
theorem and_pred_zero : ∀ {n : Nat}, 0 < n → (n &&& (n - 1) = 0 ↔ ∃ j, n = 2 ^ j) := by
  intro n
  induction n using Nat.strongRecOn with
  | _ n ih =>
    intro h0
    rcases Nat.mod_two_eq_zero_or_one n with he | ho
    · obtain ⟨m, rfl⟩ : ∃ m, n = 2 * m := ⟨n / 2, by omega⟩
      have hm : 0 < m := by omega
      rw [and_pred_half hm]
      have := ih m (by omega) hm
      constructor
      · intro h
        obtain ⟨j, hj⟩ := this.1 (by omega)
        exact ⟨j + 1, by rw [Nat.pow_succ]; omega⟩
      · rintro ⟨j, hj⟩
        cases j with
        | zero => simp at hj; omega
        | succ j =>
          rw [Nat.pow_succ] at hj
          have := this.2 ⟨j, by omega⟩
          omega
    · obtain ⟨m, rfl⟩ : ∃ m, n = 2 * m + 1 := ⟨n / 2, by omega⟩
      rw [Nat.add_sub_cancel, and_pred_odd]
      constructor
      · intro h; exact ⟨0, by omega⟩
      · rintro ⟨j, hj⟩
        cases j with
        | zero => simp at hj; omega
        | succ j => rw [Nat.pow_succ] at hj; omega
theorem band_nat64 {a b : Nat} (ha : a < 2 ^ 63) (hb : b < 2 ^ 63) : band .i64 (a : Int) (b : Int) = ((a &&& b : Nat) : Int) := by
  have hx : a &&& b < 2 ^ 63 := Nat.and_lt_two_pow a hb
  have h1 : (BitVec.ofInt IntKind.i64.bits (a : Int) &&& BitVec.ofInt IntKind.i64.bits (b : Int)).toNat = a &&& b := by
    show (BitVec.ofInt 64 (a : Int) &&& BitVec.ofInt 64 (b : Int)).toNat = a &&& b
    rw [bv_nat, bv_nat, BitVec.toNat_and, BitVec.toNat_ofNat, BitVec.toNat_ofNat, Nat.mod_eq_of_lt (by omega), Nat.mod_eq_of_lt (by omega)]
  show IntKind.i64.wrap (_ : Int) = _
  rw [h1, wrap64 (by omega) (by omega)]
theorem pow8_iff {n : Nat} (hn : n < 2 ^ 62) : Pow8 n ↔ 8 ≤ n ∧ pow2 n = true := by
  have key : 8 ≤ n → (pow2 n = true ↔ ∃ j, n = 2 ^ j) := by
    intro h8
    unfold pow2
    rw [show (n : Int) - 1 = ((n - 1 : Nat) : Int) by omega, band_nat64 (by omega) (by omega), beq_iff_eq, ← and_pred_zero (by omega)]
    omega
  constructor
  · rintro ⟨j, hj⟩
    have hp : 0 < 2 ^ j := Nat.pow_pos (by decide)
    refine ⟨by omega, (key (by omega)).2 ⟨j + 3, by rw [hj, Nat.pow_add]; omega⟩⟩
  · rintro ⟨h8, hp⟩
    obtain ⟨j, hj⟩ := (key h8).1 hp
    have h3 : 3 ≤ j := by
      rcases Nat.lt_or_ge j 3 with h | h
      · have := Nat.pow_lt_pow_right (a := 2) (by decide) h; omega
      · exact h
    exact ⟨j - 3, by rw [hj, show (8 : Nat) = 2 ^ 3 by rfl, ← Nat.pow_add]; congr 1; omega⟩
theorem taken_eq : ∀ {l : List Entry}, (∀ e ∈ l, 0 ≤ e.st ∧ e.st ≤ 2) → taken l = takenN l := by
  intro l
  induction l with
  | nil => intro _; rfl
  | cons x l ih =>
    intro h
    have := ih fun e he => h e (List.mem_cons_of_mem _ he)
    have hx := h x (by simp)
    unfold taken cnt takenN at this ⊢
    have : x.st = 0 ∨ x.st = 1 ∨ x.st = 2 := by omega
    rcases this with h1 | h1 | h1 <;> simp [h1] <;> omega
/-- Used slots of the same type are one. -/
def Uniq (l : List Entry) : Prop := ∀ i j, i < l.length → j < l.length → (slot l i).st = 1 → (slot l j).st = 1 → (slot l i).ty = (slot l j).ty → i = j
theorem find_range_some {n u : Nat} {p : Nat → Bool} : (List.range n).find? p = some u ↔ p u = true ∧ u < n ∧ ∀ v, v < u → p v = false := by
  rw [List.find?_range_eq_some, List.mem_range]; simp
theorem find_range_none {n : Nat} {p : Nat → Bool} : (List.range n).find? p = none ↔ ∀ v, v < n → p v = false := by
  rw [List.find?_range_eq_none]; simp
theorem place_iff {l : List Entry} {t : List Int} {k : Nat} : place l t = (k : Int) ↔ ∃ u, u < l.length ∧ probe (hashT t) l.length u = k ∧ (∀ v, v < u → stopAt l t v = false) ∧ (slot l k).st = 1 ∧ (slot l k).ty = t := by
  unfold place
  constructor
  · intro h
    split at h
    · omega
    · rename_i u hu
      obtain ⟨h1, h2, h3⟩ := find_range_some.1 hu
      split at h
      · rename_i hst
        have hk : probe (hashT t) l.length u = k := by omega
        simp only [stopAt, stops, hst] at h1
        rw [hk] at hst h1
        exact ⟨u, h2, hk, h3, hst, by simpa using h1⟩
      · omega
  · rintro ⟨u, h1, h2, h3, h4, h5⟩
    have : (List.range l.length).find? (stopAt l t) = some u := find_range_some.2 ⟨by simp [stopAt, stops, h2, h4, h5], h1, h3⟩
    rw [this]; simp only [h2, h4, if_true]
theorem found_place {l : List Entry} {t : List Int} {k : Nat} (hu : Uniq l) (hk : k < l.length) : FoundP l t (k : Int) ↔ place l t = (k : Int) := by
  rw [place_iff]
  constructor
  · rintro ⟨u, h1, h2, h3, h4, h5⟩
    have h2' : probe (hashT t) l.length u = k := by omega
    refine ⟨u, h1, h2', fun v hv => ?_, by rw [← h2']; exact h4, by rw [← h2']; exact h5⟩
    obtain ⟨a1, a2⟩ := h3 v hv
    cases hs : stopAt l t v with
    | false => rfl
    | true =>
      exfalso
      simp only [stopAt, stops, Bool.or_eq_true, beq_iff_eq, Bool.and_eq_true] at hs
      rcases hs with hs | ⟨s1, s2⟩
      · exact a2 hs
      · exact a1 (by have := hu _ k (probe_lt (by omega)) hk s1 (by rw [← h2']; exact h4) (by rw [s2, ← h2', h5]); omega)
  · rintro ⟨u, h1, h2, h3, h4, h5⟩
    refine ⟨u, h1, by omega, fun v hv => ?_, by rw [h2]; exact h4, by rw [h2]; exact h5⟩
    have := h3 v hv
    simp only [stopAt, stops, Bool.or_eq_false_iff, Bool.and_eq_false_iff, beq_eq_false_iff_ne, ne_eq] at this
    refine ⟨fun he => ?_, this.1⟩
    have he' : probe (hashT t) l.length v = k := by omega
    rw [he'] at this
    rcases this.2 with h | h
    · exact h h4
    · exact h h5
/-- The code and the document agree on which lookups may be. -/
theorem right7_iff {l : List Entry} (hr : ∀ e ∈ l, e.st = 1 → Rng e.ty) (hn : l.length < 2 ^ 62) : Right7 l ↔ checkL l = true := by
  constructor
  · rintro ⟨h1, h2, h3, h4⟩
    have hst : ∀ e ∈ l, 0 ≤ e.st ∧ e.st ≤ 2 := by
      intro e he
      obtain ⟨i, hi, rfl⟩ := List.mem_iff_getElem.1 he
      have := h2 i hi
      rw [Ent7, slot_eq hi] at this
      rcases this with ⟨h | h, _⟩ | ⟨h, _⟩ <;> omega
    have hu : Uniq l := by
      intro i j hi hj si sj ht
      have gi := h2 i hi; have gj := h2 j hj
      rcases Nat.lt_trichotomy i j with hlt | he | hlt
      · rcases gj with ⟨h | h, _⟩ | ⟨_, _, _, _, h⟩
        · omega
        · omega
        · exact absurd ht.symm (h i hlt si)
      · exact he
      · rcases gi with ⟨h | h, _⟩ | ⟨_, _, _, _, h⟩
        · omega
        · omega
        · exact absurd ht (h j hlt sj)
    have ⟨p1, p2⟩ := (pow8_iff hn).1 h1
    simp only [checkL, preL, Bool.and_eq_true, List.all_eq_true, decide_eq_true_eq, List.mem_range]
    rw [taken_eq hst]
    refine ⟨⟨⟨⟨⟨hst, p1⟩, p2⟩, h3⟩, h4⟩, fun i hi => ?_⟩
    unfold slotOk
    rcases h2 i hi with ⟨h, ht, hm⟩ | ⟨s, hr3, hm, hf, _⟩
    · have : ¬ (slot l i).st = 1 := by rcases h with h | h <;> omega
      rw [if_neg this, ht, hm]; simp
    · have hrng : Rng (slot l i).ty := by rw [slot_eq hi] at s ⊢; exact hr _ (List.getElem_mem hi) s
      rw [if_pos s, right_alike hrng, hr3, (found_place hu hi).1 hf]; simp [hm]
  · intro h
    obtain ⟨hp, hs⟩ := checkL_ok h
    simp only [preL, Bool.and_eq_true, List.all_eq_true, decide_eq_true_eq] at hp
    obtain ⟨⟨⟨⟨hst, p1⟩, p2⟩, h3⟩, h4⟩ := hp
    rw [taken_eq hst] at h3 h4
    have hu : Uniq l := by
      intro i j hi hj si sj ht
      rw [slot_eq hi] at si ht
      rw [slot_eq hj] at sj ht
      have e1 := (checkL_used h hi si).2.2
      have e2 := (checkL_used h hj sj).2.2
      rw [ht, e2] at e1; omega
    refine ⟨(pow8_iff hn).2 ⟨p1, p2⟩, fun i hi => ?_, h3, h4⟩
    have hi' := hs i hi
    by_cases s : (slot l i).st = 1
    · right
      have s' := s
      rw [slot_eq hi] at s'
      obtain ⟨a1, a2, a3⟩ := checkL_used h hi s'
      have hrng : Rng l[i].ty := hr _ (List.getElem_mem hi) s'
      rw [slot_eq hi]
      refine ⟨s', by rw [← right_alike hrng]; exact a1, a2, (found_place hu hi).2 a3, fun j hj sj he => ?_⟩
      have := hu i j hi (by omega) s sj (by rw [slot_eq hi]; exact he)
      omega
    · left
      rw [slotOk, if_neg s] at hi'
      simp only [Bool.and_eq_true, decide_eq_true_eq, beq_iff_eq] at hi'
      have := hst _ (List.getElem_mem hi)
      rw [slot_eq hi] at s hi' ⊢
      exact ⟨by omega, List.eq_nil_of_length_eq_zero hi'.1, hi'.2⟩
theorem checkL_uniq {l : List Entry} (h : checkL l = true) : Uniq l := by
  intro i j hi hj si sj ht
  rw [slot_eq hi] at si ht
  rw [slot_eq hj] at sj ht
  have e1 := (checkL_used h hi si).2.2
  have e2 := (checkL_used h hj sj).2.2
  rw [ht, e2] at e1; omega
end Go.Eng
namespace Go.Eng
open Go Go.Proofs
set_option exponentiation.threshold 300
theorem probe_all {h many i : Nat} (hi : i < many) : ∃ u, u < many ∧ probe h many u = i := by
  have hm : 0 < many := by omega
  have hh : h % many < many := Nat.mod_lt _ hm
  rcases Nat.lt_or_ge i (h % many) with hlt | hge
  · refine ⟨i + many - h % many, by omega, ?_⟩
    unfold probe
    rw [Nat.mod_eq_of_lt (show i + many - h % many < many by omega), show h % many + (i + many - h % many) = i + many by omega, Nat.add_mod_right, Nat.mod_eq_of_lt hi]
  · refine ⟨i - h % many, by omega, ?_⟩
    unfold probe
    rw [Nat.mod_eq_of_lt (show i - h % many < many by omega), show h % many + (i - h % many) = i by omega, Nat.mod_eq_of_lt hi]
theorem filter_set {α : Type} {p : α → Bool} {x : α} : ∀ {l : List α} {i : Nat} (hi : i < l.length), p l[i] = false → p x = true → ((l.set i x).filter p).Perm (x :: l.filter p)
  | y :: l, 0, hi, h1, h2 => by
    have h1' : p y = false := h1
    simp only [List.set_cons_zero, List.filter_cons, h1', h2, if_true, Bool.false_eq_true, if_false]
    exact .refl _
  | y :: l, i + 1, hi, h1, h2 => by
    have ih := filter_set (l := l) (i := i) (by simpa using hi) (by simpa using h1) h2
    simp only [List.set_cons_succ, List.filter_cons]
    split
    · exact (ih.cons y).trans (.swap x y _)
    · exact ih
theorem filter_unset {α : Type} {p : α → Bool} {x : α} : ∀ {l : List α} {i : Nat} (hi : i < l.length), p l[i] = true → p x = false → (l.filter p).Perm (l[i] :: (l.set i x).filter p)
  | y :: l, 0, hi, h1, h2 => by
    have h1' : p y = true := h1
    simp only [List.set_cons_zero, List.filter_cons, h1', h2, if_true, Bool.false_eq_true, if_false, List.getElem_cons_zero]
    exact .refl _
  | y :: l, i + 1, hi, h1, h2 => by
    have ih := filter_unset (l := l) (i := i) (by simpa using hi) (by simpa using h1) h2
    simp only [List.set_cons_succ, List.filter_cons, List.getElem_cons_succ]
    split
    · exact (ih.cons y).trans (.swap _ y _)
    · exact ih
theorem slot_set {l : List Entry} {i k : Nat} {x : Entry} (hk : k < l.length) : slot (l.set i x) k = if i = k then x else slot l k := by
  rw [slot_eq (by simpa using hk), slot_eq hk, List.getElem_set]
/-- A slot that is not free, put where another stood. -/
theorem found_set {l : List Entry} {t : List Int} {i j : Nat} {x : Entry} (hx : x.st ≠ 0) (hi : i < l.length) (hij : j ≠ i) (h : FoundP l t (i : Int)) : FoundP (l.set j x) t (i : Int) := by
  obtain ⟨u, h1, h2, h3, h4, h5⟩ := h
  have hp : ∀ v, probe (hashT t) l.length v < l.length := fun v => probe_lt (by omega)
  have h2' : probe (hashT t) l.length u = i := by omega
  refine ⟨u, by simpa using h1, by simpa using h2, fun v hv => ?_, ?_, ?_⟩
  · rw [List.length_set]
    refine ⟨(h3 v hv).1, ?_⟩
    rw [slot_set (hp v)]; split
    · exact hx
    · exact (h3 v hv).2
  · rw [List.length_set, slot_set (hp u), if_neg (by omega)]; exact h4
  · rw [List.length_set, slot_set (hp u), if_neg (by omega)]; exact h5
structure Laid (acc es : List Entry) : Prop where
  at_ : ∀ i, i < acc.length → slot acc i = blankE ∨ ((slot acc i).st = 1 ∧ FoundP acc (slot acc i).ty (i : Int))
  perm : (usedE acc).Perm es
theorem Laid.free {acc es : List Entry} (h : Laid acc es) (hl : es.length < acc.length) : ∃ i, i < acc.length ∧ (slot acc i).st = 0 := by
  by_cases hf : ∃ i, i < acc.length ∧ (slot acc i).st = 0
  · exact hf
  · exfalso
    have : usedE acc = acc := by
      unfold usedE
      rw [List.filter_eq_self]
      intro e he
      obtain ⟨i, hi, rfl⟩ := List.mem_iff_getElem.1 he
      rcases h.at_ i hi with hb | ⟨hs, _⟩
      · exact absurd ⟨i, hi, by rw [hb]; rfl⟩ hf
      · rw [slot_eq hi] at hs; simp [hs]
    have := h.perm.length_eq
    rw [‹usedE acc = acc›] at this; omega
theorem Laid.lay {acc es : List Entry} (h : Laid acc es) (hl : es.length < acc.length) {x : Entry} (hx : x.st = 1) : Laid (layL acc x) (es ++ [x]) := by
  obtain ⟨i, hi, hfree⟩ := h.free hl
  obtain ⟨u, hu, hui⟩ := probe_all (h := hashT x.ty) hi
  unfold layL
  split
  · rename_i k hk
    obtain ⟨h1, h2, h3⟩ := find_range_some.1 hk
    have hp : probe (hashT x.ty) acc.length k < acc.length := probe_lt (by omega)
    have hkf : (slot acc (probe (hashT x.ty) acc.length k)).st = 0 := by simpa [freeAt] using h1
    constructor
    · intro j hj
      rw [List.length_set] at hj
      rw [slot_set hj]
      split
      · rename_i he
        right
        refine ⟨hx, k, by simpa using h2, by rw [List.length_set]; omega, fun v hv => ?_, ?_, ?_⟩
        · rw [List.length_set]
          have hv' := h3 v hv
          simp only [freeAt, beq_eq_false_iff_ne, ne_eq] at hv'
          have hne : probe (hashT x.ty) acc.length k ≠ probe (hashT x.ty) acc.length v := fun he' => hv' (by rw [← he']; exact hkf)
          refine ⟨by omega, ?_⟩
          rw [slot_set (probe_lt (by omega)), if_neg hne]; exact hv'
        · rw [List.length_set, slot_set hp, if_pos rfl]; exact hx
        · rw [List.length_set, slot_set hp, if_pos rfl]
      · rename_i hne
        rcases h.at_ j hj with hb | ⟨hs, hf⟩
        · exact .inl hb
        · exact .inr ⟨hs, found_set (by omega) hj hne hf⟩
    · have := filter_set (l := acc) (p := fun e => e.st == 1) (x := x) hp (by rw [← slot_eq hp, hkf]; rfl) (by simp [hx])
      refine this.trans ?_
      exact ((h.perm.cons x).trans (List.perm_append_singleton x es).symm)
  · rename_i hk
    have := find_range_none.1 hk u hu
    simp [freeAt, hui, hfree] at this
theorem laid_fold : ∀ {es acc done : List Entry}, Laid acc done → done.length + es.length ≤ acc.length → (∀ e ∈ es, e.st = 1) → Laid (es.foldl layL acc) (done ++ es)
  | [], acc, done, h, _, _ => by simpa using h
  | x :: es, acc, done, h, hl, hs => by
    have h1 := h.lay (x := x) (by simp at hl; omega) (hs x (by simp))
    have := laid_fold (es := es) h1 (by rw [layL_len]; simp at hl ⊢; omega) fun e he => hs e (List.mem_cons_of_mem _ he)
    simpa using this
theorem laid_laid {es : List Entry} {many : Nat} (hl : es.length ≤ many) (hs : ∀ e ∈ es, e.st = 1) : Laid (laidL es many) es := by
  have h0 : Laid (List.replicate many blankE) [] := by
    constructor
    · intro i hi; left; rw [slot_eq hi]; simp
    · unfold usedE
      rw [List.filter_eq_nil_iff.2]
      intro e he; rw [(List.mem_replicate.1 he).2]; decide
  have := laid_fold (es := es) h0 (by simpa using hl) hs
  rwa [List.nil_append] at this
theorem checkL_iff {l : List Entry} : checkL l = true ↔ (∀ e ∈ l, 0 ≤ e.st ∧ e.st ≤ 2) ∧ 8 ≤ l.length ∧ pow2 l.length = true ∧ 4 * taken l ≤ 3 * l.length ∧ taken l ≤ 4000 ∧ ∀ i, i < l.length → slotOk l i = true := by
  simp only [checkL, preL, Bool.and_eq_true, List.all_eq_true, decide_eq_true_eq, List.mem_range, and_assoc]
theorem uniq_of {l : List Entry} (h : ((usedE l).map (·.ty)).Nodup) : Uniq l := by
  intro i j hi hj si sj ht
  rw [slot_eq hi] at si ht
  rw [slot_eq hj] at sj ht
  rw [List.nodup_iff_pairwise_ne, List.pairwise_map] at h
  unfold usedE at h
  rw [List.pairwise_filter] at h
  have := List.pairwise_iff_getElem.1 h
  rcases Nat.lt_trichotomy i j with hl | he | hl
  · exact absurd ht (this i j hi hj hl (by simp [si]) (by simp [sj]))
  · exact he
  · exact absurd ht.symm (this j i hj hi hl (by simp [sj]) (by simp [si]))
theorem nodup_ty {l : List Entry} (h : checkL l = true) : ((usedE l).map (·.ty)).Nodup := by
  rw [List.nodup_iff_pairwise_ne, List.pairwise_map]
  unfold usedE
  rw [List.pairwise_filter, List.pairwise_iff_getElem]
  intro i j hi hj hij si sj ht
  have e1 := (checkL_used h hi (by simpa using si)).2.2
  have e2 := (checkL_used h hj (by simpa using sj)).2.2
  rw [ht, e2] at e1; omega
theorem usedE_len (l : List Entry) : (usedE l).length = cnt l 1 := rfl
/-- Entries laid into slots enough: a lookup that may be. -/
theorem laid_check {es : List Entry} {many : Nat} (hm : Pow8 many) (hmx : many < 2 ^ 62) (hs : ∀ e ∈ es, e.st = 1 ∧ right2 e.ty = true ∧ 0 ≤ e.num) (hn : (es.map (·.ty)).Nodup) (h4 : 4 * es.length ≤ 3 * many) (h4k : es.length ≤ 4000) :
    checkL (laidL es many) = true ∧ (usedE (laidL es many)).Perm es := by
  have hL := laid_laid (es := es) (many := many) (by omega) fun e he => (hs e he).1
  have hlen := laidL_len es many
  generalize laidL es many = acc at *
  refine ⟨?_, hL.perm⟩
  have hu : Uniq acc := uniq_of ((hL.perm.map _).nodup_iff.2 hn)
  have ⟨p1, p2⟩ := (pow8_iff hmx).1 hm
  have hst : ∀ i, i < acc.length → (slot acc i).st = 0 ∨ (slot acc i).st = 1 := fun i hi => by
    rcases hL.at_ i hi with hb | ⟨h, _⟩
    · left; rw [hb]; rfl
    · exact .inr h
  have hst' : ∀ e ∈ acc, e.st = 0 ∨ e.st = 1 := fun e he => by
    obtain ⟨i, hi, rfl⟩ := List.mem_iff_getElem.1 he
    rw [← slot_eq hi]; exact hst i hi
  have c2 : cnt acc 2 = 0 := by
    unfold cnt
    rw [List.length_eq_zero_iff, List.filter_eq_nil_iff]
    intro e he; rcases hst' e he with h | h <;> simp [h]
  have c1 : cnt acc 1 = es.length := hL.perm.length_eq
  have ht : taken acc = es.length := by unfold taken; omega
  refine checkL_iff.2 ⟨fun e he => by rcases hst' e he with h | h <;> omega, by rw [hlen]; exact p1, by rw [hlen]; exact p2, by omega, by omega, fun i hi => ?_⟩
  unfold slotOk
  rcases hL.at_ i (by omega) with hb | ⟨h, hf⟩
  · rw [hb]; rfl
  · have hm : slot acc i ∈ es := by
      refine hL.perm.mem_iff.1 (List.mem_filter.2 ⟨?_, by simp [h]⟩)
      rw [slot_eq (by omega)]; exact List.getElem_mem _
    obtain ⟨_, h2, h3⟩ := hs _ hm
    rw [if_pos h, h2, (found_place hu (by omega)).1 hf]; simp [h3]
theorem manyFrom_pow : ∀ (f m k : Nat), ∃ j, j ≤ f ∧ manyFrom f m k = m * 2 ^ j ∧ (4 * k ≤ 2 * (m * 2 ^ j) ∨ j = f)
  | 0, m, k => ⟨0, Nat.le_refl _, by simp [manyFrom], .inr rfl⟩
  | f + 1, m, k => by
    simp only [manyFrom]
    split
    · obtain ⟨j, h1, h2, h3⟩ := manyFrom_pow f (m * 2) k
      have e : m * 2 * 2 ^ j = m * 2 ^ (j + 1) := by rw [Nat.pow_succ, Nat.mul_assoc, Nat.mul_comm 2]
      refine ⟨j + 1, by omega, by rw [h2, e], ?_⟩
      rw [e] at h3
      rcases h3 with h3 | h3
      · exact .inl h3
      · exact .inr (by omega)
    · exact ⟨0, by omega, by simp, .inl (by simp; omega)⟩
theorem manyOf_ok {k : Nat} (hk : k ≤ 4000) : Pow8 (manyOf k) ∧ manyOf k < 2 ^ 62 ∧ 4 * k ≤ 2 * manyOf k := by
  have hle := manyOf_le k
  obtain ⟨j, h1, h2, h3⟩ := manyFrom_pow 20 8 k
  refine ⟨⟨j, h2⟩, by omega, ?_⟩
  show 4 * k ≤ 2 * manyFrom 20 8 k
  rcases h3 with h3 | rfl
  · omega
  · rw [h2]; omega
theorem place_none {l : List Entry} (h : checkL l = true) {t : List Int} (hp : place l t < 0) : ∀ e ∈ l, e.st = 1 → e.ty ≠ t := by
  intro e he hs ht
  obtain ⟨i, hi, rfl⟩ := List.mem_iff_getElem.1 he
  have := (checkL_used h hi hs).2.2
  rw [ht] at this; omega
theorem all7_perm' {l : List Entry} : (all7 Entry.st Entry.ty l).Perm (usedE l) := all7_perm Entry.st Entry.ty l
theorem put_ok {l : List Entry} {t : List Int} {num : Int} (h : checkL l = true) (ht : right2 t = true) (hn : 0 ≤ num) (hp : place l t < 0) (hc : (all7 Entry.st Entry.ty l).length ≠ 4000) :
    (putL l t num).2 = 0 ∧ checkL (putL l t num).1 = true ∧ (usedE (putL l t num).1).Perm (⟨1, t, num⟩ :: usedE l) := by
  have hlen : (all7 Entry.st Entry.ty l).length ≤ 4000 := by
    rw [all7_perm'.length_eq, usedE_len]
    have := (checkL_iff.1 h).2.2.2.2.1
    unfold taken at this; omega
  obtain ⟨m1, m2, m3⟩ := manyOf_ok (k := (all7 Entry.st Entry.ty l).length + 1) (by omega)
  have hcheck := laid_check (es := all7 Entry.st Entry.ty l ++ [⟨1, t, num⟩]) m1 m2 ?_ ?_ (by simp; omega) (by simp; omega)
  · simp only [putL, h, ht, hc, Bool.true_eq_false, if_false, show ¬ num < 0 by omega, show ¬ 0 ≤ place l t by omega]
    exact ⟨by trivial, hcheck.1, hcheck.2.trans ((List.perm_append_singleton _ _).trans (all7_perm'.cons _))⟩
  · intro e he
    rcases List.mem_append.1 he with he | he
    · have := all7_perm'.mem_iff.1 he
      obtain ⟨h1, h2⟩ := List.mem_filter.1 this
      obtain ⟨i, hi, rfl⟩ := List.mem_iff_getElem.1 h1
      have hs : l[i].st = 1 := by simpa using h2
      obtain ⟨a1, a2, _⟩ := checkL_used h hi hs
      exact ⟨hs, a1, a2⟩
    · rw [List.mem_singleton.1 he]; exact ⟨rfl, ht, hn⟩
  · have hP : ((all7 Entry.st Entry.ty l ++ [(⟨1, t, num⟩ : Entry)]).map (fun e : Entry => e.ty)).Perm (t :: (usedE l).map (fun e : Entry => e.ty)) := by
      rw [List.map_append]
      exact (List.perm_append_singleton _ _).trans ((all7_perm'.map _).cons _)
    rw [hP.nodup_iff, List.nodup_cons]
    refine ⟨fun hm => ?_, nodup_ty h⟩
    obtain ⟨e, he, het⟩ := List.mem_map.1 hm
    obtain ⟨h1, h2⟩ := List.mem_filter.1 he
    exact place_none h hp e h1 (by simpa using h2) het
/-- A type less: a lookup that may be. -/
theorem drop_ok {l : List Entry} {t : List Int} (h : checkL l = true) (hp : ¬ place l t < 0) :
    (dropL l t).2 = 0 ∧ checkL (dropL l t).1 = true ∧ ∃ e, e.ty = t ∧ e.st = 1 ∧ (usedE l).Perm (e :: usedE (dropL l t).1) := by
  rcases place_lt (l := l) (t := t) with h0 | ⟨k, hk, hpk, hs, hty⟩
  · exact absurd h0 hp
  have hd : dropL l t = (l.set k ⟨2, [], 0⟩, 0) := by
    simp only [dropL, h, Bool.true_eq_false, if_false, hpk, show ¬ ((k : Nat) : Int) < 0 by omega, Int.toNat_natCast]
  rw [hd]
  refine ⟨rfl, ?_, l[k], by rw [← slot_eq hk]; exact hty, by rw [← slot_eq hk]; exact hs, ?_⟩
  · have hP := filter_unset (l := l) (p := fun e => e.st == 1) (x := ⟨2, [], 0⟩) hk (by rw [← slot_eq hk, hs]; rfl) rfl
    have hN := nodup_ty h
    have hu : Uniq (l.set k ⟨2, [], 0⟩) := by
      refine uniq_of ?_
      have h1 := (hP.map (·.ty)).nodup_iff.1 hN
      exact (List.nodup_cons.1 h1).2
    have c1 : cnt l 1 = cnt (l.set k ⟨2, [], 0⟩) 1 + 1 := by have := hP.length_eq; rw [List.length_cons] at this; exact this
    have c2 : cnt (l.set k ⟨2, [], 0⟩) 2 = cnt l 2 + 1 := by
      have := (filter_set (l := l) (p := fun e => e.st == 2) (x := ⟨2, [], 0⟩) hk (by rw [← slot_eq hk, hs]; rfl) rfl).length_eq
      rw [List.length_cons] at this; exact this
    obtain ⟨hst, p1, p2, h3, h4, hok⟩ := checkL_iff.1 h
    have ht : taken (l.set k ⟨2, [], 0⟩) = taken l := by unfold taken; omega
    refine checkL_iff.2 ⟨fun e he => ?_, by rw [List.length_set]; exact p1, by rw [List.length_set]; exact p2, by rw [List.length_set]; show 4 * taken (l.set k ⟨2, [], 0⟩) ≤ _; omega, by show taken (l.set k ⟨2, [], 0⟩) ≤ _; omega, fun i hi => ?_⟩
    · rcases List.mem_or_eq_of_mem_set he with he | rfl
      · exact hst e he
      · exact ⟨by decide, by decide⟩
    · rw [List.length_set] at hi
      have hi' := hok i hi
      unfold slotOk at hi' ⊢
      rw [slot_set hi]
      by_cases hki : k = i
      · rw [if_pos hki]; rfl
      · rw [if_neg hki]
        by_cases hsi : (slot l i).st = 1
        · rw [if_pos hsi] at hi' ⊢
          simp only [Bool.and_eq_true, decide_eq_true_eq, beq_iff_eq] at hi' ⊢
          refine ⟨hi'.1, (found_place hu (by simpa using hi)).1 ?_⟩
          exact found_set (by decide) hi hki ((found_place (checkL_uniq h) hi).2 hi'.2)
        · rw [if_neg hsi] at hi' ⊢; exact hi'
  · exact filter_unset (l := l) (p := fun e => e.st == 1) (x := ⟨2, [], 0⟩) hk (by rw [← slot_eq hk, hs]; rfl) rfl
theorem new_ok : checkL newL = true ∧ usedE newL = [] := by
  constructor
  · have := laid_check (es := []) (many := 8) ⟨0, rfl⟩ (by decide) (by simp) (by simp) (by simp) (by simp)
    exact this.1
  · rfl
end Go.Eng
namespace Go.Eng
open Go Go.RowKit Go.Proofs
set_option maxRecDepth 10000
/-- Steps with one more, where its id is not there. -/
def putS (l : List Stp) (id to : Int) : List Stp := if id ∈ keys l then l else l.take (at2 (keys l) id) ++ (id, to) :: l.drop (at2 (keys l) id)
theorem set_at {α : Type} (l : List α) (k : Nat) (h : k < l.length) : l.set k l[k] = l := by simp
theorem Own.fieldB {α : Type} {enc : α → List Value} {k : Nat} {e : TypeId} {lo : Nat} {w : World} {a : Option Addr} {n c : Nat} {l : List α} (E : En enc k) (h : Own enc k e lo w a n c l) {i j : Nat} (hi : i < n) (hj : j < k) :
    ∃ (g : Nat) (hl : i < l.length), a = some ⟨g, 0, none⟩ ∧ w.cell? ((Addr.add ⟨g, 0, none⟩ (i * k)).add j) = (enc l[i])[j]? ∧ w.frozen? ((Addr.add ⟨g, 0, none⟩ (i * k)).add j) = false ∧ ∃ cs, w.heap[g]? = some (.cells cs e (0, 0)) := by
  obtain ⟨hl, p, hp, hc⟩ := h.row.atK E hi
  rcases h.2.2.2 with ⟨ha, hc0⟩ | ⟨g, cs, ha, _, hg, _⟩
  · have := h.2.1; omega
  · rw [ha] at hp; cases hp
    refine ⟨g, hl, ha, by simpa using hc j hj, ?_, cs, hg⟩
    rw [Addr.add_lit, Nat.zero_add, Addr.add_lit]; exact blk_free hg _
theorem putS_rng {l : List Stp} {id to : Int} (h : ∀ s ∈ l, 0 ≤ s.1 ∧ s.1 < 18446744073709551616 ∧ I64 s.2) (h1 : 0 ≤ id ∧ id < 18446744073709551616) (h2 : I64 to) : ∀ s ∈ putS l id to, 0 ≤ s.1 ∧ s.1 < 18446744073709551616 ∧ I64 s.2 := by
  intro s hs
  unfold putS at hs
  split at hs
  · exact h s hs
  · rcases List.mem_append.1 hs with hs | hs
    · exact h s (List.mem_of_mem_take hs)
    · rcases List.mem_cons.1 hs with rfl | hs
      · exact ⟨h1.1, h1.2, h2⟩
      · exact h s (List.mem_of_mem_drop hs)
section
variable {W : World} {a : Option Addr} {n c lo : Nat} {qs : List NP} {id to : Int} {c0 : Nat} {cs0 : Array Value}
theorem k_putPlus (ho : Own encNode 4 56 lo W a n c (qs.map (·.1))) (hlo : lo ≤ W.heap.size) (hq : ∀ p ∈ qs, NodeSays p.1 p.2 ∧ OwnN lo W p.1 p.2) (ht : ∀ p ∈ qs, p.1.plus.c = p.1.plus.n) {k : Nat} (hk : k < qs.length)
    (h0 : W.heap[c0]? = some (.cells #[.int .u64 id] 32)) (hid : 0 ≤ id ∧ id < 18446744073709551616) (hto : I64 to) (hsort : (keys qs[k].2.plus).Pairwise (· < ·)) (hlen : qs[k].2.plus.length ≤ 1000000) :
    ∃ g, a = some ⟨g, 0, none⟩ ∧ Cl Tryz.prog 100 #[.pointer (some ((Addr.add ⟨g, 0, none⟩ (k * 4)).add 2)), .int .i64 to, .pointer (some ⟨c0, 0, none⟩)] W (fun v W' => v = undef ∧ ∃ r' : RNode, r'.less = qs[k].1.less ∧
      Own encNode 4 56 lo W' a n c ((qs.set k (r', ⟨qs[k].2.used, qs[k].2.ty, putS qs[k].2.plus id to, qs[k].2.less⟩)).map (·.1)) ∧
      (∀ p ∈ qs.set k (r', ⟨qs[k].2.used, qs[k].2.ty, putS qs[k].2.plus id to, qs[k].2.less⟩), NodeSays p.1 p.2 ∧ OwnN lo W' p.1 p.2) ∧ Below lo W W' ∧
      ∀ (b : Nat) (cs : Array Value) (t : TypeId) (fr : Nat × Nat), W.heap[b]? = some (.cells cs t fr) → t ≠ 56 → W'.heap[b]? = some (.cells cs t fr)) := by
  have hn : qs.length = n := by have := ho.len; simpa using this.symm
  obtain ⟨g, hl, ha, hcell, hfr, cs, hg⟩ := ho.fieldB enNode (i := k) (j := 2) (by omega) (by decide)
  have hmem := List.getElem_mem hk
  obtain ⟨hsay, hown⟩ := hq _ hmem
  have htk := ht _ hmem
  have e0 : (qs.map (·.1))[k] = qs[k].1 := by simp
  rw [e0] at hcell
  have hcell' : W.cell? ((Addr.add ⟨g, 0, none⟩ (k * 4)).add 2) = some (.slice qs[k].1.plus.a qs[k].1.plus.n qs[k].1.plus.n) := by rw [hcell]; simp [encNode, Hd.v, htk]
  have hrow : Row encStp W qs[k].1.plus.a qs[k].1.plus.n qs[k].1.plus.n qs[k].2.plus := by have := hown.plus.row; rwa [htk] at this
  have hrl := hrow.len
  refine ⟨g, ha, (k_ggone1 (to := to) hcell' hfr (blk_cell h0 0) hrow hsort (by omega)).mono ?_⟩
  rintro v W' ⟨rfl, hput⟩
  refine ⟨rfl, ?_⟩
  rcases hput with ⟨hin, hB⟩ | ⟨hno, w5, a5, n5, c5, hB5, ho5, hW'⟩
  · refine ⟨qs[k].1, rfl, ?_, ?_, hB.mono hlo, fun b cs t fr hb _ => blk_below hb hB (blk_lt hb)⟩
    · rw [List.map_set]; dsimp only
      have : (qs.map (·.1)).set k qs[k].1 = qs.map (·.1) := by
        rw [← e0]; exact set_at _ _ _
      rw [this]; exact ho.below hB
    · intro p hp
      rcases List.mem_or_eq_of_mem_set hp with hp | rfl
      · exact ⟨(hq p hp).1, (hq p hp).2.below hB⟩
      · have e : putS qs[k].2.plus id to = qs[k].2.plus := by rw [putS, if_pos hin]
        exact ⟨by dsimp only; rw [e]; exact ⟨hsay.used, hsay.rng⟩, by dsimp only; rw [e]; exact ⟨(hown.below hB).ty, (hown.below hB).plus, (hown.below hB).less⟩⟩
  · have e : putS qs[k].2.plus id to = qs[k].2.plus.take (at2 (keys qs[k].2.plus) id) ++ (id, to) :: qs[k].2.plus.drop (at2 (keys qs[k].2.plus) id) := by rw [putS, if_neg hno]
    have oo5 := ho.below hB5
    obtain ⟨g', ha', hgl, hc1, hc2, hput1, hgr1, _⟩ := oo5.put1 enNode (i := k) (j := 2) (by omega) (by decide) (.slice a5 n5 c5) ⟨qs[k].1.used, qs[k].1.ty, ⟨a5, n5, c5⟩, qs[k].1.less⟩ (fun hl => by simp [encNode])
    rw [ha] at ha'; cases ha'
    rw [← hW'] at hput1 hgr1
    rw [show some g = Option.map (·.block) (some (⟨g, 0, none⟩ : Addr)) from rfl, ← ha] at hgr1
    refine ⟨⟨qs[k].1.used, qs[k].1.ty, ⟨a5, n5, c5⟩, qs[k].1.less⟩, rfl, by rw [List.map_set]; exact hput1, ?_, (hB5.mono hlo).trans (oo5.belowOf hgr1 (Nat.le_trans hlo hB5.size)), fun b cs t fr hb hne => oo5.keepBlk hgr1 (blk_below hb hB5 (blk_lt hb)) (.inl hne)⟩
    intro p hp
    rcases List.mem_or_eq_of_mem_set hp with hp | rfl
    · exact ⟨(hq p hp).1, ((hq p hp).2.below hB5).keepBy oo5 hgr1 (by decide) (by decide)⟩
    · refine ⟨⟨hsay.used, hsay.rng.1, fun s hs => ?_⟩, OwnN.keepBy ⟨(hown.below hB5).ty, by rw [e]; exact ho5.mono hlo, (hown.below hB5).less⟩ oo5 hgr1 (by decide) (by decide)⟩
      rcases List.mem_append.1 hs with hs | hs
      · exact putS_rng (fun s hs => hsay.rng.2 s (List.mem_append.2 (.inl hs))) hid hto s hs
      · exact hsay.rng.2 s (List.mem_append.2 (.inr hs))
theorem k_putLess (ho : Own encNode 4 56 lo W a n c (qs.map (·.1))) (hlo : lo ≤ W.heap.size) (hq : ∀ p ∈ qs, NodeSays p.1 p.2 ∧ OwnN lo W p.1 p.2) (ht : ∀ p ∈ qs, p.1.less.c = p.1.less.n) {k : Nat} (hk : k < qs.length)
    (h0 : W.heap[c0]? = some (.cells #[.int .u64 id] 32)) (hid : 0 ≤ id ∧ id < 18446744073709551616) (hto : I64 to) (hsort : (keys qs[k].2.less).Pairwise (· < ·)) (hlen : qs[k].2.less.length ≤ 1000000) :
    ∃ g, a = some ⟨g, 0, none⟩ ∧ Cl Tryz.prog 100 #[.pointer (some ((Addr.add ⟨g, 0, none⟩ (k * 4)).add 3)), .int .i64 to, .pointer (some ⟨c0, 0, none⟩)] W (fun v W' => v = undef ∧ ∃ r' : RNode, r'.plus = qs[k].1.plus ∧
      Own encNode 4 56 lo W' a n c ((qs.set k (r', ⟨qs[k].2.used, qs[k].2.ty, qs[k].2.plus, putS qs[k].2.less id to⟩)).map (·.1)) ∧
      (∀ p ∈ qs.set k (r', ⟨qs[k].2.used, qs[k].2.ty, qs[k].2.plus, putS qs[k].2.less id to⟩), NodeSays p.1 p.2 ∧ OwnN lo W' p.1 p.2) ∧ Below lo W W' ∧
      ∀ (b : Nat) (cs : Array Value) (t : TypeId) (fr : Nat × Nat), W.heap[b]? = some (.cells cs t fr) → t ≠ 56 → W'.heap[b]? = some (.cells cs t fr)) := by
  have hn : qs.length = n := by have := ho.len; simpa using this.symm
  obtain ⟨g, hl, ha, hcell, hfr, cs, hg⟩ := ho.fieldB enNode (i := k) (j := 3) (by omega) (by decide)
  have hmem := List.getElem_mem hk
  obtain ⟨hsay, hown⟩ := hq _ hmem
  have htk := ht _ hmem
  have e0 : (qs.map (·.1))[k] = qs[k].1 := by simp
  rw [e0] at hcell
  have hcell' : W.cell? ((Addr.add ⟨g, 0, none⟩ (k * 4)).add 3) = some (.slice qs[k].1.less.a qs[k].1.less.n qs[k].1.less.n) := by rw [hcell]; simp [encNode, Hd.v, htk]
  have hrow : Row encStp W qs[k].1.less.a qs[k].1.less.n qs[k].1.less.n qs[k].2.less := by have := hown.less.row; rwa [htk] at this
  have hrl := hrow.len
  refine ⟨g, ha, (k_ggone1 (to := to) hcell' hfr (blk_cell h0 0) hrow hsort (by omega)).mono ?_⟩
  rintro v W' ⟨rfl, hput⟩
  refine ⟨rfl, ?_⟩
  rcases hput with ⟨hin, hB⟩ | ⟨hno, w5, a5, n5, c5, hB5, ho5, hW'⟩
  · refine ⟨qs[k].1, rfl, ?_, ?_, hB.mono hlo, fun b cs t fr hb _ => blk_below hb hB (blk_lt hb)⟩
    · rw [List.map_set]; dsimp only
      have : (qs.map (·.1)).set k qs[k].1 = qs.map (·.1) := by
        rw [← e0]; exact set_at _ _ _
      rw [this]; exact ho.below hB
    · intro p hp
      rcases List.mem_or_eq_of_mem_set hp with hp | rfl
      · exact ⟨(hq p hp).1, (hq p hp).2.below hB⟩
      · have e : putS qs[k].2.less id to = qs[k].2.less := by rw [putS, if_pos hin]
        exact ⟨by dsimp only; rw [e]; exact ⟨hsay.used, hsay.rng⟩, by dsimp only; rw [e]; exact ⟨(hown.below hB).ty, (hown.below hB).plus, (hown.below hB).less⟩⟩
  · have e : putS qs[k].2.less id to = qs[k].2.less.take (at2 (keys qs[k].2.less) id) ++ (id, to) :: qs[k].2.less.drop (at2 (keys qs[k].2.less) id) := by rw [putS, if_neg hno]
    have oo5 := ho.below hB5
    obtain ⟨g', ha', hgl, hc1, hc2, hput1, hgr1, _⟩ := oo5.put1 enNode (i := k) (j := 3) (by omega) (by decide) (.slice a5 n5 c5) ⟨qs[k].1.used, qs[k].1.ty, qs[k].1.plus, ⟨a5, n5, c5⟩⟩ (fun hl => by simp [encNode])
    rw [ha] at ha'; cases ha'
    rw [← hW'] at hput1 hgr1
    rw [show some g = Option.map (·.block) (some (⟨g, 0, none⟩ : Addr)) from rfl, ← ha] at hgr1
    refine ⟨⟨qs[k].1.used, qs[k].1.ty, qs[k].1.plus, ⟨a5, n5, c5⟩⟩, rfl, by rw [List.map_set]; exact hput1, ?_, (hB5.mono hlo).trans (oo5.belowOf hgr1 (Nat.le_trans hlo hB5.size)), fun b cs t fr hb hne => oo5.keepBlk hgr1 (blk_below hb hB5 (blk_lt hb)) (.inl hne)⟩
    intro p hp
    rcases List.mem_or_eq_of_mem_set hp with hp | rfl
    · exact ⟨(hq p hp).1, ((hq p hp).2.below hB5).keepBy oo5 hgr1 (by decide) (by decide)⟩
    · refine ⟨⟨hsay.used, hsay.rng.1, fun s hs => ?_⟩, OwnN.keepBy ⟨(hown.below hB5).ty, (hown.below hB5).plus, by rw [e]; exact ho5.mono hlo⟩ oo5 hgr1 (by decide) (by decide)⟩
      rcases List.mem_append.1 hs with hs | hs
      · exact hsay.rng.2 s (List.mem_append.2 (.inl hs))
      · exact putS_rng (fun s hs => hsay.rng.2 s (List.mem_append.2 (.inr hs))) hid hto s hs
end
end Go.Eng
namespace Go.Eng
open Go Go.RowKit Go.Proofs
set_option maxRecDepth 10000
def addPlus (l : List Node) (n id to : Int) : List Node := l.set (n - 1).toNat ⟨(node l n).used, (node l n).ty, putS (node l n).plus id to, (node l n).less⟩
def addLess (l : List Node) (n id to : Int) : List Node := l.set (n - 1).toNat ⟨(node l n).used, (node l n).ty, (node l n).plus, putS (node l n).less id to⟩
/-- A graph, a step being gone, and where to; the error. -/
def goneG (turn : List Int → Int → List Int × Int) (G : PG) (n id : Int) (plus : Bool) : PG × Int × Int :=
  if checkG G = false then (⟨[], []⟩, 0, 220)
  else if isN G.nodes n = false then (⟨[], []⟩, 0, 2)
  else if (turn (node G.nodes n).ty id).2 ≠ 0 then (⟨[], []⟩, 0, (turn (node G.nodes n).ty id).2)
  else if (turn (node G.nodes n).ty id).1 = (node G.nodes n).ty then (G, n, 0)
  else if (ofG G (turn (node G.nodes n).ty id).1).2.2 ≠ 0 then (⟨[], []⟩, 0, (ofG G (turn (node G.nodes n).ty id).1).2.2)
  else (⟨if plus = true then addLess (addPlus (ofG G (turn (node G.nodes n).ty id).1).1.nodes n id (ofG G (turn (node G.nodes n).ty id).1).2.1) (ofG G (turn (node G.nodes n).ty id).1).2.1 id n
      else addPlus (addLess (ofG G (turn (node G.nodes n).ty id).1).1.nodes n id (ofG G (turn (node G.nodes n).ty id).1).2.1) (ofG G (turn (node G.nodes n).ty id).1).2.1 id n, (ofG G (turn (node G.nodes n).ty id).1).1.slots⟩, (ofG G (turn (node G.nodes n).ty id).1).2.1, 0)
def SortedN (x : Node) : Prop := (keys x.plus).Pairwise (· < ·) ∧ (keys x.less).Pairwise (· < ·)
theorem ChG.sorted {G : PG} (h : ChG G) : ∀ x ∈ G.nodes, SortedN x := by
  intro x hx
  obtain ⟨i, hi, rfl⟩ := List.mem_iff_getElem.1 hx
  cases hu : G.nodes[i].used with
  | true =>
    obtain ⟨_, _, h1, h2⟩ := h.node hi hu
    exact ⟨stepsG_sorted h1, stepsG_sorted h2⟩
  | false =>
    obtain ⟨_, h1, h2⟩ := h.free hi hu
    unfold SortedN; rw [h1, h2]; exact ⟨.nil, .nil⟩
theorem setNode_mem {l : List Node} {k : Nat} {x y : Node} (h : y ∈ setNode l k x) : y ∈ l ∨ y = x := by
  unfold setNode at h
  split at h
  · exact List.mem_or_eq_of_mem_set h
  · simpa using h
theorem setNode_len {l : List Node} {k : Nat} {x : Node} (hk : k ≤ l.length) : l.length ≤ (setNode l k x).length ∧ k < (setNode l k x).length := by
  unfold setNode; split
  · simp; omega
  · simp; omega
theorem setNode_get {l : List Node} {k i : Nat} {x : Node} (hi : i < l.length) (hne : i ≠ k) (h' : i < (setNode l k x).length) : (setNode l k x)[i] = l[i] := by
  unfold setNode at h' ⊢
  split
  · rw [List.getElem_set_ne (Ne.symm hne)]
  · rw [List.getElem_append_left hi]
/-- What a graph of which a node has a type is. -/
theorem of_facts {G : PG} {t : List Int} (h : ChG G) (he : (ofG G t).2.2 = 0) : right2 t = true ∧ (∃ k : Nat, (ofG G t).2.1 = (k : Int) + 1 ∧ k < (ofG G t).1.nodes.length) ∧ (∀ x ∈ (ofG G t).1.nodes, x ∈ G.nodes ∨ x = ⟨true, t, [], []⟩) ∧
    (G.nodes.length ≤ (ofG G t).1.nodes.length) ∧ (ofG G t).1.nodes.length ≤ G.nodes.length + 1 ∧ (∀ i (hi : i < G.nodes.length), G.nodes[i].used = true → ∃ h' : i < (ofG G t).1.nodes.length, (ofG G t).1.nodes[i] = G.nodes[i]) := by
  have hr2 : right2 t = true := by
    cases hr : right2 t with
    | true => rfl
    | false => simp [ofG, hr] at he
  refine ⟨hr2, ?_⟩
  cases hf : (findL G.slots t).2 with
  | true =>
    obtain ⟨i, hi, h1, _, _⟩ := h.find hf
    have e : ofG G t = (G, (findL G.slots t).1, 0) := by simp [ofG, hr2, hf]
    rw [e]
    exact ⟨⟨i, h1, hi⟩, fun x hx => .inl hx, Nat.le_refl _, by dsimp only; omega, fun i hi _ => ⟨hi, rfl⟩⟩
  | false =>
    by_cases hp : (putL G.slots t ((freeIx G.nodes : Int) + 1)).2 = 0
    · have e : ofG G t = (⟨setNode G.nodes (freeIx G.nodes) ⟨true, t, [], []⟩, (putL G.slots t ((freeIx G.nodes : Int) + 1)).1⟩, (freeIx G.nodes : Int) + 1, 0) := by simp [ofG, hr2, hf, hp]
      rw [e]
      have hle := freeIx_le G.nodes
      have hl := setNode_len (x := ⟨true, t, [], []⟩) hle
      refine ⟨⟨freeIx G.nodes, rfl, hl.2⟩, fun x hx => setNode_mem hx, hl.1, ?_, fun i hi hu => ?_⟩
      · dsimp only; unfold setNode; split <;> simp
      · have hne : i ≠ freeIx G.nodes := by
          rintro rfl
          have h1 := List.findIdx_getElem (p := fun x : Node => !x.used) (xs := G.nodes) (w := hi)
          have h2 : (!G.nodes[freeIx G.nodes].used) = true := h1
          rw [hu] at h2; simp at h2
        exact ⟨by have := hl.1; dsimp only; omega, setNode_get hi hne _⟩
    · exfalso
      rw [ofG, if_neg (by rw [hr2]; simp), if_neg (by rw [hf]; simp), if_pos hp] at he
      exact hp he
/-- A graph in memory of its own, a number and an error. -/
def GrfD3 (w : World) (p : PG × Int × Int) (v : Value) (w' : World) : Prop :=
  ∃ a n c sa sn sc, v = .tuple #[.agg #[.slice a n c, .slice sa sn sc], .int .i64 p.2.1, .int .i64 p.2.2] ∧ DNodes w.heap.size w' a n c p.1.nodes ∧ DEnts w.heap.size w' sa sn sc p.1.slots ∧ Below w.heap.size w w'
theorem GrfE3.d {w w' : World} {p : PG × Int × Int} {v : Value} (h : GrfE3 w p v w') : GrfD3 w p v w' := by
  obtain ⟨a, n, c, sa, sn, sc, h1, h2, h3⟩ := h; exact ⟨a, n, c, sa, sn, sc, h1, h2.d, h3⟩
theorem grfD3 {w w' : World} {p : PG × Int × Int} {G : PG} {m e : Int} {a sa : Option Addr} {n c sn sc : Nat} (hp : p = (G, m, e)) (h1 : DNodes w.heap.size w' a n c G.nodes) (h2 : DEnts w.heap.size w' sa sn sc G.slots) (hB : Below w.heap.size w w') :
    GrfD3 w p (.tuple #[.agg #[.slice a n c, .slice sa sn sc], .int .i64 m, .int .i64 e]) w' := by
  subst hp; exact ⟨_, _, _, _, _, _, rfl, h1, h2, hB⟩
section
variable {w : World} {a sa : Option Addr} {n c sn sc : Nat} {G : PG} {turn : List Int → Int → List Int × Int} {f : FuncId} {cf : List Value}
set_option maxHeartbeats 1000000
theorem k_ggone (h : Grf w a n c sa sn sc G) (hs : SmallG G) {m id : Int} (hm : I64 m) (hid : 0 ≤ id ∧ id < 18446744073709551616) (plus : Bool)
    (ht : ∀ (W : World) (xa : Option Addr) (xn xc : Nat) (t : List Int), Row encId W xa xn xc t → Cl Tryz.prog f (([.slice xa xn xc, .int .u64 id] : List Value) ++ cf).toArray W (ReadsE W (turn t id).1 (turn t id).2)) (htr : ∀ t, Rng t → Rng (turn t id).1) :
    Cl Tryz.prog 53 #[.agg #[.slice a n c, .slice sa sn sc], .int .i64 m, .int .u64 id, .bool plus, .func (.func f) #[] cf.toArray] w (GrfD3 w (goneG turn G m id plus)) := by
  refine c53 _ _ _ _ _ _ _ _ _ _ _ ?_
  have hs1 := hs.n.1; have hs2 := hs.s
  have hnl := h.nodes.len; have hsl := h.slots.len
  rintro _ w1 rfl h1 _ w2 rfl h2 _ w3 rfl h3
  have q1 : w3.heap[w.heap.size]? = some (.cells #[.slice a n c, .slice sa sn sc] 27) := by rw [h3, h2, h1]; exact blk_alloc (blk_alloc (blk_new _))
  have q2 : w3.heap[w1.heap.size]? = some (.cells #[.int .u64 id] 32) := by rw [h3, h2]; exact blk_alloc (blk_new _)
  have q3 : w3.heap[w2.heap.size]? = some (.cells #[.slice none 0 0, .slice none 0 0] 27) := by rw [h3]; exact blk_new _
  have z1 : w1.heap.size = w.heap.size + 1 := by rw [h1, size_alloc]
  have z2 : w2.heap.size = w1.heap.size + 1 := by rw [h2, size_alloc]
  have B3 : Below w.heap.size w w3 := by rw [h3, h2, h1]; exact ((alloc_below w _).alloc (by rw [size_alloc]; omega) _).alloc (by rw [size_alloc, size_alloc]; omega) _
  clear h1 h2 h3
  have hw2 : w.heap.size ≤ w2.heap.size := by omega
  have put2 : ∀ {W : World} {G' : PG} {m' e : Int} {a' : Option Addr} {n' c' : Nat} {sa' : Option Addr} {sn' sc' : Nat} {v0 v1 : Value}, W.heap[w2.heap.size]? = some (.cells #[v0, v1] 27) → goneG turn G m id plus = (G', m', e) → DNodes w.heap.size W a' n' c' G'.nodes → DEnts w.heap.size W sa' sn' sc' G'.slots → Below w.heap.size w W →
      ∀ W', W' = (W.setCell ⟨w2.heap.size, 0, none⟩ (.slice a' n' c')).setCell ⟨w2.heap.size, 1, none⟩ (.slice sa' sn' sc') → W'.heap[w2.heap.size]? = some (.cells #[.slice a' n' c', .slice sa' sn' sc'] 27) →
      GrfD3 w (goneG turn G m id plus) (.tuple #[.agg #[.slice a' n' c', .slice sa' sn' sc'], .int .i64 m', .int .i64 e]) W' := by
    intro W G' m' e a' n' c' sa' sn' sc' v0 v1 hq hp hn' he hB W' hW' hq'
    have qm := blk_set hq 0 (.slice a' n' c')
    rw [hW']
    exact grfD3 hp ((hn'.farB hq (by decide) (by decide) (by decide) _).farB qm (by decide) (by decide) (by decide) _) ((he.farB hq (by decide) (by decide) _).farB qm (by decide) (by decide) _) ((hB.setCell hw2 _).setCell hw2 _)
  refine ⟨_, _, _, _, _, _, blk_cell q1 0, blk_cell q1 1, (k_gCheck (h.below B3) hs).gives fun w4 B4' => ⟨_, rfl, ?_⟩⟩
  have B4 := B3.trans (B4'.mono B3.size)
  have q14 := blk_below q1 B4' (blk_lt q1)
  have q24 := blk_below q2 B4' (blk_lt q2)
  have q34 := blk_below q3 B4' (blk_lt q3)
  cases hc : checkG G with
  | false => exact put_back2 q34 (put2 (G' := ⟨[], []⟩) q34 (by simp [goneG, hc]) DNodes.nil DEnts.nil B4)
  | true =>
  have hC := (checkG_iff G).1 hc
  refine ⟨_, _, _, _, _, _, blk_cell q14 0, blk_cell q14 1, (k_gis (h.nodes.below B4) m hm).gives fun w6 B6' => ⟨_, rfl, ?_⟩⟩
  have B6 := B4.trans (B6'.mono B4.size)
  have q16 := blk_below q14 B6' (blk_lt q14)
  have q26 := blk_below q24 B6' (blk_lt q24)
  have q36 := blk_below q34 B6' (blk_lt q34)
  refine cnd (fun g => ?_) fun g => ?_
  · have : isN G.nodes m = false := by simpa using g
    exact put_back2 q36 (put2 (G' := ⟨[], []⟩) q36 (by simp [goneG, hc, this]) DNodes.nil DEnts.nil B6)
  have hi : isN G.nodes m = true := by simpa using g
  clear g
  obtain ⟨k0, rfl, hk0⟩ := isN_iff hi
  have hnode : node G.nodes ((k0 : Int) + 1) = G.nodes[k0] := node_eq hk0
  have hused : G.nodes[k0].used = true := by
    have := hi
    simp only [isN, hnode, Bool.and_eq_true] at this; exact this.2
  have hp2 : IntKind.i64.wrap ((k0 : Int) + 1 - 1) = (k0 : Int) := pre2 (by omega)
  rw [hp2]
  obtain ⟨ps, hrow, hps, hpG⟩ := h.nodes.pairs
  have hpl : ps.length = n := by rw [hnl, ← hpG]; simp
  have hpk : ps[k0].2 = G.nodes[k0] := by
    have : (ps.map (·.2))[k0]'(by simp; omega) = G.nodes[k0] := by simp only [hpG]
    simpa using this
  have hX := hps _ (List.getElem_mem (show k0 < ps.length by omega))
  rw [hpk] at hX
  refine ⟨_, _, _, blk_cell q16 0, (hrow.below B6).nodeTy (i := k0) (by omega) fun hl => ?_⟩
  have e0 : (ps.map (·.1))[k0] = ps[k0].1 := by simp
  rw [e0]
  refine ⟨_, blk_cell q26 0, (ht w6 _ _ _ _ (hX.ty.below B6)).mono ?_⟩
  rintro _ w8 ⟨a8, n8, c8, rfl, hr8, B8'⟩
  have B8 := B6.trans (B8'.mono B6.size)
  have q18 := blk_below q16 B8' (blk_lt q16)
  have q28 := blk_below q26 B8' (blk_lt q26)
  have q38 := blk_below q36 B8' (blk_lt q36)
  have hrng := htr _ hX.rng.1
  generalize hT : turn G.nodes[k0].ty id = T at *
  refine ⟨_, _, _, _, rfl, ?_⟩
  refine cnd (fun g => ?_) fun g => ?_
  · have hne : T.2 ≠ 0 := by intro h0; rw [h0] at g; simp at g
    exact put_back2 q38 (put2 (G' := ⟨[], []⟩) q38 (by simp [goneG, hc, hi, hnode, hT, hne]) DNodes.nil DEnts.nil B8)
  have hT2 : T.2 = 0 := by simpa using g
  clear g
  refine (k_EqIds hr8 (hX.ty.below B8)).tells fun w10 hq10 => ⟨_, rfl, ?_⟩
  have B10 := B8.trans (hq10.below _)
  have q110 := blk_below q18 (hq10.below _) (blk_lt q18)
  have q210 := blk_below q28 (hq10.below _) (blk_lt q28)
  have q310 := blk_below q38 (hq10.below _) (blk_lt q38)
  refine cnd (fun g => ?_) fun g => ?_
  · have hTe : T.1 = G.nodes[k0].ty := by simpa using g
    refine ⟨_, _, _, _, _, _, blk_cell q110 0, blk_cell q110 1, (k_gown (h.below B10) hs).mono ?_⟩
    rintro _ w11 ⟨g6, g6', rfl, hN, hEn, B11'⟩
    have B11 := B10.trans (B11'.mono B10.size)
    have q311 := blk_below q310 B11' (blk_lt q310)
    exact ⟨_, _, _, _, _, _, rfl, put_back2 q311 (put2 q311 (by simp [goneG, hc, hi, hnode, hT, hT2, hTe]) (hN.d.mono B10.size) (hEn.mono B10.size) B11)⟩
  have hTe : T.1 ≠ G.nodes[k0].ty := by simpa using g
  clear g
  refine ⟨_, _, _, _, _, _, blk_cell q110 0, blk_cell q110 1, (k_gof (h.below B10) hs (hr8.qt hq10) hrng).mono ?_⟩
  rintro _ w13 ⟨a13, n13, c13, sa13, sn13, sc13, rfl, hN, hEn, B13'⟩
  have B13 := B10.trans (B13'.mono B10.size)
  have q113 := blk_below q110 B13' (blk_lt q110)
  have q213 := blk_below q210 B13' (blk_lt q210)
  have q313 := blk_below q310 B13' (blk_lt q310)
  have hofF := of_facts (t := T.1) hC
  generalize hQ : ofG G T.1 = Q at *
  refine ⟨_, _, _, _, _, _, _, _, rfl, blk_some q113 (by simp), blk_free q113 _, blk_some q113 (j := 1) (by simp), blk_free q113 1, ?_⟩
  rintro w14 h14
  have qm := blk_set q113 0 (.slice a13 n13 c13)
  have q114 : w14.heap[w.heap.size]? = some (.cells #[.slice a13 n13 c13, .slice sa13 sn13 sc13] 27) := by rw [h14]; exact blk_set qm 1 _
  have q214 : w14.heap[w1.heap.size]? = some (.cells #[.int .u64 id] 32) := by
    rw [h14]; exact blk_far (blk_far q213 (by show w1.heap.size ≠ w.heap.size; omega) _) (by show w1.heap.size ≠ w.heap.size; omega) _
  have q314 : w14.heap[w2.heap.size]? = some (.cells #[.slice none 0 0, .slice none 0 0] 27) := by
    rw [h14]; exact blk_far (blk_far q313 (by show w2.heap.size ≠ w.heap.size; omega) _) (by show w2.heap.size ≠ w.heap.size; omega) _
  have B14 : Below w.heap.size w w14 := by rw [h14]; exact (B13.setCell (Nat.le_refl _) _).setCell (Nat.le_refl _) _
  have hN14 : DNodesT w.heap.size w14 a13 n13 c13 Q.1.nodes := by
    rw [h14]; exact ((hN.mono B10.size).farB q113 (by decide) (by decide) (by decide) _).farB qm (by decide) (by decide) (by decide) _
  have hE14 : DEnts w.heap.size w14 sa13 sn13 sc13 Q.1.slots := by
    rw [h14]; exact ((hEn.mono B10.size).farB q113 (by decide) (by decide) _).farB qm (by decide) (by decide) _
  clear h14 qm q113 q213 q313 hN hEn
  refine cnd (fun g => ?_) fun g => ?_
  · have hne : Q.2.2 ≠ 0 := by intro h0; rw [h0] at g; simp at g
    exact put_back2 q314 (put2 (G' := ⟨[], []⟩) q314 (by simp [goneG, hc, hi, hnode, hT, hT2, hTe, hQ, hne]) DNodes.nil DEnts.nil B14)
  have hQ2 : Q.2.2 = 0 := by simpa using g
  clear g
  obtain ⟨_, ⟨k1, hk1, hk1l⟩, hmem, hlen1, hlen2, hsame⟩ := hofF hQ2
  obtain ⟨hk0', hget0⟩ := hsame k0 hk0 hused
  rw [hk1]
  rintro _ rfl
  have q116 := blk_drew q114
  have q216 := blk_drew q214
  have q316 := blk_drew q314
  have B16 := B14.drew
  have hN16 := hN14.below (Below.refl _ _).drew
  have hE16 := hE14.below (Below.refl _ _).drew
  clear q114 q214 q314 hN14 hE14 B14
  generalize w14.drew = w16 at q116 q216 q316 B16 hN16 hE16 ⊢
  obtain ⟨qs, hqs, ho, hq, hnd⟩ := hN16
  have hql : qs.length = Q.1.nodes.length := by rw [← hqs]; simp
  have hqn : qs.length = n13 := by have := ho.len; simpa using this.symm
  have hqG : ∀ i (hi : i < qs.length), qs[i].2 = Q.1.nodes[i]'(by omega) := by
    intro i hi
    have : (qs.map (·.2))[i]'(by simpa using hi) = Q.1.nodes[i]'(by omega) := by simp only [hqs]
    simpa using this
  have hsort : ∀ x ∈ Q.1.nodes, SortedN x ∧ x.plus.length ≤ 1000000 ∧ x.less.length ≤ 1000000 := by
    intro x hx
    rcases hmem x hx with hx | rfl
    · exact ⟨hC.sorted x hx, (hs.n.2 x hx).2⟩
    · exact ⟨⟨.nil, .nil⟩, by simp, by simp⟩
  have hp2' : IntKind.i64.wrap ((k1 : Int) + 1 - 1) = (k1 : Int) := pre2 (by omega)
  rw [hp2']
  have hkq0 : k0 < qs.length := by omega
  have hkq1 : k1 < qs.length := by omega
  have hI0 : I64 ((k0 : Int) + 1) := by simp only [I64]; omega
  have hI1 : I64 ((k1 : Int) + 1) := by simp only [I64]; omega
  have hno0 : node Q.1.nodes ((k0 : Int) + 1) = Q.1.nodes[k0] := node_eq hk0'
  have hno1 : node Q.1.nodes ((k1 : Int) + 1) = Q.1.nodes[k1] := node_eq hk1l
  have ht0 : ((k0 : Int) + 1 - 1).toNat = k0 := by omega
  have ht1 : ((k1 : Int) + 1 - 1).toNat = k1 := by omega
  have hs0 := hsort _ (List.getElem_mem hk0')
  have hs1' := hsort _ (List.getElem_mem hk1l)
  have htoN : ∀ k : Nat, ((k : Nat) : Int).toNat = k := fun k => Int.toNat_natCast k
  cases plus with
  | true =>
    obtain ⟨g13, hga, hcl⟩ := k_putPlus (to := (k1 : Int) + 1) ho B16.size (fun p hp => ⟨(hq p hp).1, (hq p hp).2.1⟩) (fun p hp => (hq p hp).2.2.1) hkq0 q216 hid hI1 (by rw [hqG k0 hkq0]; exact hs0.1.1) (by rw [hqG k0 hkq0]; exact hs0.2.1)
    refine ⟨_, _, _, blk_cell q116 0, ⟨g13, 0, none⟩, hga, by omega, by omega, _, _, _, blk_cell q116 0, ⟨g13, 0, none⟩, hga, by omega, by omega, _, rfl, ?_⟩
    rw [htoN, htoN]
    refine hcl.mono ?_
    rintro _ w17 ⟨rfl, r', hr', ho17, hq17, B17', keep17⟩
    refine ⟨rfl, _, rfl, ?_⟩
    have B17 := B16.trans B17'
    have hgt : (qs.set k0 (r', ⟨qs[k0].2.used, qs[k0].2.ty, putS qs[k0].2.plus id ((k1 : Int) + 1), qs[k0].2.less⟩))[k1]'(by simpa using hkq1) = if k0 = k1 then (r', ⟨qs[k0].2.used, qs[k0].2.ty, putS qs[k0].2.plus id ((k1 : Int) + 1), qs[k0].2.less⟩) else qs[k1] := List.getElem_set ..
    have hless1 : ((qs.set k0 (r', ⟨qs[k0].2.used, qs[k0].2.ty, putS qs[k0].2.plus id ((k1 : Int) + 1), qs[k0].2.less⟩))[k1]'(by simpa using hkq1)).2.less = Q.1.nodes[k1].less := by
      rw [hgt]; split
      · rename_i he; subst he; dsimp only; rw [hqG k0 hkq0]
      · rw [hqG k1 hkq1]
    obtain ⟨g13', hga', hcl2⟩ := k_putLess (to := (k0 : Int) + 1) (k := k1) ho17 B17.size hq17 (fun p hp => by
        rcases List.mem_or_eq_of_mem_set hp with hp | rfl
        · exact (hq p hp).2.2.2
        · dsimp only; rw [hr']; exact (hq _ (List.getElem_mem hkq0)).2.2.2) (by simpa using hkq1) (keep17 _ _ _ _ q216 (by decide)) hid hI0 (by rw [hless1]; exact hs1'.1.2) (by rw [hless1]; exact hs1'.2.2)
    rw [hga] at hga'; cases hga'
    refine hcl2.mono ?_
    rintro _ w18 ⟨rfl, r2, hr2', ho18, hq18, B18', keep18⟩
    have B18 := B17.trans B18'
    have q118 := keep18 _ _ _ _ (keep17 _ _ _ _ q116 (by decide)) (by decide)
    have q318 := keep18 _ _ _ _ (keep17 _ _ _ _ q316 (by decide)) (by decide)
    refine ⟨rfl, _, _, _, _, _, _, blk_cell q118 0, blk_cell q118 1, put_back2 q318 (put2 (G' := ⟨addLess (addPlus Q.1.nodes ((k0 : Int) + 1) id ((k1 : Int) + 1)) ((k1 : Int) + 1) id ((k0 : Int) + 1), Q.1.slots⟩) q318 (by simp [goneG, hc, hi, hnode, hT, hT2, hTe, hQ, hQ2, hk1]) ⟨_, ?_, ho18, hq18⟩ ?_ B18)⟩
    · rw [List.map_set, List.map_set, hqs]
      have hadd : addPlus Q.1.nodes ((k0 : Int) + 1) id ((k1 : Int) + 1) = Q.1.nodes.set k0 ⟨qs[k0].2.used, qs[k0].2.ty, putS qs[k0].2.plus id ((k1 : Int) + 1), qs[k0].2.less⟩ := by
        rw [addPlus, hno0, ht0, hqG k0 hkq0]
      have hx : ((qs.set k0 (r', ⟨qs[k0].2.used, qs[k0].2.ty, putS qs[k0].2.plus id ((k1 : Int) + 1), qs[k0].2.less⟩))[k1]'(by simpa using hkq1)).2 = node (addPlus Q.1.nodes ((k0 : Int) + 1) id ((k1 : Int) + 1)) ((k1 : Int) + 1) := by
        rw [hadd, node_eq (by simpa using hk1l), hgt, List.getElem_set]
        split
        · rfl
        · exact hqG k1 hkq1
      rw [hx, ← hadd, addLess, ht1]
    · obtain ⟨es, e1, e2, e3⟩ := hE16
      have kk : ∀ {α : Type} {enc : α → List Value} {k : Nat} {e : TypeId} {a : Option Addr} {n c : Nat} {l : List α}, Own enc k e w.heap.size w16 a n c l → e ≠ 56 → Own enc k e w.heap.size w18 a n c l := fun ho hne => ho.keep fun g cs _ _ hg => keep18 _ _ _ _ (keep17 _ _ _ _ hg hne) hne
      exact ⟨es, e1, kk e2 (by decide), fun p hp => ⟨(e3 p hp).1, kk (e3 p hp).2 (by decide)⟩⟩
  | false =>
    obtain ⟨g13, hga, hcl⟩ := k_putLess (to := (k1 : Int) + 1) ho B16.size (fun p hp => ⟨(hq p hp).1, (hq p hp).2.1⟩) (fun p hp => (hq p hp).2.2.2) hkq0 q216 hid hI1 (by rw [hqG k0 hkq0]; exact hs0.1.2) (by rw [hqG k0 hkq0]; exact hs0.2.2)
    refine ⟨_, _, _, blk_cell q116 0, ⟨g13, 0, none⟩, hga, by omega, by omega, _, _, _, blk_cell q116 0, ⟨g13, 0, none⟩, hga, by omega, by omega, _, rfl, ?_⟩
    rw [htoN, htoN]
    refine hcl.mono ?_
    rintro _ w17 ⟨rfl, r', hr', ho17, hq17, B17', keep17⟩
    refine ⟨rfl, _, rfl, ?_⟩
    have B17 := B16.trans B17'
    have hgt : (qs.set k0 (r', ⟨qs[k0].2.used, qs[k0].2.ty, qs[k0].2.plus, putS qs[k0].2.less id ((k1 : Int) + 1)⟩))[k1]'(by simpa using hkq1) = if k0 = k1 then (r', ⟨qs[k0].2.used, qs[k0].2.ty, qs[k0].2.plus, putS qs[k0].2.less id ((k1 : Int) + 1)⟩) else qs[k1] := List.getElem_set ..
    have hplus1 : ((qs.set k0 (r', ⟨qs[k0].2.used, qs[k0].2.ty, qs[k0].2.plus, putS qs[k0].2.less id ((k1 : Int) + 1)⟩))[k1]'(by simpa using hkq1)).2.plus = Q.1.nodes[k1].plus := by
      rw [hgt]; split
      · rename_i he; subst he; dsimp only; rw [hqG k0 hkq0]
      · rw [hqG k1 hkq1]
    obtain ⟨g13', hga', hcl2⟩ := k_putPlus (to := (k0 : Int) + 1) (k := k1) ho17 B17.size hq17 (fun p hp => by
        rcases List.mem_or_eq_of_mem_set hp with hp | rfl
        · exact (hq p hp).2.2.1
        · dsimp only; rw [hr']; exact (hq _ (List.getElem_mem hkq0)).2.2.1) (by simpa using hkq1) (keep17 _ _ _ _ q216 (by decide)) hid hI0 (by rw [hplus1]; exact hs1'.1.1) (by rw [hplus1]; exact hs1'.2.1)
    rw [hga] at hga'; cases hga'
    refine hcl2.mono ?_
    rintro _ w18 ⟨rfl, r2, hr2', ho18, hq18, B18', keep18⟩
    have B18 := B17.trans B18'
    have q118 := keep18 _ _ _ _ (keep17 _ _ _ _ q116 (by decide)) (by decide)
    have q318 := keep18 _ _ _ _ (keep17 _ _ _ _ q316 (by decide)) (by decide)
    refine ⟨rfl, _, _, _, _, _, _, blk_cell q118 0, blk_cell q118 1, put_back2 q318 (put2 (G' := ⟨addPlus (addLess Q.1.nodes ((k0 : Int) + 1) id ((k1 : Int) + 1)) ((k1 : Int) + 1) id ((k0 : Int) + 1), Q.1.slots⟩) q318 (by simp [goneG, hc, hi, hnode, hT, hT2, hTe, hQ, hQ2, hk1]) ⟨_, ?_, ho18, hq18⟩ ?_ B18)⟩
    · rw [List.map_set, List.map_set, hqs]
      have hadd : addLess Q.1.nodes ((k0 : Int) + 1) id ((k1 : Int) + 1) = Q.1.nodes.set k0 ⟨qs[k0].2.used, qs[k0].2.ty, qs[k0].2.plus, putS qs[k0].2.less id ((k1 : Int) + 1)⟩ := by
        rw [addLess, hno0, ht0, hqG k0 hkq0]
      have hx : ((qs.set k0 (r', ⟨qs[k0].2.used, qs[k0].2.ty, qs[k0].2.plus, putS qs[k0].2.less id ((k1 : Int) + 1)⟩))[k1]'(by simpa using hkq1)).2 = node (addLess Q.1.nodes ((k0 : Int) + 1) id ((k1 : Int) + 1)) ((k1 : Int) + 1) := by
        rw [hadd, node_eq (by simpa using hk1l), hgt, List.getElem_set]
        split
        · rfl
        · exact hqG k1 hkq1
      rw [hx, ← hadd, addPlus, ht1]
    · obtain ⟨es, e1, e2, e3⟩ := hE16
      have kk : ∀ {α : Type} {enc : α → List Value} {k : Nat} {e : TypeId} {a : Option Addr} {n c : Nat} {l : List α}, Own enc k e w.heap.size w16 a n c l → e ≠ 56 → Own enc k e w.heap.size w18 a n c l := fun ho hne => ho.keep fun g cs _ _ hg => keep18 _ _ _ _ (keep17 _ _ _ _ hg hne) hne
      exact ⟨es, e1, kk e2 (by decide), fun p hp => ⟨(e3 p hp).1, kk (e3 p hp).2 (by decide)⟩⟩
end
end Go.Eng
namespace Go.Eng
open Go Go.RowKit Go.Proofs
set_option maxRecDepth 10000
theorem rng_with2e {t : List Int} {id : Int} (h : Rng t) (hid : 0 ≤ id ∧ id < 18446744073709551616) : Rng (with2e t id).1 := by
  intro x hx
  unfold with2e at hx
  split at hx
  · simp at hx
  · split at hx
    · simp at hx
    · split at hx
      · simp at hx
      · simp only [with2] at hx
        split at hx
        · exact h x hx
        · rcases List.mem_append.1 hx with hx | hx
          · exact h x (List.mem_of_mem_take hx)
          · rcases List.mem_cons.1 hx with rfl | hx
            · exact hid
            · exact h x (List.mem_of_mem_drop hx)
theorem rng_without2e {t : List Int} {id : Int} (h : Rng t) : Rng (without2e t id).1 := by
  intro x hx
  unfold without2e at hx
  split at hx
  · simp at hx
  · split at hx
    · simp at hx
    · simp only [without2] at hx
      rcases List.mem_append.1 hx with hx | hx
      · exact h x (List.mem_of_mem_take hx)
      · exact h x (List.mem_of_mem_drop hx)
section
variable {w : World} {a sa : Option Addr} {n c sn sc : Nat} {G : PG}
theorem k_gPlus (h : Grf w a n c sa sn sc G) (hs : SmallG G) {m id : Int} (hm : I64 m) (hid : 0 ≤ id ∧ id < 18446744073709551616) :
    Cl Tryz.prog 14 #[.agg #[.slice a n c, .slice sa sn sc], .int .i64 m, .int .u64 id] w (GrfD3 w (goneG with2e G m id true)) := by
  refine c14 _ _ _ _ _ _ _ _ ?_
  rintro _ w1 rfl h1 _ w2 rfl h2
  have q1 : w2.heap[w.heap.size]? = some (.cells #[.slice a n c, .slice sa sn sc] 27) := by rw [h2, h1]; exact blk_alloc (blk_new _)
  have q2 : w2.heap[w1.heap.size]? = some (.cells #[.slice none 0 0, .slice none 0 0] 27) := by rw [h2]; exact blk_new _
  have z1 : w1.heap.size = w.heap.size + 1 := by rw [h1, size_alloc]
  have B2 : Below w.heap.size w w2 := by rw [h2, h1]; exact (alloc_below w _).alloc (by rw [size_alloc]; omega) _
  clear h1 h2
  have hw1 : w.heap.size ≤ w1.heap.size := by omega
  refine ⟨_, _, _, _, _, _, blk_cell q1 0, blk_cell q1 1, (k_ggone (f := 25) (cf := []) (turn := with2e) (h.below B2) hs hm hid true (fun W xa xn xc t ht => k_tWith ht id) (fun t ht => rng_with2e ht hid)).mono ?_⟩
  rintro _ w3 ⟨a5, n5, c5, sa5, sn5, sc5, rfl, h1, h2, B3'⟩
  have B3 := B2.trans (B3'.mono B2.size)
  have q23 := blk_below q2 B3' (blk_lt q2)
  refine ⟨_, _, _, _, _, _, _, _, rfl, put_back2 q23 fun W' hW' hq' => ?_⟩
  have qm := blk_set q23 0 (.slice a5 n5 c5)
  rw [hW']
  exact grfD3 rfl (((h1.mono B2.size).farB q23 (by decide) (by decide) (by decide) _).farB qm (by decide) (by decide) (by decide) _) (((h2.mono B2.size).farB q23 (by decide) (by decide) _).farB qm (by decide) (by decide) _) ((B3.setCell hw1 _).setCell hw1 _)
theorem k_gLess (h : Grf w a n c sa sn sc G) (hs : SmallG G) {m id : Int} (hm : I64 m) (hid : 0 ≤ id ∧ id < 18446744073709551616) :
    Cl Tryz.prog 15 #[.agg #[.slice a n c, .slice sa sn sc], .int .i64 m, .int .u64 id] w (GrfD3 w (goneG without2e G m id false)) := by
  refine c15 _ _ _ _ _ _ _ _ ?_
  rintro _ w1 rfl h1 _ w2 rfl h2
  have q1 : w2.heap[w.heap.size]? = some (.cells #[.slice a n c, .slice sa sn sc] 27) := by rw [h2, h1]; exact blk_alloc (blk_new _)
  have q2 : w2.heap[w1.heap.size]? = some (.cells #[.slice none 0 0, .slice none 0 0] 27) := by rw [h2]; exact blk_new _
  have z1 : w1.heap.size = w.heap.size + 1 := by rw [h1, size_alloc]
  have B2 : Below w.heap.size w w2 := by rw [h2, h1]; exact (alloc_below w _).alloc (by rw [size_alloc]; omega) _
  clear h1 h2
  have hw1 : w.heap.size ≤ w1.heap.size := by omega
  refine ⟨_, _, _, _, _, _, blk_cell q1 0, blk_cell q1 1, (k_ggone (f := 54) (cf := []) (turn := without2e) (h.below B2) hs hm hid false (fun W xa xn xc t ht => k_tWithout ht id) (fun t ht => rng_without2e ht)).mono ?_⟩
  rintro _ w3 ⟨a5, n5, c5, sa5, sn5, sc5, rfl, h1, h2, B3'⟩
  have B3 := B2.trans (B3'.mono B2.size)
  have q23 := blk_below q2 B3' (blk_lt q2)
  refine ⟨_, _, _, _, _, _, _, _, rfl, put_back2 q23 fun W' hW' hq' => ?_⟩
  have qm := blk_set q23 0 (.slice a5 n5 c5)
  rw [hW']
  exact grfD3 rfl (((h1.mono B2.size).farB q23 (by decide) (by decide) (by decide) _).farB qm (by decide) (by decide) (by decide) _) (((h2.mono B2.size).farB q23 (by decide) (by decide) _).farB qm (by decide) (by decide) _) ((B3.setCell hw1 _).setCell hw1 _)
/-- A new graph. -/
def newG : PG := ⟨[node1], (putL newL [] 1).1⟩
theorem k_gNew : Cl Tryz.prog 34 #[] w (fun v w' => ∃ a n c sa sn sc, v = .agg #[.slice a n c, .slice sa sn sc] ∧ DNodes w.heap.size w' a n c newG.nodes ∧ DEnts w.heap.size w' sa sn sc newG.slots ∧ Below w.heap.size w w') := by
  refine c34 ?_
  rintro _ w1 rfl h1
  have q1 : w1.heap[w.heap.size]? = some (.cells #[.slice none 0 0, .slice none 0 0] 27) := by rw [h1]; exact blk_new _
  have B1 : Below w.heap.size w w1 := by rw [h1]; exact alloc_below _ _
  clear h1
  refine k_lNew.mono ?_
  rintro _ w2 ⟨a2, n2, c2, rfl, hd2, B2'⟩
  have B2 := B1.trans (B2'.mono B1.size)
  have q2 := blk_below q1 B2' (blk_lt q1)
  have hn2 := hd2.len
  refine ⟨_, _, _, rfl, (k_lPut hd2.ents (by rw [hn2]; simp [newL]) Row.nil' (fun x hx => by simp at hx) (by simp [I64])).mono ?_⟩
  rintro _ w3 ⟨a3, n3, c3, rfl, hd3, B3'⟩
  have B3 := B2.trans (B3'.mono B2.size)
  have q3 := blk_below q2 B3' (blk_lt q2)
  refine ⟨_, _, _, _, rfl, ?_⟩
  rintro _ w4 rfl h4
  have r4 : w4.heap[w3.heap.size]? = some (.cells #[.slice none 0 0] 25) := by rw [h4]; exact blk_new _
  have B4' : Below w3.heap.size w3 w4 := by rw [h4]; exact alloc_below _ _
  clear h4
  refine ⟨blk_some r4 (by decide), blk_free r4 _, ?_⟩
  rintro w5 h5
  have r5 : w5.heap[w3.heap.size]? = some (.cells #[.slice a3 n3 c3] 25) := by rw [h5]; exact blk_set r4 0 _
  have B5' : Below w3.heap.size w3 w5 := by rw [h5]; exact B4'.setCell (Nat.le_refl _) _
  clear h5 r4 B4'
  rintro _ w6 rfl h6
  have s6 : Own encNode 4 56 w3.heap.size w6 (some ⟨w5.heap.size, 0, none⟩) 1 1 [(⟨true, ⟨none, 0, 0⟩, ⟨none, 0, 0⟩, ⟨none, 0, 0⟩⟩ : RNode)] := by
    rw [h6]; exact (Own.new enNode.len w5 [(⟨true, ⟨none, 0, 0⟩, ⟨none, 0, 0⟩, ⟨none, 0, 0⟩⟩ : RNode)] B5'.size (by simp only [maxLen]; decide))
  have B6' : Below w3.heap.size w3 w6 := by rw [h6]; exact B5'.alloc B5'.size _
  have B56 : Below w5.heap.size w5 w6 := by rw [h6]; exact alloc_below _ _
  clear h6
  have B6 := B3.trans (B6'.mono B3.size)
  have q6 := blk_below q3 B6' (blk_lt q3)
  have r6 := blk_below r5 B56 (blk_lt r5)
  have hd6 := (hd3.below B6').mono (lo' := w.heap.size) B2.size
  have hn6 : DNodes w.heap.size w6 (some ⟨w5.heap.size, 0, none⟩) 1 1 newG.nodes := by
    refine ⟨[(⟨true, ⟨none, 0, 0⟩, ⟨none, 0, 0⟩, ⟨none, 0, 0⟩⟩, node1)], rfl, s6.mono B3.size, fun p hp => ?_⟩
    simp only [List.mem_singleton] at hp
    subst hp
    exact ⟨⟨rfl, fun x hx => by simp [node1] at hx, fun s hs => by simp [node1] at hs⟩, Own.nil, Own.nil, Own.nil⟩
  refine ⟨_, _, _, blk_cell r6 0, put_back2 q6 fun W' hW' hq' => ?_⟩
  have qm := blk_set q6 0 (.slice (some ⟨w5.heap.size, 0, none⟩) 1 1)
  refine ⟨_, _, _, _, _, _, rfl, ?_, ?_, ?_⟩
  · rw [hW']; exact (hn6.farB q6 (by decide) (by decide) (by decide) _).farB qm (by decide) (by decide) (by decide) _
  · rw [hW']; exact (hd6.farB q6 (by decide) (by decide) _).farB qm (by decide) (by decide) _
  · rw [hW']; exact (B6.setCell (Nat.le_refl _) _).setCell (Nat.le_refl _) _
end
end Go.Eng
namespace Go.Eng
open Go Go.RowKit Go.Proofs
set_option maxRecDepth 10000
def awayN (m : Int) (x : Node) : Node := ⟨x.used, x.ty, awayS x.plus m, awayS x.less m⟩
/-- Nodes but those behind the last that's used. -/
def trimN (l : List Node) : List Node := (l.reverse.dropWhile fun x => !x.used).reverse
/-- A graph, a node being dropped; the error. -/
def dropG (G : PG) (n : Int) : PG × Int :=
  if checkG G = false then (⟨[], []⟩, 220)
  else if isN G.nodes n = false then (⟨[], []⟩, 2)
  else if n = 1 then (⟨[], []⟩, 2)
  else if (dropL G.slots (node G.nodes n).ty).2 ≠ 0 then (⟨[], []⟩, (dropL G.slots (node G.nodes n).ty).2)
  else (⟨trimN ((G.nodes.set (n - 1).toNat blankN).map (awayN n)), (dropL G.slots (node G.nodes n).ty).1⟩, 0)
theorem trimN_eq {l : List Node} {k : Nat} (h1 : 0 < k) (h2 : k ≤ l.length) (hu : (l[k - 1]'(by omega)).used = true) (hno : ∀ j (hj : j < l.length), k ≤ j → l[j].used = false) : trimN l = l.take k := by
  have e : l = l.take k ++ l.drop k := (List.take_append_drop k l).symm
  have h3 : ∀ x ∈ (l.drop k).reverse, (!x.used) = true := by
    intro x hx
    rw [List.mem_reverse] at hx
    obtain ⟨j, hj, rfl⟩ := List.mem_iff_getElem.1 hx
    simp only [List.length_drop] at hj
    simp [hno (k + j) (by omega) (by omega)]
  have h4 : (l.take k).reverse = l[k - 1]'(by omega) :: (l.take (k - 1)).reverse := by
    have := take_one (l := l) (k := k - 1) (by omega)
    rw [show k - 1 + 1 = k by omega] at this
    rw [this]; simp
  unfold trimN
  conv => lhs; rw [e]
  rw [List.reverse_append, List.dropWhile_append_of_pos h3, h4, List.dropWhile_cons, if_neg (by rw [hu]; simp), ← h4, List.reverse_reverse]
theorem Own.keepG {α : Type} {enc : α → List Value} {k : Nat} {e : TypeId} {lo : Nat} {w w' : World} {a : Option Addr} {n c : Nat} {l : List α} (h : Own enc k e lo w a n c l) {r : Option Nat} (hg : w.grownBy w' r) (hne : ∀ p, a = some p → r ≠ some p.block) : Own enc k e lo w' a n c l :=
  h.keep fun g cs ha _ hgb => (hg.block g (blk_lt hgb) (fun he => hne _ ha he.symm)).trans hgb
theorem sblks_of {l l' : List RNode} (h : l.map sblk = l'.map sblk) : sblks l = sblks l' := by
  rw [sblks, sblks, List.flatMap_def, List.flatMap_def, h]
theorem sblks_nodup {l : List RNode} : (sblks l).Nodup ↔ (∀ r ∈ l, (sblk r).Nodup) ∧ l.Pairwise fun r s => ∀ x ∈ sblk r, ∀ y ∈ sblk s, x ≠ y := by
  unfold sblks
  rw [List.nodup_iff_pairwise_ne, List.pairwise_flatMap]
  simp only [List.nodup_iff_pairwise_ne]
theorem sblks_disj {l : List RNode} (h : (sblks l).Nodup) {i j : Nat} (hi : i < l.length) (hj : j < l.length) (hij : i ≠ j) : ∀ x ∈ sblk l[i], ∀ y ∈ sblk l[j], x ≠ y := by
  have := List.pairwise_iff_getElem.1 (sblks_nodup.1 h).2
  intro x hx y hy
  rcases Nat.lt_or_gt_of_ne hij with h1 | h1
  · exact this i j hi hj h1 x hx y hy
  · exact (this j i hj hi h1 y hy x hx).symm
theorem sblk_plus {r : RNode} {p : Addr} (h : r.plus.a = some p) : p.block ∈ sblk r := by simp [sblk, h]
theorem sblk_less {r : RNode} {p : Addr} (h : r.less.a = some p) : p.block ∈ sblk r := by simp [sblk, h]
theorem sblk_pl {r : RNode} (h : (sblk r).Nodup) {p q : Addr} (hp : r.plus.a = some p) (hq : r.less.a = some q) : p.block ≠ q.block := by
  simp only [sblk, hp, hq, Option.map_some, Option.toList_some, List.singleton_append, List.nodup_cons, List.mem_singleton] at h
  exact h.1
/-- A graph in memory of its own, and an error. -/
def GrfD2 (w : World) (p : PG × Int) (v : Value) (w' : World) : Prop :=
  ∃ a n c sa sn sc, v = .tuple #[.agg #[.slice a n c, .slice sa sn sc], .int .i64 p.2] ∧ DNodes w.heap.size w' a n c p.1.nodes ∧ DEnts w.heap.size w' sa sn sc p.1.slots ∧ Below w.heap.size w w'
theorem grfD2 {w w' : World} {p : PG × Int} {G : PG} {e : Int} {a sa : Option Addr} {n c sn sc : Nat} (hp : p = (G, e)) (h1 : DNodes w.heap.size w' a n c G.nodes) (h2 : DEnts w.heap.size w' sa sn sc G.slots) (hB : Below w.heap.size w w') :
    GrfD2 w p (.tuple #[.agg #[.slice a n c, .slice sa sn sc], .int .i64 e]) w' := by
  subst hp; exact ⟨_, _, _, _, _, _, rfl, h1, h2, hB⟩
theorem dropL_small {l : List Entry} {t : List Int} (h : (dropL l t).2 = 0) : (dropL l t).1.length = l.length ∧ ∀ e ∈ (dropL l t).1, e.ty.length ≤ 12 := by
  unfold dropL at h ⊢
  cases h1 : checkL l
  · simp [h1] at h
  by_cases h2 : place l t < 0
  · simp [h1, h2] at h
  simp only [h2, Bool.true_eq_false, if_false]
  refine ⟨by simp, fun e he => ?_⟩
  rcases List.mem_or_eq_of_mem_set he with he | rfl
  · exact checkL_all12 h1 e he
  · simp
section
variable {w : World} {a sa : Option Addr} {n c sn sc : Nat} {G : PG}
set_option maxHeartbeats 2000000
theorem k_gDrop (h : Grf w a n c sa sn sc G) (hs : SmallG G) {m : Int} (hm : I64 m) :
    Cl Tryz.prog 17 #[.agg #[.slice a n c, .slice sa sn sc], .int .i64 m] w (GrfD2 w (dropG G m)) := by
  refine c17 _ _ _ _ _ _ _ ?_
  have hs1 := hs.n.1; have hs2 := hs.s
  have hnl := h.nodes.len; have hsl := h.slots.len
  rintro _ w1 rfl h1 _ w2 rfl h2 _ w3 rfl h3
  have q1 : w3.heap[w.heap.size]? = some (.cells #[.slice a n c, .slice sa sn sc] 27) := by rw [h3, h2, h1]; exact blk_alloc (blk_alloc (blk_new _))
  have q2 : w3.heap[w1.heap.size]? = some (.cells #[.int .i64 m] 3) := by rw [h3, h2]; exact blk_alloc (blk_new _)
  have q3 : w3.heap[w2.heap.size]? = some (.cells #[.slice none 0 0, .slice none 0 0] 27) := by rw [h3]; exact blk_new _
  have z1 : w1.heap.size = w.heap.size + 1 := by rw [h1, size_alloc]
  have z2 : w2.heap.size = w1.heap.size + 1 := by rw [h2, size_alloc]
  have B3 : Below w.heap.size w w3 := by rw [h3, h2, h1]; exact ((alloc_below w _).alloc (by rw [size_alloc]; omega) _).alloc (by rw [size_alloc, size_alloc]; omega) _
  clear h1 h2 h3
  have hw2 : w.heap.size ≤ w2.heap.size := by omega
  have put2 : ∀ {W : World} {G' : PG} {e : Int} {a' : Option Addr} {n' c' : Nat} {sa' : Option Addr} {sn' sc' : Nat} {v0 v1 : Value}, W.heap[w2.heap.size]? = some (.cells #[v0, v1] 27) → dropG G m = (G', e) → DNodes w.heap.size W a' n' c' G'.nodes → DEnts w.heap.size W sa' sn' sc' G'.slots → Below w.heap.size w W →
      ∀ W', W' = (W.setCell ⟨w2.heap.size, 0, none⟩ (.slice a' n' c')).setCell ⟨w2.heap.size, 1, none⟩ (.slice sa' sn' sc') → W'.heap[w2.heap.size]? = some (.cells #[.slice a' n' c', .slice sa' sn' sc'] 27) →
      GrfD2 w (dropG G m) (.tuple #[.agg #[.slice a' n' c', .slice sa' sn' sc'], .int .i64 e]) W' := by
    intro W G' e a' n' c' sa' sn' sc' v0 v1 hq hp hn' he hB W' hW' hq'
    have qm := blk_set hq 0 (.slice a' n' c')
    rw [hW']
    exact grfD2 hp ((hn'.farB hq (by decide) (by decide) (by decide) _).farB qm (by decide) (by decide) (by decide) _) ((he.farB hq (by decide) (by decide) _).farB qm (by decide) (by decide) _) ((hB.setCell hw2 _).setCell hw2 _)
  refine ⟨_, _, _, _, _, _, blk_cell q1 0, blk_cell q1 1, (k_gCheck (h.below B3) hs).gives fun w4 B4' => ⟨_, rfl, ?_⟩⟩
  have B4 := B3.trans (B4'.mono B3.size)
  have q14 := blk_below q1 B4' (blk_lt q1)
  have q24 := blk_below q2 B4' (blk_lt q2)
  have q34 := blk_below q3 B4' (blk_lt q3)
  cases hc : checkG G with
  | false => exact put_back2 q34 (put2 (G' := ⟨[], []⟩) q34 (by simp [dropG, hc]) DNodes.nil DEnts.nil B4)
  | true =>
  have hC := (checkG_iff G).1 hc
  refine ⟨_, _, _, _, _, _, blk_cell q14 0, blk_cell q14 1, _, blk_cell q24 0, (k_gis (h.nodes.below B4) m hm).gives fun w6 B6' => ⟨_, rfl, ?_⟩⟩
  have B6 := B4.trans (B6'.mono B4.size)
  have q16 := blk_below q14 B6' (blk_lt q14)
  have q26 := blk_below q24 B6' (blk_lt q24)
  have q36 := blk_below q34 B6' (blk_lt q34)
  refine cnd (fun g => ?_) fun g => ?_
  · have : isN G.nodes m = false := by simpa using g
    exact put_back2 q36 (put2 (G' := ⟨[], []⟩) q36 (by simp [dropG, hc, this]) DNodes.nil DEnts.nil B6)
  have hi : isN G.nodes m = true := by simpa using g
  clear g
  refine ⟨_, blk_cell q26 0, cnd (fun g => ?_) fun g => ?_⟩
  · have : m = 1 := by simpa using g
    exact put_back2 q36 (put2 (G' := ⟨[], []⟩) q36 (by simp [dropG, hc, hi, this]) DNodes.nil DEnts.nil B6)
  have hm1 : m ≠ 1 := by simpa using g
  clear g
  obtain ⟨k0, rfl, hk0⟩ := isN_iff hi
  have hnode : node G.nodes ((k0 : Int) + 1) = G.nodes[k0] := node_eq hk0
  have hk00 : 0 < k0 := by omega
  have hp2 : IntKind.i64.wrap ((k0 : Int) + 1 - 1) = (k0 : Int) := pre2 (by omega)
  obtain ⟨ps, hrow, hps, hpG⟩ := h.nodes.pairs
  have hpl : ps.length = n := by rw [hnl, ← hpG]; simp
  have hpk : ps[k0].2 = G.nodes[k0] := by
    have : (ps.map (·.2))[k0]'(by simp; omega) = G.nodes[k0] := by simp only [hpG]
    simpa using this
  have hX := hps _ (List.getElem_mem (show k0 < ps.length by omega))
  rw [hpk] at hX
  have e0 : (ps.map (·.1))[k0]'(by simp; omega) = ps[k0].1 := by simp
  have htoN : ((k0 : Nat) : Int).toNat = k0 := Int.toNat_natCast k0
  rintro _ rfl
  have q19 := blk_drew q16
  have q29 := blk_drew q26
  have q39 := blk_drew q36
  have B9 := B6.drew
  clear q16 q26 q36 B6
  generalize w6.drew = w9 at q19 q29 q39 B9 ⊢
  clear B6' q14 q24 q34 B4 B4' q1 q2 q3 B3
  have hDL : ∀ W, Below w.heap.size w W → Cl Tryz.prog 61 #[.agg #[.slice sa sn sc], .slice ps[k0].1.ty.a ps[k0].1.ty.n ps[k0].1.ty.c] W (LkE W (dropL G.slots G.nodes[k0].ty)) := fun W hW => k_lDrop (h.slots.below hW) (by omega) (hX.ty.below hW) hX.rng.1
  -- either order comes to this
  refine ⟨?_, ?_⟩
  refine ⟨_, _, _, blk_cell q19 1, _, _, _, blk_cell q19 0, _, blk_cell q29 0, ?_⟩
  rw [hp2]
  obtain ⟨p9, hp9, hb1, hb2, ta, tn, tc, htc, rfl, rfl, rfl⟩ := (hrow.below B9).nodeTy (i := k0) (K := fun x y z => x = ps[k0].1.ty.a ∧ y = ps[k0].1.ty.n ∧ z = ps[k0].1.ty.c) (by omega) (fun hl => by rw [e0]; exact ⟨rfl, rfl, rfl⟩)
  refine ⟨p9, hp9, hb1, hb2, _, _, _, htc, (hDL _ B9).mono ?_⟩
  rintro _ w10 ⟨a13, n13, c13, rfl, hd10, B10'⟩
  refine ⟨_, _, _, _, rfl, ?_⟩
  rintro _ w11 rfl h11
  have r11 : w11.heap[w10.heap.size]? = some (.cells #[.slice none 0 0] 25) := by rw [h11]; exact blk_new _
  have B11' : Below w9.heap.size w9 w11 := B10'.trans (by rw [h11]; exact (alloc_below w10 _).mono B10'.size)
  have hd11 : DEnts w.heap.size w11 a13 n13 c13 (dropL G.slots G.nodes[k0].ty).1 := by rw [h11]; exact (hd10.below (alloc_below _ _)).mono B9.size
  have hb4 : w9.heap.size ≤ w10.heap.size := B10'.size
  refine ⟨cell_below htc B11', blk_cell (blk_below q29 B11' (blk_lt q29)) 0, blk_cell (blk_below q19 B11' (blk_lt q19)) 0, blk_cell (blk_below q19 B11' (blk_lt q19)) 1, ?_⟩
  clear h11 hd10 htc B10'
  generalize w10.heap.size = z4 at r11 hb4 ⊢
  clear w10
  rotate_left
  refine ⟨_, _, _, blk_cell q19 1, _, _, _, blk_cell q19 0, _, blk_cell q29 0, ?_⟩
  rw [hp2]
  obtain ⟨p9, hp9, hb1, hb2, ta, tn, tc, htc, rfl, rfl, rfl⟩ := (hrow.below B9).nodeTy (i := k0) (K := fun x y z => x = ps[k0].1.ty.a ∧ y = ps[k0].1.ty.n ∧ z = ps[k0].1.ty.c) (by omega) (fun hl => by rw [e0]; exact ⟨rfl, rfl, rfl⟩)
  refine ⟨p9, hp9, hb1, hb2, _, _, _, htc, ?_⟩
  rintro _ w28 rfl h28
  have r28 : w28.heap[w9.heap.size]? = some (.cells #[.slice none 0 0] 25) := by rw [h28]; exact blk_new _
  have B28' : Below w9.heap.size w9 w28 := by rw [h28]; exact alloc_below _ _
  clear h28
  have B28 := B9.trans (B28'.mono B9.size)
  refine ⟨cell_below htc B28', blk_cell (blk_below q29 B28' (blk_lt q29)) 0, blk_cell (blk_below q19 B28' (blk_lt q19)) 0, blk_cell (blk_below q19 B28' (blk_lt q19)) 1, (hDL _ B28).mono ?_⟩
  rintro _ w11 ⟨a13, n13, c13, rfl, hd11', B29'⟩
  refine ⟨_, _, _, _, rfl, ?_⟩
  have r11 := blk_below r28 B29' (blk_lt r28)
  have B11' : Below w9.heap.size w9 w11 := B28'.trans (B29'.mono B28'.size)
  have hd11 : DEnts w.heap.size w11 a13 n13 c13 (dropL G.slots G.nodes[k0].ty).1 := hd11'.mono B28.size
  have hb4 : w9.heap.size ≤ w9.heap.size := Nat.le_refl _
  clear hd11' B29' r28 B28' B28 htc
  generalize hz4 : w9.heap.size = z4 at r11 ⊢
  rw [hz4] at hb4
  have hb4 : w9.heap.size ≤ z4 := by omega
  clear hz4
  all_goals (
    clear hp9 hb1 hb2 p9
    have B11 := B9.trans (B11'.mono B9.size)
    have q111 := blk_below q19 B11' (blk_lt q19)
    have q211 := blk_below q29 B11' (blk_lt q29)
    have q311 := blk_below q39 B11' (blk_lt q39)
    have hq3lt := blk_lt q39
    have hw9 := B9.size
    refine ⟨blk_some r11 (by decide), blk_free r11 _, ?_⟩
    rintro w12 h12
    have r12 : w12.heap[z4]? = some (.cells #[.slice a13 n13 c13] 25) := by rw [h12]; exact blk_set r11 0 _
    have q112 : w12.heap[w.heap.size]? = some (.cells #[.slice a n c, .slice sa sn sc] 27) := by rw [h12]; exact blk_far q111 (by show w.heap.size ≠ z4; have := blk_lt q19; omega) _
    have q212 : w12.heap[w1.heap.size]? = some (.cells #[.int .i64 ((k0 : Int) + 1)] 3) := by rw [h12]; exact blk_far q211 (by show w1.heap.size ≠ z4; have := blk_lt q29; omega) _
    have q312 : w12.heap[w2.heap.size]? = some (.cells #[.slice none 0 0, .slice none 0 0] 27) := by rw [h12]; exact blk_far q311 (by show w2.heap.size ≠ z4; omega) _
    have B12 : Below w.heap.size w w12 := by rw [h12]; exact B11.setCell (by show w.heap.size ≤ z4; omega) _
    have hd12 : DEnts w.heap.size w12 a13 n13 c13 (dropL G.slots G.nodes[k0].ty).1 := by rw [h12]; exact hd11.farB r11 (by decide) (by decide) _
    clear h12 r11 q111 q211 q311 B11 B11' hd11
    refine cnd (fun g => ?_) fun g => ?_
    · have hne : (dropL G.slots G.nodes[k0].ty).2 ≠ 0 := by intro h0; rw [h0] at g; simp at g
      exact put_back2 q312 (put2 (G' := ⟨[], []⟩) q312 (by simp [dropG, hc, hi, hm1, hnode, hne]) DNodes.nil DEnts.nil B12)
    have hpe : (dropL G.slots G.nodes[k0].ty).2 = 0 := by simpa using g
    clear g
    obtain ⟨hps1, hps2⟩ := dropL_small hpe
    refine ⟨_, _, _, blk_cell r12 0, blk_some q112 (j := 1) (by simp), blk_free q112 1, ?_⟩
    rintro w14 h14
    have q114 : w14.heap[w.heap.size]? = some (.cells #[.slice a n c, .slice a13 n13 c13] 27) := by rw [h14]; exact blk_set q112 1 _
    have q214 : w14.heap[w1.heap.size]? = some (.cells #[.int .i64 ((k0 : Int) + 1)] 3) := by rw [h14]; exact blk_far q212 (by show w1.heap.size ≠ w.heap.size; omega) _
    have q314 : w14.heap[w2.heap.size]? = some (.cells #[.slice none 0 0, .slice none 0 0] 27) := by rw [h14]; exact blk_far q312 (by show w2.heap.size ≠ w.heap.size; omega) _
    have B14 : Below w.heap.size w w14 := by rw [h14]; exact B12.setCell (Nat.le_refl _) _
    have hd14 : DEnts w.heap.size w14 a13 n13 c13 (dropL G.slots G.nodes[k0].ty).1 := by rw [h14]; exact hd12.farB q112 (by decide) (by decide) _
    clear h14 q112 q212 q312 B12 hd12 r12
    refine ⟨_, _, _, _, _, _, blk_cell q114 0, blk_cell q114 1, (k_gown (G := ⟨G.nodes, (dropL G.slots G.nodes[k0].ty).1⟩) ⟨h.nodes.below B14, hd14.ents⟩ ⟨hs.n, by show (dropL G.slots G.nodes[k0].ty).1.length ≤ _; omega, fun e he => by have := hps2 e he; omega⟩).mono ?_⟩
    rintro _ w15 ⟨g15, g15', rfl, hN, hEn, B15'⟩
    have B15 := B14.trans (B15'.mono B14.size)
    have q115 := blk_below q114 B15' (blk_lt q114)
    have q215 := blk_below q214 B15' (blk_lt q214)
    have q315 := blk_below q314 B15' (blk_lt q314)
    refine ⟨_, _, _, _, _, _, rfl, blk_some q115 (by simp), blk_free q115 _, blk_some q115 (j := 1) (by simp), blk_free q115 1, ?_⟩
    rintro w16 h16
    have qm := blk_set q115 0 (.slice (some ⟨g15, 0, none⟩) n n)
    have q116 : w16.heap[w.heap.size]? = some (.cells #[.slice (some ⟨g15, 0, none⟩) n n, .slice (some ⟨g15', 0, none⟩) n13 n13] 27) := by rw [h16]; exact blk_set qm 1 _
    have q216 : w16.heap[w1.heap.size]? = some (.cells #[.int .i64 ((k0 : Int) + 1)] 3) := by
      rw [h16]; exact blk_far (blk_far q215 (by show w1.heap.size ≠ w.heap.size; omega) _) (by show w1.heap.size ≠ w.heap.size; omega) _
    have q316 : w16.heap[w2.heap.size]? = some (.cells #[.slice none 0 0, .slice none 0 0] 27) := by
      rw [h16]; exact blk_far (blk_far q315 (by show w2.heap.size ≠ w.heap.size; omega) _) (by show w2.heap.size ≠ w.heap.size; omega) _
    have B16 : Below w.heap.size w w16 := by rw [h16]; exact (B15.setCell (Nat.le_refl _) _).setCell (Nat.le_refl _) _
    have hN16 : DNodesT w.heap.size w16 (some ⟨g15, 0, none⟩) n n G.nodes := by
      rw [h16]; exact ((hN.mono B14.size).farB q115 (by decide) (by decide) (by decide) _).farB qm (by decide) (by decide) (by decide) _
    have hE16 : DEnts w.heap.size w16 (some ⟨g15', 0, none⟩) n13 n13 (dropL G.slots G.nodes[k0].ty).1 := by
      rw [h16]; exact ((hEn.mono B14.size).farB q115 (by decide) (by decide) _).farB qm (by decide) (by decide) _
    clear h16 qm q115 q215 q315 hN hEn B15 B15' q114 q214 q314 B14 hd14
    obtain ⟨L0, hL0, oL0, hLd0, hnd0⟩ := hN16
    have hL0l : L0.length = n := by have := oL0.len; simpa using this.symm
    refine ⟨_, _, _, blk_cell q116 0, _, blk_cell q216 0, ?_⟩
    rw [hp2]
    obtain ⟨gb, ha, hgl, hcells, hput, hgrw⟩ := oL0.put enNode (i := k0) (by omega) blankRN
    cases ha
    have c0' := hcells 0 (by decide)
    rw [Addr.add_zero'] at c0'
    refine ⟨_, rfl, by omega, by omega, ?_⟩
    rw [htoN]
    refine ⟨c0'.1, c0'.2, (hcells 1 (by decide)).1, (hcells 1 (by decide)).2, (hcells 2 (by decide)).1, (hcells 2 (by decide)).2, (hcells 3 (by decide)).1, (hcells 3 (by decide)).2, ?_⟩
    rintro w17 h17
    have h17' : w17 = wrs w16 (Addr.add ⟨g15, 0, none⟩ (k0 * 4)) 0 (encNode blankRN) := h17
    rw [← h17'] at hput hgrw
    have hgrw' : w16.grownBy w17 ((some (⟨g15, 0, none⟩ : Addr)).map (·.block)) := hgrw
    have q117 := oL0.keepBlk hgrw' q116 (.inl (by decide))
    have q217 := oL0.keepBlk hgrw' q216 (.inl (by decide))
    have q317 := oL0.keepBlk hgrw' q316 (.inl (by decide))
    have B17 := B16.trans (oL0.belowOf hgrw' B16.size)
    have hE17 : DEnts w.heap.size w17 (some ⟨g15', 0, none⟩) n13 n13 (dropL G.slots G.nodes[k0].ty).1 := by
      obtain ⟨es, e1, e2, e3⟩ := hE16
      exact ⟨es, e1, oL0.keepOwn hgrw' e2 (by decide), fun p hp => ⟨(e3 p hp).1, oL0.keepOwn hgrw' (e3 p hp).2 (by decide)⟩⟩
    have oL : Own encNode 4 56 w.heap.size w17 (some ⟨g15, 0, none⟩) n n ((L0.set k0 ((blankRN, blankN) : NP)).map (·.1)) := by rw [List.map_set]; exact hput
    have hLd : ∀ p ∈ L0.set k0 ((blankRN, blankN) : NP), NodeSays p.1 p.2 ∧ OwnN w.heap.size w17 p.1 p.2 := by
      intro p hp
      rcases List.mem_or_eq_of_mem_set hp with hp | rfl
      · exact ⟨(hLd0 p hp).1, (hLd0 p hp).2.1.keepBy oL0 hgrw' (by decide) (by decide)⟩
      · exact ⟨says_blankN, own_blankN⟩
    have hnd : (sblks ((L0.set k0 ((blankRN, blankN) : NP)).map (·.1))).Nodup := by rw [List.map_set]; exact (sblks_set _ _ _ rfl).nodup hnd0
    have hLs : (L0.set k0 ((blankRN, blankN) : NP)).map (·.2) = G.nodes.set k0 blankN := by rw [List.map_set, hL0]
    have hLl : (L0.set k0 ((blankRN, blankN) : NP)).length = n := by rw [List.length_set]; exact hL0l
    clear h17 h17' hput hgrw hgrw' q116 q216 q316 B16 hE16 hnd0 hLd0 hcells c0'
    generalize L0.set k0 ((blankRN, blankN) : NP) = L at oL hLd hnd hLs hLl
    clear oL0 hL0 hL0l L0
    generalize hL9 : G.nodes.set k0 blankN = L9 at hLs
    have hL9l : L9.length = n := by rw [← hL9, List.length_set]; omega
    have hL9s : ∀ x ∈ L9, x.plus.length ≤ 1000000 ∧ x.less.length ≤ 1000000 := by
      intro x hx
      rw [← hL9] at hx
      rcases List.mem_or_eq_of_mem_set hx with hx | rfl
      · exact (hs.n.2 x hx).2
      · simp [blankN]
    refine ⟨_, _, _, blk_cell q117 0, ?_⟩
    refine ⟨fun i W => (Below w.heap.size w W ∧ W.heap[w.heap.size]? = some (.cells #[.slice (some ⟨g15, 0, none⟩) n n, .slice (some ⟨g15', 0, none⟩) n13 n13] 27) ∧ W.heap[w1.heap.size]? = some (.cells #[.int .i64 ((k0 : Int) + 1)] 3) ∧ W.heap[w2.heap.size]? = some (.cells #[.slice none 0 0, .slice none 0 0] 27)) ∧
        DEnts w.heap.size W (some ⟨g15', 0, none⟩) n13 n13 (dropL G.slots G.nodes[k0].ty).1 ∧
        ∃ (k : Nat) (qs : List NP), i = k ∧ k ≤ n ∧ qs.map (·.2) = (L9.take k).map (awayN ((k0 : Int) + 1)) ++ L9.drop k ∧ Own encNode 4 56 w.heap.size W (some ⟨g15, 0, none⟩) n n (qs.map (·.1)) ∧ (∀ p ∈ qs, NodeSays p.1 p.2 ∧ OwnN w.heap.size W p.1 p.2) ∧ (sblks (qs.map (·.1))).Nodup, fun i _ => n - i.toNat,
      ⟨⟨B17, q117, q217, q317⟩, hE17, 0, L, rfl, by omega, by simpa using hLs, oL, hLd, hnd⟩, ?_⟩
    rintro _ W _ ⟨⟨hB, qb, qb2, qb3⟩, hE, k, qs, rfl, hk, hsnd, ho, hq, hnd⟩
    have hql : qs.length = n := by have := ho.len; simpa using this.symm
    refine cnd (fun hcc => ?_) fun hcc => ?_
    · have hkm : k < n := by simpa using hcc
      have hkq : k < qs.length := by omega
      have hqk : qs[k].2 = L9[k]'(by omega) := by
        have h1 : (qs.map (·.2))[k]'(by simpa using hkq) = ((L9.take k).map (awayN ((k0 : Int) + 1)) ++ L9.drop k)[k]'(by rw [← hsnd]; simpa using hkq) := by simp only [hsnd]
        rw [List.getElem_append_right (by simp; omega)] at h1
        simp only [List.length_map, List.length_take, List.getElem_drop, List.getElem_map] at h1
        rw [h1]; congr 1; omega
      obtain ⟨hsay, hown⟩ := hq _ (List.getElem_mem hkq)
      have hlk := hL9s _ (List.getElem_mem (show k < L9.length by omega))
      have hnk := (sblks_nodup.1 hnd).1 qs[k].1 (List.mem_map.2 ⟨qs[k], List.getElem_mem hkq, rfl⟩)
      rintro _ rfl
      have qbd := blk_drew qb
      have qb2d := blk_drew qb2
      have qb3d := blk_drew qb3
      have hBd := hB.drew
      have hod := ho.below (Below.refl _ _).drew
      have hownd := hown.below (Below.refl _ _).drew
      have hEd := hE.below (Below.refl _ _).drew
      have hqd : ∀ p ∈ qs, NodeSays p.1 p.2 ∧ OwnN w.heap.size W.drew p.1 p.2 := fun p hp => ⟨(hq p hp).1, (hq p hp).2.below (Below.refl _ _).drew⟩
      generalize W.drew = W9 at qbd qb2d qb3d hBd hod hownd hEd hqd ⊢
      have e0k : (qs.map (·.1))[k]'(by simpa using hkq) = qs[k].1 := by simp
      obtain ⟨gx, _, hgx, hcp, _, _⟩ := hod.fieldB enNode (i := k) (j := 2) hkm (by decide)
      obtain ⟨gy, _, hgy, hcl, _, _⟩ := hod.fieldB enNode (i := k) (j := 3) hkm (by decide)
      cases hgx; cases hgy
      rw [e0k] at hcp hcl
      have hcp' : W9.cell? ((Addr.add ⟨g15, 0, none⟩ (k * 4)).add 2) = some (.slice qs[k].1.plus.a qs[k].1.plus.n qs[k].1.plus.c) := hcp
      have hcl' : W9.cell? ((Addr.add ⟨g15, 0, none⟩ (k * 4)).add 3) = some (.slice qs[k].1.less.a qs[k].1.less.n qs[k].1.less.c) := hcl
      have htk : ((k : Nat) : Int).toNat = k := Int.toNat_natCast k
      have hpl1 := hownd.plus.len
      have hll1 := hownd.less.len
      refine ⟨_, _, _, blk_cell qbd 0, _, _, _, blk_cell qbd 0, _, _, _, blk_cell qbd 0, _, rfl, by omega, by omega, _, _, _, by rw [htk]; exact hcp', _, _, _, blk_cell qbd 0, _, rfl, by omega, by omega, _, _, _, by rw [htk]; exact hcl', ?_⟩
      refine (k_DelSteps (f := 63) (cf := [.pointer (some ⟨w1.heap.size, 0, none⟩)]) (p := fun r => r.2 == (k0 : Int) + 1) hownd.plus hBd.size (by rw [hpl1, hqk]; omega) (fun W2 r hW2 => k_gDrop1 (blk_cell (hownd.plus.keepBlk hW2 qb2d (.inl (by decide))) 0))).mono ?_
      rintro _ w20 ⟨m20, rfl, ho20, hg20⟩
      have q120 := hownd.plus.keepBlk hg20 qbd (.inl (by decide))
      have q220 := hownd.plus.keepBlk hg20 qb2d (.inl (by decide))
      have q320 := hownd.plus.keepBlk hg20 qb3d (.inl (by decide))
      have oN20 := hownd.plus.keepOwn hg20 hod (by decide)
      have oT20 := hownd.plus.keepOwn hg20 hownd.ty (by decide)
      have oLs20 : Own encStp 2 71 w.heap.size w20 qs[k].1.less.a qs[k].1.less.n qs[k].1.less.c qs[k].2.less := hownd.less.keepG hg20 (fun p hp he => by
        cases hpa : qs[k].1.plus.a with
        | none => rw [hpa] at he; cases he
        | some q => rw [hpa] at he; exact sblk_pl hnk hpa hp (by simpa using he))
      have B20 : Below w.heap.size w w20 := hBd.trans (hownd.plus.belowOf hg20 hBd.size)
      obtain ⟨gy, _, hgy, hcl2, _, _⟩ := oN20.fieldB enNode (i := k) (j := 3) hkm (by decide)
      cases hgy
      rw [e0k] at hcl2
      refine ⟨_, _, _, rfl, by rw [htk]; exact hcl2, blk_cell q120 0, blk_cell q120 0, blk_cell q120 0, ?_⟩
      refine (k_DelSteps (f := 63) (cf := [.pointer (some ⟨w1.heap.size, 0, none⟩)]) (p := fun r => r.2 == (k0 : Int) + 1) oLs20 B20.size (by rw [hll1, hqk]; omega) (fun W2 r hW2 => k_gDrop1 (blk_cell (oLs20.keepBlk hW2 q220 (.inl (by decide))) 0))).mono ?_
      rintro _ w21 ⟨m21, rfl, ho21, hg21⟩
      have q121 := oLs20.keepBlk hg21 q120 (.inl (by decide))
      have q221 := oLs20.keepBlk hg21 q220 (.inl (by decide))
      have q321 := oLs20.keepBlk hg21 q320 (.inl (by decide))
      have oN21 := oLs20.keepOwn hg21 oN20 (by decide)
      have oT21 := oLs20.keepOwn hg21 oT20 (by decide)
      have oP21 := ho20.keepG hg21 (fun p hp he => by
        cases hpa : qs[k].1.less.a with
        | none => rw [hpa] at he; cases he
        | some q => rw [hpa] at he; exact sblk_pl hnk hp hpa (by simpa using he.symm))
      have B21 : Below w.heap.size w w21 := B20.trans (oLs20.belowOf hg21 B20.size)
      refine ⟨_, _, _, rfl, blk_cell q121 0, blk_cell q121 0, ?_⟩
      obtain ⟨gz, hgz, _, hc1, hc2, hput1, hgr1, _⟩ := oN21.put1 enNode (i := k) (j := 2) hkm (by decide) (.slice qs[k].1.plus.a m20 qs[k].1.plus.c) ⟨qs[k].1.used, qs[k].1.ty, ⟨qs[k].1.plus.a, m20, qs[k].1.plus.c⟩, qs[k].1.less⟩ (fun hl => by simp [encNode])
      cases hgz
      refine ⟨_, rfl, by omega, by omega, ?_⟩
      rw [htk]
      refine ⟨hc1, hc2, ?_⟩
      rintro w22 h22
      rw [← h22] at hput1 hgr1
      have hgr1' : w21.grownBy w22 ((some (⟨g15, 0, none⟩ : Addr)).map (·.block)) := hgr1
      have q122 := oN21.keepBlk hgr1' q121 (.inl (by decide))
      refine ⟨blk_cell q122 0, ?_⟩
      obtain ⟨gz, hgz, _, hc1, hc2, hput2, hgr2, _⟩ := hput1.put1 enNode (i := k) (j := 3) hkm (by decide) (.slice qs[k].1.less.a m21 qs[k].1.less.c) ⟨qs[k].1.used, qs[k].1.ty, ⟨qs[k].1.plus.a, m20, qs[k].1.plus.c⟩, ⟨qs[k].1.less.a, m21, qs[k].1.less.c⟩⟩ (fun hl => by simp [encNode])
      cases hgz
      refine ⟨_, rfl, by omega, by omega, hc1, hc2, ?_⟩
      rintro w23 h23
      rw [← h23] at hput2 hgr2
      have hgA : w21.grownBy w23 ((some (⟨g15, 0, none⟩ : Addr)).map (·.block)) := grown_trans hgr1 hgr2
      have hcol : ((qs.map (·.1)).set k ⟨qs[k].1.used, qs[k].1.ty, ⟨qs[k].1.plus.a, m20, qs[k].1.plus.c⟩, qs[k].1.less⟩).set k ⟨qs[k].1.used, qs[k].1.ty, ⟨qs[k].1.plus.a, m20, qs[k].1.plus.c⟩, ⟨qs[k].1.less.a, m21, qs[k].1.less.c⟩⟩ = (qs.set k ((⟨qs[k].1.used, qs[k].1.ty, ⟨qs[k].1.plus.a, m20, qs[k].1.plus.c⟩, ⟨qs[k].1.less.a, m21, qs[k].1.less.c⟩⟩ : RNode), awayN ((k0 : Int) + 1) qs[k].2)).map (·.1) := by
        rw [List.set_set, List.map_set]
      rw [hcol] at hput2
      rw [nx (by omega)]
      refine ⟨⟨⟨B21.trans (oN21.belowOf hgA B21.size), oN21.keepBlk hgA q121 (.inl (by decide)), oN21.keepBlk hgA q221 (.inl (by decide)), oN21.keepBlk hgA q321 (.inl (by decide))⟩, ?_, k + 1, _, rfl, by omega, ?_, hput2, ?_, ?_⟩, dec hkm⟩
      · obtain ⟨es, e1, e2, e3⟩ := hEd
        exact ⟨es, e1, oN21.keepOwn hgA (oLs20.keepOwn hg21 (hownd.plus.keepOwn hg20 e2 (by decide)) (by decide)) (by decide), fun p hp => ⟨(e3 p hp).1, oN21.keepOwn hgA (oLs20.keepOwn hg21 (hownd.plus.keepOwn hg20 (e3 p hp).2 (by decide)) (by decide)) (by decide)⟩⟩
      · rw [List.map_set, hsnd, hqk, take_one (show k < L9.length by omega), List.map_append, List.append_assoc, List.set_append_right _ _ (by simp; omega)]
        congr 1
        rw [List.drop_eq_getElem_cons (show k < L9.length by omega), show k - ((L9.take k).map (awayN ((k0 : Int) + 1))).length = 0 by simp; omega]
        rfl
      · intro p hp
        obtain ⟨j, hj, hjp⟩ := List.mem_iff_getElem.1 hp
        rw [List.getElem_set] at hjp
        split at hjp
        · subst hjp
          refine ⟨⟨hsay.used, hsay.rng.1, fun s hs => hsay.rng.2 s ?_⟩, OwnN.keepBy ⟨oT21, oP21, ho21⟩ oN21 hgA (by decide) (by decide)⟩
          rcases List.mem_append.1 hs with hs | hs
          · exact List.mem_append.2 (.inl (List.mem_filter.1 hs).1)
          · exact List.mem_append.2 (.inr (List.mem_filter.1 hs).1)
        · rename_i hne
          have hjq : j < qs.length := by simpa using hj
          have hpm := hqd qs[j] (List.getElem_mem hjq)
          rw [hjp] at hpm
          have hdis := sblks_disj hnd (i := j) (j := k) (by simpa using hjq) (by simpa using hkq) (Ne.symm hne)
          simp only [List.getElem_map, hjp] at hdis
          refine ⟨hpm.1, OwnN.keepBy ⟨oLs20.keepOwn hg21 (hownd.plus.keepOwn hg20 hpm.2.ty (by decide)) (by decide), ?_, ?_⟩ oN21 hgA (by decide) (by decide)⟩
          · refine (hpm.2.plus.keepG hg20 fun q hqa he => ?_).keepG hg21 fun q hqa he => ?_
            · cases hpa : qs[k].1.plus.a with
              | none => rw [hpa] at he; cases he
              | some q' => rw [hpa] at he; exact hdis _ (sblk_plus hqa) _ (sblk_plus hpa) (by simpa using he.symm)
            · cases hpa : qs[k].1.less.a with
              | none => rw [hpa] at he; cases he
              | some q' => rw [hpa] at he; exact hdis _ (sblk_plus hqa) _ (sblk_less hpa) (by simpa using he.symm)
          · refine (hpm.2.less.keepG hg20 fun q hqa he => ?_).keepG hg21 fun q hqa he => ?_
            · cases hpa : qs[k].1.plus.a with
              | none => rw [hpa] at he; cases he
              | some q' => rw [hpa] at he; exact hdis _ (sblk_less hqa) _ (sblk_plus hpa) (by simpa using he.symm)
            · cases hpa : qs[k].1.less.a with
              | none => rw [hpa] at he; cases he
              | some q' => rw [hpa] at he; exact hdis _ (sblk_less hqa) _ (sblk_less hpa) (by simpa using he.symm)
      · have hsb : sblks ((qs.set k ((⟨qs[k].1.used, qs[k].1.ty, ⟨qs[k].1.plus.a, m20, qs[k].1.plus.c⟩, ⟨qs[k].1.less.a, m21, qs[k].1.less.c⟩⟩ : RNode), awayN ((k0 : Int) + 1) qs[k].2)).map (·.1)) = sblks (qs.map (·.1)) := by
          have h1 : (qs.map (·.1)).map sblk = ((qs.set k ((⟨qs[k].1.used, qs[k].1.ty, ⟨qs[k].1.plus.a, m20, qs[k].1.plus.c⟩, ⟨qs[k].1.less.a, m21, qs[k].1.less.c⟩⟩ : RNode), awayN ((k0 : Int) + 1) qs[k].2)).map (·.1)).map sblk := by
            rw [List.map_set, List.map_set]
            have h2 : sblk (⟨qs[k].1.used, qs[k].1.ty, ⟨qs[k].1.plus.a, m20, qs[k].1.plus.c⟩, ⟨qs[k].1.less.a, m21, qs[k].1.less.c⟩⟩ : RNode) = ((qs.map (·.1)).map sblk)[k]'(by simpa using hkq) := by simp [sblk]
            rw [h2, set_at]
          exact sblks_of h1.symm
        rw [hsb]; exact hnd
    · have hkm : ¬ k < n := by simpa using hcc
      obtain rfl : k = n := by omega
      rw [List.take_of_length_le (by omega), List.drop_of_length_le (by omega), List.append_nil] at hsnd
      have hD : DNodes w.heap.size W (some ⟨g15, 0, none⟩) k k (L9.map (awayN ((k0 : Int) + 1))) := ⟨qs, hsnd, ho, hq⟩
      have hfirst : ∃ h0 : 0 < (L9.map (awayN ((k0 : Int) + 1))).length, ((L9.map (awayN ((k0 : Int) + 1)))[0]).used = true := by
        refine ⟨by simp; omega, ?_⟩
        have hone := hC.one
        have hp0 := hC.pos
        have e1 : node G.nodes 1 = G.nodes[0] := by
          have := node_eq (l := G.nodes) (k := 0) hp0
          simpa using this
        simp only [isN, e1, Bool.and_eq_true] at hone
        have e2 : L9[0]'(by omega) = G.nodes[0] := by
          subst hL9; rw [List.getElem_set_ne (by omega)]
        simp only [List.getElem_map, awayN, e2]; exact hone.2
      refine ⟨_, _, _, blk_cell qb 0, fun last W => (Below w.heap.size w W ∧ W.heap[w.heap.size]? = some (.cells #[.slice (some ⟨g15, 0, none⟩) k k, .slice (some ⟨g15', 0, none⟩) n13 n13] 27) ∧ W.heap[w2.heap.size]? = some (.cells #[.slice none 0 0, .slice none 0 0] 27)) ∧
          DEnts w.heap.size W (some ⟨g15', 0, none⟩) n13 n13 (dropL G.slots G.nodes[k0].ty).1 ∧ DNodes w.heap.size W (some ⟨g15, 0, none⟩) k k (L9.map (awayN ((k0 : Int) + 1))) ∧
          ∃ j : Nat, last = j ∧ 0 < j ∧ j ≤ k ∧ ∀ i (hi : i < (L9.map (awayN ((k0 : Int) + 1))).length), j ≤ i → ((L9.map (awayN ((k0 : Int) + 1)))[i]).used = false, fun last _ => last.toNat,
        ⟨⟨hB, qb, qb3⟩, hE, hD, k, rfl, by omega, by omega, fun i hi hki => by simp at hi; omega⟩, ?_⟩
      generalize hLL : L9.map (awayN ((k0 : Int) + 1)) = LL at hfirst ⊢
      have hLLl : LL.length = k := by rw [← hLL]; simp; omega
      rintro _ W2 _ ⟨⟨hB2, qb2', qb32⟩, hE2, hD2, j, rfl, hj0, hjk, hjno⟩
      refine ⟨_, _, _, _, _, _, blk_cell qb2' 0, blk_cell qb2' 1, (k_gis hD2.nodes (j : Int) (by simp only [I64]; omega)).gives fun w25 B25' => ⟨_, rfl, ?_⟩⟩
      have B25 := hB2.trans (B25'.mono hB2.size)
      have q125 := blk_below qb2' B25' (blk_lt qb2')
      have q325 := blk_below qb32 B25' (blk_lt qb32)
      have hE25 := hE2.below B25'
      have hD25 := hD2.below B25'
      have hnj : node LL (j : Int) = LL[j - 1]'(by omega) := by
        have := node_eq (l := LL) (k := j - 1) (by omega)
        rwa [show ((j - 1 : Nat) : Int) + 1 = (j : Int) by omega] at this
      have hisj : isN LL (j : Int) = (LL[j - 1]'(by omega)).used := by
        have h1 : (1 : Int) ≤ (j : Int) := by omega
        have h2 : (j : Int) ≤ (LL.length : Int) := by omega
        simp only [isN, hnj, h1, h2, decide_true, Bool.true_and]
      rw [hisj]
      refine cnd (fun g => ?_) fun g => ?_
      · have hf : (LL[j - 1]'(by omega)).used = false := by simpa using g
        have hj1 : 1 < j := by
          rcases Nat.lt_or_ge 1 j with h1 | h1
          · exact h1
          · have : j = 1 := by omega
            subst this
            obtain ⟨_, hf0⟩ := hfirst
            exact absurd (hf0.symm.trans hf) (by decide)
        rw [pre1 hj0 (by omega)]
        refine ⟨⟨⟨B25, q125, q325⟩, hE25, hD25, j - 1, rfl, by omega, by omega, fun i hi hji => ?_⟩, by simp only []; omega⟩
        by_cases hij : i = j - 1
        · subst hij; exact hf
        · exact hjno i hi (by omega)
      · have ht : (LL[j - 1]'(by omega)).used = true := by simpa using g
        refine ⟨_, _, _, blk_cell q125 0, by omega, by omega, by omega, by omega, blk_some q125 (by simp), blk_free q125 _, ?_⟩
        rw [Int.toNat_natCast]
        rintro w26 h26
        have q126 : w26.heap[w.heap.size]? = some (.cells #[.slice (some ⟨g15, 0, none⟩) j j, .slice (some ⟨g15', 0, none⟩) n13 n13] 27) := by rw [h26]; exact blk_set q125 0 _
        have q326 : w26.heap[w2.heap.size]? = some (.cells #[.slice none 0 0, .slice none 0 0] 27) := by rw [h26]; exact blk_far q325 (by show w2.heap.size ≠ w.heap.size; omega) _
        have B26 : Below w.heap.size w w26 := by rw [h26]; exact B25.setCell (Nat.le_refl _) _
        have hE26 : DEnts w.heap.size w26 (some ⟨g15', 0, none⟩) n13 n13 (dropL G.slots G.nodes[k0].ty).1 := by rw [h26]; exact hE25.farB q125 (by decide) (by decide) _
        have hD26 : DNodes w.heap.size w26 (some ⟨g15, 0, none⟩) k k LL := by rw [h26]; exact hD25.farB q125 (by decide) (by decide) (by decide) _
        have hDt : DNodes w.heap.size w26 (some ⟨g15, 0, none⟩) j j (LL.take j) := by
          obtain ⟨q9, e1, e2, e3⟩ := hD26
          exact ⟨q9.take j, by rw [List.map_take, e1], by rw [List.map_take]; exact e2.take enNode.len j j hjk (Nat.le_refl _) hjk, fun p hp => e3 p (List.mem_of_mem_take hp)⟩
        have htrim := trimN_eq hj0 (by omega) ht hjno
        refine ⟨_, _, _, _, _, _, blk_cell q126 0, blk_cell q126 1, put_back2 q326 (put2 (G' := ⟨LL.take j, (dropL G.slots G.nodes[k0].ty).1⟩) q326 ?_ hDt hE26 B26)⟩
        rw [← htrim, ← hLL, ← hL9]
        have ht0 : ((k0 : Int) + 1 - 1).toNat = k0 := by omega
        simp only [dropG, hc, hi, hm1, hnode, hpe, ht0, Bool.true_eq_false, if_false, ne_eq, not_true_eq_false])
end
end Go.Eng
namespace Go.Eng
open Go Go.RowKit Go.Proofs
set_option maxRecDepth 10000
/-- Nodes of which one has a type, its number; the error: by the document. -/
def of12 (l : List Node) (t : List Int) : List Node × Int × Int :=
  if right3 t = false then ([], 0, 130) else if 0 < findN l t then (l, findN l t, 0) else if (ents12 l).length = 4000 then ([], 0, 6)
  else (setNode l (freeIx l) ⟨true, t, [], []⟩, (freeIx l : Int) + 1, 0)
theorem Nodes.nil {w : World} : Nodes w none 0 0 [] := ⟨[], Row.nil', All2.nil⟩
/-- Nodes whose row is one's own, all they hold lying in an elder world. -/
def CopyN (w0 : World) (w : World) (a : Option Addr) (n c : Nat) (l : List Node) : Prop := ∃ qs : List NP, qs.map (·.2) = l ∧ Own encNode 4 56 w0.heap.size w a n c (qs.map (·.1)) ∧ ∀ p ∈ qs, IsNode w0 p.1 p.2
theorem CopyN.nodes {w0 w : World} {a : Option Addr} {n c : Nat} {l : List Node} (h : CopyN w0 w a n c l) (hB : Below w0.heap.size w0 w) : Nodes w a n c l := by
  obtain ⟨qs, rfl, ho, hq⟩ := h
  exact ⟨_, ho.row, all2_npairs fun p hp => (hq p hp).below hB⟩
theorem CopyN.below {w0 w w' : World} {a : Option Addr} {n c : Nat} {l : List Node} (h : CopyN w0 w a n c l) (hB : Below w.heap.size w w') : CopyN w0 w' a n c l := by
  obtain ⟨qs, h1, ho, hq⟩ := h
  exact ⟨qs, h1, ho.below hB, hq⟩
end Go.Eng
namespace Go.Eng
open Go Go.RowKit Go.Proofs
set_option maxRecDepth 10000
/-- Nodes of which one is not used; the error: by the document. -/
def drop12 (l : List Node) (n : Int) : List Node × Int :=
  if isN l n = false then ([], 2) else if n = 1 then ([], 2) else (trimN ((l.set (n - 1).toNat blankN).map (awayN n)), 0)
end Go.Eng
namespace Go.Eng
open Go Go.RowKit Go.Proofs
set_option maxRecDepth 10000
def setLess12 (l : List Node) (n : Int) (s : Stp) : List Node := l.set (n - 1).toNat ⟨(node l n).used, (node l n).ty, (node l n).plus, withS (node l n).less s⟩
def setPlus12 (l : List Node) (n : Int) (s : Stp) : List Node := l.set (n - 1).toNat ⟨(node l n).used, (node l n).ty, withS (node l n).plus s, (node l n).less⟩
def to12 (t : List Int) (id : Int) (plus : Bool) : List Int := if plus = true then with3 t id else without3 t id
/-- Nodes, a step being gone, and where to; the error: by the document. -/
def go12 (l : List Node) (n id : Int) (plus : Bool) : List Node × Int × Int :=
  if isN l n = false then ([], 0, 2)
  else if plus = true ∧ may3 id = false then ([], 0, 2)
  else if plus = true ∧ id ∈ (node l n).ty then (l, n, 0)
  else if plus = true ∧ (node l n).ty.length = 12 then ([], 0, 6)
  else if plus = false ∧ id ∉ (node l n).ty then ([], 0, 4)
  else if (of12 l (to12 (node l n).ty id plus)).2.2 ≠ 0 then ([], 0, (of12 l (to12 (node l n).ty id plus)).2.2)
  else (if plus = true then setPlus12 (setLess12 (of12 l (to12 (node l n).ty id plus)).1 (of12 l (to12 (node l n).ty id plus)).2.1 (id, n)) n (id, (of12 l (to12 (node l n).ty id plus)).2.1)
      else setPlus12 (setLess12 (of12 l (to12 (node l n).ty id plus)).1 n (id, (of12 l (to12 (node l n).ty id plus)).2.1)) (of12 l (to12 (node l n).ty id plus)).2.1 (id, n), (of12 l (to12 (node l n).ty id plus)).2.1, 0)
theorem findN_pos {l : List Node} {t : List Int} (h : 0 < findN l t) : ∃ k : Nat, findN l t = (k : Int) + 1 ∧ ∃ hk : k < l.length, l[k].used = true ∧ l[k].ty = t := by
  unfold findN at h ⊢
  cases hi : l.findIdx? (fun x => x.used && x.ty == t) with
  | none => rw [hi] at h; simp at h
  | some i =>
    obtain ⟨h1, h2, _⟩ := List.findIdx?_eq_some_iff_getElem.1 hi
    simp only [Bool.and_eq_true, beq_iff_eq] at h2
    exact ⟨i, rfl, h1, h2⟩
theorem rng_with3 {t : List Int} {id : Int} (h : Rng t) (hid : 0 ≤ id ∧ id < 18446744073709551616) : Rng (with3 t id) := by
  intro x hx
  unfold with3 at hx
  rcases List.mem_append.1 hx with hx | hx
  · exact h x (List.mem_filter.1 hx).1
  · rcases List.mem_cons.1 hx with rfl | hx
    · exact hid
    · exact h x (List.mem_filter.1 hx).1
theorem rng_without3 {t : List Int} {id : Int} (h : Rng t) : Rng (without3 t id) := fun x hx => h x (List.mem_filter.1 hx).1
end Go.Eng
namespace Go.Eng
open Go Go.Proofs
set_option exponentiation.threshold 300
theorem isN_node {l : List Node} {n : Int} (h : isN l n = true) : ∃ (k : Nat) (hk : k < l.length), n = (k : Int) + 1 ∧ l[k].used = true ∧ node l n = l[k] := by
  obtain ⟨k, rfl, hk⟩ := isN_iff h
  simp only [isN, Bool.and_eq_true] at h
  rw [node_eq hk] at h
  exact ⟨k, hk, rfl, h.2, node_eq hk⟩
theorem isN_of {l : List Node} {k : Nat} (hk : k < l.length) (hu : l[k].used = true) : isN l ((k : Int) + 1) = true := by
  simp only [isN, node_eq hk, hu, Bool.and_true, Bool.and_eq_true, decide_eq_true_eq]; omega
theorem isN_eq {l : List Node} {k : Nat} (hk : k < l.length) : isN l ((k : Int) + 1) = l[k].used := by
  cases hu : l[k].used with
  | true => exact isN_of hk hu
  | false => simp [isN, node_eq hk, hu]
/-- What is asked of a step. -/
def StpP (l : List Node) (n : Int) (s : Stp) : Prop := isN l s.2 = true ∧ s.1 ∉ (node l n).ty ∧ (s.1, n) ∈ (node l s.2).less ∧ (node l s.2).ty = with3 (node l n).ty s.1
def StpL (l : List Node) (n : Int) (s : Stp) : Prop := isN l s.2 = true ∧ s.1 ∈ (node l n).ty ∧ (s.1, n) ∈ (node l s.2).plus ∧ (node l s.2).ty = without3 (node l n).ty s.1
theorem sorted_adj {l : List Int} (h : l.Pairwise (· < ·)) {i : Nat} (h1 : i + 1 < l.length) : l[i] < l[i + 1] := List.pairwise_iff_getElem.1 h i (i + 1) (by omega) h1 (by omega)
theorem steps12_iff {l : List Node} {n : Int} {row : List Stp} {plus : Bool} : steps12 l n row plus = true ↔ (keys row).Pairwise (· < ·) ∧ ∀ s ∈ row, if plus = true then StpP l n s else StpL l n s := by
  have hl : (keys row).length = row.length := by simp [keys]
  simp only [steps12, List.all_eq_true, List.mem_range]
  constructor
  · intro h
    constructor
    · refine adj_sorted fun i h1 => ?_
      have := h (i + 1) (by omega)
      simp only [stepOk12, Bool.and_eq_true, Bool.or_eq_true, decide_eq_true_eq] at this
      rcases this.1.1.1 with h2 | h2
      · omega
      · rw [Nat.add_sub_cancel, stp_eqAt (by omega), stp_eqAt (by omega)] at h2
        rw [keys_get (by omega), keys_get (by omega)]; exact h2
    · intro s hs
      obtain ⟨i, hi, rfl⟩ := List.mem_iff_getElem.1 hs
      have := h i hi
      simp only [stepOk12, stp_eqAt hi, Bool.and_eq_true] at this
      obtain ⟨⟨⟨_, h1⟩, h2⟩, h3⟩ := this
      cases plus with
      | true => simp at h2 h3 ⊢; exact ⟨h1, h2, h3.1, h3.2⟩
      | false => simp at h2 h3 ⊢; exact ⟨h1, h2, h3.1, h3.2⟩
  · rintro ⟨hs, h⟩ i hi
    have hm := h row[i] (List.getElem_mem hi)
    have h0 : i = 0 ∨ (stp row (i - 1)).1 < (stp row i).1 := by
      cases i with
      | zero => exact .inl rfl
      | succ i =>
        right
        rw [Nat.add_sub_cancel, stp_eqAt (by omega), stp_eqAt hi]
        have := sorted_adj hs (i := i) (by omega)
        rw [keys_get (by omega), keys_get (by omega)] at this; exact this
    simp only [stepOk12, stp_eqAt hi, Bool.and_eq_true, Bool.or_eq_true, decide_eq_true_eq]
    rw [stp_eqAt hi] at h0
    cases plus with
    | true =>
      simp only [if_true] at hm
      obtain ⟨h1, h2, h3, h4⟩ := hm
      refine ⟨⟨⟨h0, h1⟩, by simp [h2]⟩, by simp [h3, h4]⟩
    | false =>
      simp only [Bool.false_eq_true, if_false] at hm
      obtain ⟨h1, h2, h3, h4⟩ := hm
      refine ⟨⟨⟨h0, h1⟩, by simp [h2]⟩, by simp [h3, h4]⟩
/-- Nodes that may be. -/
structure N12 (l : List Node) : Prop where
  pos : 0 < l.length
  last : isN l (l.length : Int) = true
  one : isN l 1 = true
  ty1 : (node l 1).ty = []
  right : ∀ n, isN l n = true → right2 (node l n).ty = true
  uniq : ∀ n m, isN l n = true → isN l m = true → (node l n).ty = (node l m).ty → n = m
  free : ∀ i (h : i < l.length), l[i].used = false → l[i].ty = [] ∧ l[i].plus = [] ∧ l[i].less = []
  sorted : ∀ n, isN l n = true → SortedN (node l n)
  plus : ∀ n s, isN l n = true → s ∈ (node l n).plus → StpP l n s
  less : ∀ n s, isN l n = true → s ∈ (node l n).less → StpL l n s
  many : manyN l ≤ 4000
def RngN (l : List Node) : Prop := ∀ x ∈ l, Rng x.ty
theorem RngN.node {l : List Node} (h : RngN l) (n : Int) : Rng (node l n).ty := by
  unfold Eng.node
  rcases Nat.lt_or_ge (n - 1).toNat l.length with hl | hl
  · rw [List.getD_eq_getElem?_getD, List.getElem?_eq_getElem hl]; exact h _ (List.getElem_mem hl)
  · rw [List.getD_eq_getElem?_getD, List.getElem?_eq_none hl]; intro x hx; cases hx
/-- The first used node of a type. -/
theorem findN_self {l : List Node} {k : Nat} (hk : k < l.length) (hu : l[k].used = true) : ∃ j : Nat, findN l l[k].ty = (j : Int) + 1 ∧ j ≤ k ∧ ∃ hj : j < l.length, l[j].used = true ∧ l[j].ty = l[k].ty := by
  unfold findN
  cases hi : l.findIdx? (fun x => x.used && x.ty == l[k].ty) with
  | none =>
    rw [List.findIdx?_eq_none_iff] at hi
    have := hi _ (List.getElem_mem hk)
    simp [hu] at this
  | some j =>
    obtain ⟨h1, h2, h3⟩ := List.findIdx?_eq_some_iff_getElem.1 hi
    simp only [Bool.and_eq_true, beq_iff_eq] at h2
    refine ⟨j, rfl, ?_, h1, h2⟩
    rcases Nat.lt_or_ge k j with hlt | hge
    · have := h3 k hlt; simp [hu] at this
    · exact hge
theorem nodes12_iff {l : List Node} (hr : RngN l) : nodes12 l = true ↔ N12 l := by
  simp only [nodes12, Bool.and_eq_true, decide_eq_true_eq, List.all_eq_true, List.mem_range]
  constructor
  · rintro ⟨⟨⟨⟨⟨h1, h2⟩, h3⟩, h4⟩, h5⟩, h6⟩
    have ok : ∀ n, isN l n = true → right2 (node l n).ty = true ∧ findN l (node l n).ty = n ∧ steps12 l n (node l n).plus true = true ∧ steps12 l n (node l n).less false = true := by
      intro n hn
      obtain ⟨k, hk, rfl, hu, he⟩ := isN_node hn
      have := h5 k hk
      rw [nodeOk12, he, if_pos hu] at this
      simp only [Bool.and_eq_true, beq_iff_eq] at this
      obtain ⟨⟨⟨a1, a2⟩, a3⟩, a4⟩ := this
      rw [he]
      exact ⟨by rw [right_alike (hr _ (List.getElem_mem hk))]; exact a1, a2, a3, a4⟩
    refine ⟨h1, ?_, ?_, List.eq_nil_of_length_eq_zero h4, fun n hn => (ok n hn).1, fun n m hn hm he => ?_, fun i hi hu => ?_, fun n hn => ?_, fun n s hn hs => ?_, fun n s hn hs => ?_, h6⟩
    · simp only [isN, h2, Bool.and_true, Bool.and_eq_true, decide_eq_true_eq]; omega
    · simp only [isN, h3, Bool.and_true, Bool.and_eq_true, decide_eq_true_eq]; omega
    · rw [← (ok n hn).2.1, he, (ok m hm).2.1]
    · have := h5 i hi
      rw [nodeOk12, node_eq hi, if_neg (by rw [hu]; simp)] at this
      simp only [decide_eq_true_eq] at this
      exact ⟨List.eq_nil_of_length_eq_zero (by omega), List.eq_nil_of_length_eq_zero (by omega), List.eq_nil_of_length_eq_zero (by omega)⟩
    · exact ⟨(steps12_iff.1 (ok n hn).2.2.1).1, (steps12_iff.1 (ok n hn).2.2.2).1⟩
    · have := (steps12_iff.1 (ok n hn).2.2.1).2 s hs; simpa using this
    · have := (steps12_iff.1 (ok n hn).2.2.2).2 s hs; simpa using this
  · intro h
    have one : (node l 1).used = true := by
      obtain ⟨k, hk, _, hu, he⟩ := isN_node h.one; rw [he]; exact hu
    have last : (node l (l.length : Int)).used = true := by
      obtain ⟨k, hk, _, hu, he⟩ := isN_node h.last; rw [he]; exact hu
    refine ⟨⟨⟨⟨⟨h.pos, last⟩, one⟩, by rw [h.ty1]; rfl⟩, fun i hi => ?_⟩, h.many⟩
    unfold nodeOk12
    cases hu : (node l ((i : Int) + 1)).used with
    | false =>
      rw [if_neg (by simp)]
      rw [node_eq hi] at hu ⊢
      obtain ⟨a1, a2, a3⟩ := h.free i hi hu
      rw [a1, a2, a3]; rfl
    | true =>
      have hn : isN l ((i : Int) + 1) = true := isN_of hi (by rw [node_eq hi] at hu; exact hu)
      have hf : findN l (node l ((i : Int) + 1)).ty = (i : Int) + 1 := by
        have hu' := hu
        rw [node_eq hi] at hu' ⊢
        obtain ⟨j, e, hji, hj, huj, htj⟩ := findN_self hi hu'
        rw [e]
        refine h.uniq _ _ (isN_of hj huj) hn ?_
        rw [node_eq hj, node_eq hi]; exact htj
      have e1 : right3 (node l ((i : Int) + 1)).ty = true := by rw [← right_alike (hr.node _)]; exact h.right _ hn
      have e2 : steps12 l ((i : Int) + 1) (node l ((i : Int) + 1)).plus true = true := steps12_iff.2 ⟨(h.sorted _ hn).1, fun s hs => by simpa using h.plus _ s hn hs⟩
      have e3 : steps12 l ((i : Int) + 1) (node l ((i : Int) + 1)).less false = true := steps12_iff.2 ⟨(h.sorted _ hn).2, fun s hs => by simpa using h.less _ s hn hs⟩
      simp [e1, e2, e3, hf]
def entsU (l : List Node) : List Entry := (usedIx l).map (entN l)
theorem range_filter_succ (p : Nat → Bool) (k : Nat) : (List.range (k + 1)).filter p = (List.range k).filter p ++ (if p k = true then [k] else []) := by
  rw [List.range_succ, List.filter_append]
  congr 1
  simp only [List.filter_cons, List.filter_nil]
theorem entsTo_perm (l : List Node) : ∀ k, (entsTo l k).Perm (((List.range k).filter fun i : Nat => (node l ((i : Int) + 1)).used).map (entN l))
  | 0 => .refl _
  | k + 1 => by
    have ih := entsTo_perm l k
    rw [range_filter_succ]
    simp only [entsTo]
    split
    · rename_i hu
      simp only [hu, if_true, List.map_append, List.map_cons, List.map_nil]
      exact (with7_perm _ _ _).trans ((ih.cons _).trans (List.perm_append_singleton _ _).symm)
    · rename_i hu
      simp only [hu, Bool.false_eq_true, if_false, List.append_nil]
      exact ih
theorem ents12_perm (l : List Node) : (ents12 l).Perm (entsU l) := entsTo_perm l l.length
theorem entsTo_sorted (l : List Node) : ∀ k, (entsTo l k).Pairwise (fun p q => ¬ cmpL q.ty p.ty < 0)
  | 0 => .nil
  | k + 1 => by
    simp only [entsTo]; split
    · exact with7_sorted _ (entsTo_sorted l k)
    · exact entsTo_sorted l k
theorem ents12_sorted (l : List Node) : (ents12 l).Pairwise (fun p q => ¬ cmpL q.ty p.ty < 0) := entsTo_sorted l l.length
theorem ents12_len (l : List Node) : (ents12 l).length = manyN l := by
  rw [(ents12_perm l).length_eq, entsU, List.length_map, usedIx_len]
theorem checkL_keyInj {l : List Entry} (h : checkL l = true) : ∀ a ∈ all7 Entry.st Entry.ty l, ∀ b ∈ all7 Entry.st Entry.ty l, a.ty = b.ty → a = b := by
  intro a ha b hb ht
  have ha' := List.mem_filter.1 (all7_perm'.mem_iff.1 ha)
  have hb' := List.mem_filter.1 (all7_perm'.mem_iff.1 hb)
  exact checkL_inj h a ha'.1 b hb'.1 (by simpa using ha'.2) (by simpa using hb'.2) ht
theorem all7_ents {l : List Entry} {ns : List Node} (h : checkL l = true) : all7 Entry.st Entry.ty l = ents12 ns ↔ (usedE l).Perm (entsU ns) := by
  constructor
  · intro he
    have h1 : (all7 Entry.st Entry.ty l).Perm (usedE l) := all7_perm'
    rw [he] at h1
    exact h1.symm.trans (ents12_perm ns)
  · intro hp
    have hP : (all7 Entry.st Entry.ty l).Perm (ents12 ns) := all7_perm'.trans (hp.trans (ents12_perm ns).symm)
    refine List.Perm.eq_of_pairwise (le := fun p q => ¬ cmpL q.ty p.ty < 0) ?_ (all7_sorted _ _ _) (ents12_sorted ns) hP
    intro a b ha hb h1 h2
    rcases cmpL_tri a.ty b.ty with h3 | h3 | h3
    · exact absurd h3 h2
    · exact checkL_keyInj h a ha b (hP.mem_iff.2 hb) h3
    · exact absurd h3 h1
/-- A graph that may be. -/
structure RG (G : PG) : Prop where
  nodes : N12 G.nodes
  look : checkL G.slots = true
  ents : (usedE G.slots).Perm (entsU G.nodes)
structure RngG (G : PG) : Prop where
  nodes : RngN G.nodes
  slots : ∀ e ∈ G.slots, Rng e.ty
end Go.Eng
namespace Go.Eng
open Go Go.Proofs
set_option exponentiation.threshold 300
theorem mem_entsU {l : List Node} {e : Entry} : e ∈ entsU l ↔ ∃ (k : Nat) (hk : k < l.length), l[k].used = true ∧ e = ⟨1, l[k].ty, (k : Int) + 1⟩ := by
  simp only [entsU, List.mem_map]
  constructor
  · rintro ⟨k, hk, rfl⟩
    obtain ⟨h1, h2⟩ := mem_usedIx.1 hk
    exact ⟨k, h1, h2, by rw [entN, node_eq h1]⟩
  · rintro ⟨k, hk, hu, rfl⟩
    exact ⟨k, mem_usedIx.2 ⟨hk, hu⟩, by rw [entN, node_eq hk]⟩
theorem findL_used {l : List Entry} (h : checkL l = true) {e : Entry} (he : e ∈ l) (hs : e.st = 1) : findL l e.ty = (e.num, true) := by
  obtain ⟨i, hi, rfl⟩ := List.mem_iff_getElem.1 he
  have := (checkL_used h hi hs).2.2
  have hn : ¬ ((i : Nat) : Int) < 0 := by omega
  simp only [findL, h, this, hn, Bool.true_eq_false, if_false, Int.toNat_natCast, slot_eq hi]
theorem RG.usedN {G : PG} (h : RG G) {k : Nat} (hk : k < G.nodes.length) (hu : G.nodes[k].used = true) : (⟨1, G.nodes[k].ty, (k : Int) + 1⟩ : Entry) ∈ G.slots :=
  (List.mem_filter.1 (h.ents.mem_iff.2 (mem_entsU.2 ⟨k, hk, hu, rfl⟩))).1
theorem has2_in {t : List Int} (h : right2 t = true) (x : Int) : has2 t x = decide (x ∈ t) := by simp [has2, h]
theorem stepOk_alike {l : List Node} {n : Int} {row : List Stp} {plus : Bool} {i : Nat} (hn : right2 (node l n).ty = true) (hall : ∀ m, isN l m = true → right2 (node l m).ty = true) : stepOkG l n row plus i = stepOk12 l n row plus i := by
  have hs := (right2_iff.1 hn).1
  unfold stepOkG stepOk12
  rw [has2_in hn]
  cases hm : isN l (stp row i).2 with
  | false => simp
  | true =>
    have hr := hall _ hm
    by_cases hx : (stp row i).1 ∈ (node l n).ty
    · cases plus with
      | true => simp [hx]
      | false =>
        have e1 : without2e (node l n).ty (stp row i).1 = (without3 (node l n).ty (stp row i).1, 0) := by simp [without2e, hn, hx, without_alike hs hx]
        rw [e1]; simp [Bool.and_comm, Bool.and_assoc]
    · cases plus with
      | false => simp [hx]
      | true =>
        by_cases ht : (node l (stp row i).2).ty = with3 (node l n).ty (stp row i).1
        · have hr' := hr
          rw [ht] at hr'
          obtain ⟨_, g1, g2⟩ := right2_iff.1 hr'
          have hmay := g1 (stp row i).1 (with3_mem.2 (.inl rfl))
          have hlen : ¬ 12 < (with3 (node l n).ty (stp row i).1).length := by omega
          have e1 : with2e (node l n).ty (stp row i).1 = (with3 (node l n).ty (stp row i).1, 0) := by simp [with2e, hn, hmay, with_alike hs, hlen]
          rw [e1]; simp [ht]
        · have e1 : (((with2e (node l n).ty (stp row i).1).2 == 0) && ((node l (stp row i).2).ty == (with2e (node l n).ty (stp row i).1).1)) = false := by
            unfold with2e
            rw [hn, with_alike hs]
            by_cases c1 : may2 (stp row i).1 = false
            · simp [c1]
            · by_cases c2 : 12 < (with3 (node l n).ty (stp row i).1).length
              · simp [c1, c2]
              · simp [c1, c2, ht]
          rw [if_pos rfl, if_pos rfl, e1]; simp [ht]
theorem steps_alike {l : List Node} {n : Int} {row : List Stp} {plus : Bool} (hn : right2 (node l n).ty = true) (hall : ∀ m, isN l m = true → right2 (node l m).ty = true) : stepsG l n row plus = steps12 l n row plus := by
  unfold stepsG steps12
  rw [show stepOkG l n row plus = stepOk12 l n row plus from funext fun i => stepOk_alike hn hall]
theorem chG_rg {G : PG} (h : ChG G) : RG G := by
  have right : ∀ n, isN G.nodes n = true → right2 (node G.nodes n).ty = true := by
    intro n hn
    obtain ⟨k, hk, rfl, hu, he⟩ := isN_node hn
    rw [he]; exact (h.node hk hu).1
  have st : ∀ n, isN G.nodes n = true → steps12 G.nodes n (node G.nodes n).plus true = true ∧ steps12 G.nodes n (node G.nodes n).less false = true := by
    intro n hn
    rw [← steps_alike (right n hn) right, ← steps_alike (right n hn) right]
    obtain ⟨k, hk, rfl, hu, he⟩ := isN_node hn
    rw [he]; exact (h.node hk hu).2.2
  refine ⟨⟨h.pos, h.last, h.one, List.eq_nil_of_length_eq_zero h.ty1, right, fun n m hn hm ht => ?_, fun i hi hu => h.free hi hu, fun n hn => ⟨(steps12_iff.1 (st n hn).1).1, (steps12_iff.1 (st n hn).2).1⟩, fun n s hn hs => ?_, fun n s hn hs => ?_, ?_⟩, h.look, ?_⟩
  · obtain ⟨k, hk, rfl, hu, he⟩ := isN_node hn
    obtain ⟨j, hj, rfl, hu', he'⟩ := isN_node hm
    rw [he, he'] at ht
    have e1 := (h.node hk hu).2.1
    have e2 := (h.node hj hu').2.1
    rw [ht, e2] at e1
    have := congrArg Prod.fst e1
    simp only at this; omega
  · simpa using (steps12_iff.1 (st n hn).1).2 s hs
  · simpa using (steps12_iff.1 (st n hn).2).2 s hs
  · rw [h.many]; exact all7_4000 h.look
  · have e1 : usedE G.slots = ((usedE G.slots).map (·.num)).map fun m => (⟨1, (node G.nodes m).ty, m⟩ : Entry) := by
      rw [List.map_map]
      conv => lhs; rw [← List.map_id (usedE G.slots)]
      refine List.map_congr_left fun e he => ?_
      obtain ⟨h1, h2⟩ := List.mem_filter.1 he
      have hs : e.st = 1 := by simpa using h2
      obtain ⟨i, hi, hn, hu, ht⟩ := h.slotNode h1 hs
      show e = _
      simp only [Function.comp]
      rw [hn, node_eq hi, ht, ← hn, ← hs]
    rw [e1]
    refine (h.nums.map _).trans ?_
    rw [List.map_map]
    exact .of_eq rfl
theorem RG.chg {G : PG} (h : RG G) : ChG G := by
  have hN := h.nodes
  refine ⟨hN.pos, hN.last, hN.one, by rw [hN.ty1]; rfl, h.look, fun i hi => ?_, ?_⟩
  · unfold nodeOkG
    cases hu : (node G.nodes ((i : Int) + 1)).used with
    | false =>
      rw [if_neg (by simp)]
      rw [node_eq hi] at hu ⊢
      obtain ⟨a1, a2, a3⟩ := hN.free i hi hu
      rw [a1, a2, a3]; rfl
    | true =>
      have hu' := hu
      rw [node_eq hi] at hu'
      have hn : isN G.nodes ((i : Int) + 1) = true := isN_of hi hu'
      have hf := findL_used h.look (h.usedN hi hu') rfl
      have e1 := hN.right _ hn
      have e2 : steps12 G.nodes ((i : Int) + 1) (node G.nodes ((i : Int) + 1)).plus true = true := steps12_iff.2 ⟨(hN.sorted _ hn).1, fun s hs => by simpa using hN.plus _ s hn hs⟩
      have e3 : steps12 G.nodes ((i : Int) + 1) (node G.nodes ((i : Int) + 1)).less false = true := steps12_iff.2 ⟨(hN.sorted _ hn).2, fun s hs => by simpa using hN.less _ s hn hs⟩
      rw [steps_alike e1 hN.right, steps_alike e1 hN.right, e1, e2, e3]
      rw [node_eq hi]
      simp only at hf
      rw [hf]; simp
  · have := h.ents.length_eq
    rw [entsU, List.length_map, usedIx_len] at this
    rw [← this, ← all7_perm'.length_eq]
theorem checkG_rg {G : PG} : checkG G = true ↔ RG G := (checkG_iff G).trans ⟨chG_rg, RG.chg⟩
end Go.Eng
namespace Go.Eng
open Go Go.RowKit Go.Proofs
set_option maxRecDepth 10000
def cutN (x : Node) : Node := ⟨x.used, x.ty.take 14, x.plus.take 20, x.less.take 20⟩
def cutE (e : Entry) : Entry := ⟨e.st, e.ty.take 14, e.num⟩
/-- What can be gone through of a graph. -/
def ownW (G : PG) : PG := ⟨(G.nodes.take 30).map cutN, (G.slots.take 128).map cutE⟩
theorem Row.cut {α : Type} {enc : α → List Value} {w : World} {a : Option Addr} {n c : Nat} {l : List α} (h : Row enc w a n c l) (k : Nat) : Row enc w a (min n k) c (l.take k) := by
  have hl := h.len
  refine ⟨?_, by have := h.le; omega, h.nil, h.max⟩
  have := h.rd.take (min n k) (by omega)
  have e : l.take (min n k) = l.take k := by rw [hl, ← List.take_take]; rw [List.take_of_length_le (l := l.take k) (by simp; omega)] <;> simp
  rwa [e] at this
end Go.Eng
namespace Go.Eng
open Go Go.RowKit Go.Proofs
set_option maxRecDepth 10000
/-- Just these nodes, and the lookup says them. -/
def SaysP (G : PG) (l : List Node) : Prop := G.nodes = l ∧ (l.length = 0 → G.slots.length = 0) ∧ (l.length ≠ 0 → Right7 G.slots ∧ all7 Entry.st Entry.ty G.slots = ents12 l)
end Go.Eng
