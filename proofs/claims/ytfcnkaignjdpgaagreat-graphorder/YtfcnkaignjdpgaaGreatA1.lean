/- Part 1 of the proof of GraphOrderSaid. What is proved: what a call of each function leaves. Conditions: those that each theorem names. -/
import Derived.Test.YtfcnkaignjdpgaaGreatA0
import Derived.Scope
import Derived.RangeFuncRecord
import Derived.Laws.OwnMore
import Derived.Laws.MakeOwn
import Derived.Laws.CopyRow
import Derived.WalkSpells
import Derived.Test.YtfcnkaignjdpgaaGreatProg
import Derived.KernelRfl
set_option linter.unusedVariables false
set_option linter.unusedSimpArgs false
set_option linter.unusedSectionVars false
namespace Go.Eng
open Go
section
variable {P : Program}
theorem opD_opV {pre : List (List Nat)} {i : Nat} {o : Oper} {fs : List Fact} {ρ : Env} {w : World} {K : List Fact → Value → World → Prop} (h : opD P pre i o fs ρ w K) :
    opV P o ρ w fun v w' => ∃ fs', K fs' v w' := by
  unfold opD at h
  split at h
  · exact opV_mono (fun v w' hk => ⟨_, hk⟩) h
  · split at h
    · rename_i hop
      split at h
      · rename_i hx
        unfold opV
        simp only [hop, hx]
        exact ldV_mono (fun v hk => ⟨_, hk⟩) h
      · exact h.elim
    · exact h.elim
  · refine opV_mono (fun v w' hk => ⟨_, (keepV_iff.1 hk).2⟩) h
theorem stepD_stepV {ops : List Oper} {pre : List (List Nat)} {i : Nat} {o : Oper} {fs : List Fact} {ρ : Env} {w : World} {K : List Fact → Env → World → Prop} (h : stepD P ops pre i o fs ρ w K) :
    stepV P ops o ρ w fun ρ' w' => ∃ fs', K fs' ρ' w' := by
  unfold stepD at h
  unfold stepV
  split at h
  · exact opD_opV h
  · split at h
    · exact ⟨_, h⟩
    · rename_i d hd
      split at h
      · exact h.elim
      · rename_i b hb
        revert h
        exact cond_mono (cond_mono opD_opV (fun h => ⟨_, h⟩)) (cond_mono (fun h => ⟨_, h⟩) opD_opV)
      · rename_i hb
        exact ⟨_, h⟩
theorem stepV_mono' {ops : List Oper} {o : Oper} {ρ : Env} {w : World} {K K' : Env → World → Prop} (h : ∀ ρ w, K ρ w → K' ρ w) : stepV P ops o ρ w K → stepV P ops o ρ w K' := by
  unfold stepV
  split
  · exact opV_mono fun v w' => h _ _
  · split
    · exact h _ _
    · split
      · exact id
      · exact cond_mono (cond_mono (opV_mono fun v w' => h _ _) (h _ _)) (cond_mono (h _ _) (opV_mono fun v w' => h _ _))
      · exact h _ _
def PairR (P : Program) (ops : List Oper) (pre : List (List Nat)) (i j : Nat) : Prop :=
  (preOf pre i).contains j = false ∧ ((preOf pre j).contains i = true ∨ ∃ x y, opOf ops i = some x ∧ opOf ops j = some y ∧ swapOk P ops x y = true)
theorem pairsOk_pairwise {ops : List Oper} {pre : List (List Nat)} : ∀ {arr : List Nat}, pairsOk P ops pre arr = true → arr.Pairwise (PairR P ops pre)
  | [], _ => .nil
  | i :: rest, h => by
    simp only [pairsOk, Bool.and_eq_true, List.all_eq_true] at h
    obtain ⟨⟨h1, h2⟩, h3⟩ := h
    refine .cons (fun j hj => ⟨by have := h1 j hj; simpa using this, ?_⟩) (pairsOk_pairwise h3)
    have := h2 j hj
    simp only [Bool.or_eq_true] at this
    rcases this with h | h
    · exact .inl h
    · split at h
      · exact .inr ⟨_, _, by assumption, by assumption, h⟩
      · simp at h
/-- What must be known of the edges. -/
structure EdgeOk (ops : List Oper) (pre : List (List Nat)) : Prop where
  lt : ∀ i o, opOf ops i = some o → ∀ j ∈ predsOf o, j < i
  mem : ∀ i o, opOf ops i = some o → ∀ j ∈ predsOf o, (preOf pre i).contains j = true
  back : ∀ i o, opOf ops i = some o → ∀ x, (preOf pre i).contains x = true → ∃ j ∈ predsOf o, x = j ∨ (preOf pre j).contains x = true
theorem getD_of_lt {listed : Array Bool} {n : Nat} (hsz : listed.size = n) {i : Nat} (hi : i < n) : listed.getD i true = listed.getD i false := by
  have : i < listed.size := by omega
  simp [Array.getD, this]
theorem ready_iff {ops : Array Oper} {listed : Array Bool} {i : Nat} : i ∈ Region.ready .any ops listed ↔ i < ops.size ∧ listed.getD i true = false ∧ ∃ o, opOf ops.toList i = some o ∧ ∀ j ∈ predsOf o, listed.getD j false = true := by
  unfold Region.ready
  rw [List.mem_filter]
  have ho : ops[i]? = opOf ops.toList i := by rw [← opOf_eq]; simp
  rw [ho]
  constructor
  · rintro ⟨h1, h2⟩
    simp only [Bool.and_eq_true, Bool.not_eq_true'] at h2
    refine ⟨by simpa using h1, h2.1, ?_⟩
    cases hoo : opOf ops.toList i with
    | none => rw [hoo] at h2; simp at h2
    | some o =>
      rw [hoo] at h2
      refine ⟨o, rfl, fun j hj => ?_⟩
      have h3 := h2.2
      simp only [Option.map_some, Option.getD_some] at h3
      rw [← Array.all_toList, List.all_eq_true] at h3
      simp only [predsOf, List.mem_map, List.mem_filter] at hj
      obtain ⟨e, ⟨hem, heo⟩, rfl⟩ := hj
      have := h3 e hem
      have hb : Region.binds .any e = true := by
        unfold edgeOn at heo; unfold Region.binds
        split <;> simp_all
      simpa [hb] using this
  · rintro ⟨h1, h2, o, hoo, h3⟩
    refine ⟨by simpa using h1, ?_⟩
    rw [hoo, h2]
    simp only [Option.map_some, Option.getD_some, Bool.not_false, Bool.true_and]
    rw [← Array.all_toList, List.all_eq_true]
    intro e hem
    cases heo : edgeOn e with
    | false =>
      have : Region.binds .any e = false := by
        unfold edgeOn at heo; unfold Region.binds
        split at heo <;> simp_all <;> rfl
      simp [this]
    | true =>
      have := h3 e.on (by simp only [predsOf, List.mem_map, List.mem_filter]; exact ⟨e, ⟨hem, heo⟩, rfl⟩)
      simp [this]
/-- What a row of operations that are still to go has to be. -/
structure Left (ops : Array Oper) (pre : List (List Nat)) (listed : Array Bool) (arr : List Nat) : Prop where
  size : listed.size = ops.size
  mem : ∀ i, i ∈ arr ↔ i < ops.size ∧ listed.getD i true = false
  nodup : arr.Nodup
  first : arr.Pairwise fun i j => (preOf pre i).contains j = false
  closed : ∀ i, i < ops.size → listed.getD i false = true → ∀ x, (preOf pre i).contains x = true → listed.getD x false = true
theorem Left.none_ready {ops : Array Oper} {pre : List (List Nat)} {listed : Array Bool} (h : Left ops pre listed []) : Region.ready .any ops listed = [] := by
  rw [List.eq_nil_iff_forall_not_mem]
  intro i hi
  obtain ⟨h1, h2, _⟩ := ready_iff.1 hi
  have := (h.mem i).2 ⟨h1, h2⟩
  simp at this
theorem Left.some_ready {ops : Array Oper} {pre : List (List Nat)} {listed : Array Bool} {i : Nat} {rest : List Nat} (he : EdgeOk ops.toList pre) (h : Left ops pre listed (i :: rest)) {o : Oper} (hoo : opOf ops.toList i = some o) :
    Region.ready .any ops listed ≠ [] := by
  obtain ⟨hi, hl⟩ := (h.mem i).1 (List.mem_cons_self ..)
  have : i ∈ Region.ready .any ops listed := by
    refine ready_iff.2 ⟨hi, hl, o, hoo, fun j hj => ?_⟩
    have hjl := he.lt i o hoo j hj
    have hjl' : j < ops.size := Nat.lt_trans hjl hi
    cases hjj : listed.getD j false with
    | true => rfl
    | false =>
      exfalso
      have hja : j ∈ i :: rest := (h.mem j).2 ⟨hjl', by rw [getD_of_lt h.size hjl', hjj]⟩
      have hji := he.mem i o hoo j hj
      rcases List.mem_cons.1 hja with rfl | hjr
      · omega
      · have := (List.pairwise_cons.1 h.first).1 j hjr
        rw [this] at hji; simp at hji
  intro hn; rw [hn] at this; simp at this
/-- Nothing that is still to go must stand ahead of what is ready. -/
theorem Left.not_pre {ops : Array Oper} {pre : List (List Nat)} {listed : Array Bool} {arr : List Nat} (he : EdgeOk ops.toList pre) (h : Left ops pre listed arr) {i : Nat} {o : Oper} (hoo : opOf ops.toList i = some o)
    (hi : i < ops.size) (hpr : ∀ j ∈ predsOf o, listed.getD j false = true) {x : Nat} (hx : x ∈ arr) : (preOf pre i).contains x = false := by
  obtain ⟨hx, hxl⟩ := (h.mem x).1 hx
  cases hc : (preOf pre i).contains x with
  | false => rfl
  | true =>
    exfalso
    rw [getD_of_lt h.size hx] at hxl
    obtain ⟨j, hj, hxj⟩ := he.back i o hoo x hc
    have hjt := hpr j hj
    rcases hxj with rfl | hxj
    · rw [hxl] at hjt; simp at hjt
    · have := h.closed j (Nat.lt_trans (he.lt i o hoo j hj) hi) hjt x hxj
      rw [hxl] at this; simp at this
theorem Left.next {ops : Array Oper} {pre : List (List Nat)} {listed : Array Bool} {l1 l2 : List Nat} {i : Nat} (he : EdgeOk ops.toList pre) (h : Left ops pre listed (l1 ++ i :: l2)) {o : Oper} (hoo : opOf ops.toList i = some o)
    (hi' : i < ops.size) (hpr : ∀ j ∈ predsOf o, listed.getD j false = true) : Left ops pre (listed.setIfInBounds i true) (l1 ++ l2) := by
  have hsz := h.size
  have hset : ∀ j, (listed.setIfInBounds i true).getD j true = if j = i then true else listed.getD j true := by
    intro j
    simp only [Array.getD_eq_getD_getElem?, Array.getElem?_setIfInBounds]
    by_cases hji : i = j
    · subst hji; simp [show i < listed.size by omega]
    · rw [if_neg hji, if_neg (fun h => hji h.symm)]
  have hset' : ∀ j, (listed.setIfInBounds i true).getD j false = if j = i then true else listed.getD j false := by
    intro j
    simp only [Array.getD_eq_getD_getElem?, Array.getElem?_setIfInBounds]
    by_cases hji : i = j
    · subst hji; simp [show i < listed.size by omega]
    · rw [if_neg hji, if_neg (fun h => hji h.symm)]
  have hnd' := h.nodup
  rw [List.nodup_append] at hnd'
  refine ⟨by simpa using hsz, ?_, h.nodup.sublist (List.Sublist.append (List.Sublist.refl _) (List.sublist_cons_self _ _)), h.first.sublist (List.Sublist.append (List.Sublist.refl _) (List.sublist_cons_self _ _)), ?_⟩
  · intro j
    rw [hset j]
    have hm := h.mem j
    constructor
    · intro hj
      have hj' : j ∈ l1 ++ i :: l2 := by
        rcases List.mem_append.1 hj with hj | hj
        · exact List.mem_append_left _ hj
        · exact List.mem_append_right _ (List.mem_cons_of_mem _ hj)
      have hne : j ≠ i := by
        rintro rfl
        rcases List.mem_append.1 hj with hj | hj
        · exact hnd'.2.2 j hj j (List.mem_cons_self ..) rfl
        · exact (List.nodup_cons.1 hnd'.2.1).1 hj
      rw [if_neg hne]; exact hm.1 hj'
    · rintro ⟨hj1, hj2⟩
      by_cases hji : j = i
      · rw [if_pos hji] at hj2; simp at hj2
      · rw [if_neg hji] at hj2
        have := hm.2 ⟨hj1, hj2⟩
        rcases List.mem_append.1 this with h | h
        · exact List.mem_append_left _ h
        · rcases List.mem_cons.1 h with rfl | h
          · exact absurd rfl hji
          · exact List.mem_append_right _ h
  · intro j hj hjt x hx
    rw [hset' j] at hjt
    rw [hset' x]
    by_cases hxi : x = i
    · rw [if_pos hxi]
    · rw [if_neg hxi]
      by_cases hji : j = i
      · subst hji
        obtain ⟨k, hk1, hk2⟩ := he.back _ o hoo x hx
        rcases hk2 with rfl | hk2
        · exact hpr _ hk1
        · exact h.closed k (by have := he.lt _ o hoo k hk1; omega) (hpr k hk1) x hk2
      · rw [if_neg hji] at hjt
        exact h.closed j hj hjt x hx
theorem any_of_regD {r : Option Nat} {ops : Array Oper} {ds : List Deferred} {pre : List (List Nat)} {Q : Exit → Act → World → Prop} {K : Env → World → Prop}
    (hk : ∀ ρ' w', K ρ' w' → Q .normal (actOf ρ' ds) w') (he : EdgeOk ops.toList pre) : ∀ (fuel : Nat) (listed : Array Bool) (arr : List Nat) (fs : List Fact) (ρ : Env) (w : World),
    Left ops pre listed arr → fuel = arr.length → arr.Pairwise (PairR P ops.toList pre) →
    regD P ops.toList pre arr fs ρ w K → wpAnyIn (FW r) 0 P .any ops Q fuel listed (actOf ρ ds) w := by
  intro fuel
  induction fuel with
  | zero =>
    intro listed arr fs ρ w hL hf hpw h
    obtain rfl : arr = [] := List.length_eq_zero_iff.1 hf.symm
    exact ⟨hL.none_ready, hk _ _ h⟩
  | succ fuel ih =>
    intro listed arr fs ρ w hL hf hpw h
    constructor
    · intro hnil
      exfalso
      cases arr with
      | nil => simp at hf
      | cons i rest =>
        simp only [regD] at h
        cases hoo : opOf ops.toList i with
        | none => rw [hoo] at h; exact h
        | some o => exact hL.some_ready he hoo hnil
    · intro i hi
      obtain ⟨hi', hl, o, hoo, hpr⟩ := ready_iff.1 hi
      have hia : i ∈ arr := (hL.mem i).2 ⟨hi', hl⟩
      obtain ⟨l1, l2, rfl⟩ := List.append_of_mem hia
      have hfront := regD_front (P := P) (ops := ops.toList) (pre := pre) (y := i) (oy := o) (rest := l2) (K := K) hoo (l := l1) (fs := fs) (ρ := ρ) (w := w)
        (fun x hx => by
          have hn := hL.not_pre he hoo hi' hpr (x := x) (by simp [hx])
          rw [List.pairwise_append] at hpw
          have hp := hpw.2.2 x hx i (List.mem_cons_self ..)
          rcases hp.2 with h | ⟨ox, oy, h1, h2, h3⟩
          · rw [hn] at h; simp at h
          · rw [hoo] at h2; cases h2
            exact ⟨ox, h1, h3, hn⟩) h
      simp only [regD, hoo] at hfront
      have hstep := stepD_stepV hfront
      refine step_wpOp (by rw [← Array.getElem?_toList, opOf_eq]; exact hoo) hstep (fun ρ' w' ⟨fs', h'⟩ => ?_)
      exact ih _ (l1 ++ l2) fs' ρ' w' (hL.next he hoo hi' hpr) (by simp at hf ⊢; omega) (hpw.sublist (List.Sublist.append (List.Sublist.refl _) (List.sublist_cons_self _ _))) h'
/-- Two that act, in either order. -/
def PairR2 (P : Program) (ops : List Oper) (pre : List (List Nat)) (p q i j : Nat) : Prop := (preOf pre i).contains j = false ∧
  (((preOf pre j).contains i = true ∨ ∃ x y, opOf ops i = some x ∧ opOf ops j = some y ∧ swapOk P ops x y = true) ∨ (i = p ∧ j = q))
theorem stepD_both {ops : List Oper} {pre : List (List Nat)} {i : Nat} {o : Oper} {fs1 fs2 : List Fact} {ρ : Env} {w : World} {K1 K2 : List Fact → Env → World → Prop} (hc : isAct (clsOf P o) = false)
    (h1 : stepD P ops pre i o fs1 ρ w K1) (h2 : stepD P ops pre i o fs2 ρ w K2) : stepV P ops o ρ w fun ρ' w' => (∃ fs, K1 fs ρ' w') ∧ ∃ fs, K2 fs ρ' w' := by
  rcases stepD_cases h1 with ⟨v, hv⟩ | ⟨_, a, cs, v, hh, hv⟩ | ⟨ha, hv⟩
  · have k1 := (hv _ _ _ _ (fun _ _ => rfl)).1 h1
    have k2 := (hv _ _ _ _ (fun _ _ => rfl)).1 h2
    have := (hv [] ρ w (fun _ ρ' w' => ρ' = putD ρ o.dst v ∧ w' = w) (fun _ _ => rfl)).2 ⟨rfl, rfl⟩
    refine stepV_mono' (fun ρ' w' ⟨fs, e1, e2⟩ => ?_) (stepD_stepV this)
    subst e1; subst e2
    exact ⟨⟨_, k1⟩, _, k2⟩
  · have k1 := (hv _ _ _ _ (fun _ _ => rfl) hh).1 h1
    have k2 := (hv _ _ _ _ (fun _ _ => rfl) hh).1 h2
    have := (hv [] ρ w (fun _ ρ' w' => ρ' = putD ρ o.dst v ∧ w' = w) (fun _ _ => rfl) hh).2 ⟨rfl, rfl⟩
    refine stepV_mono' (fun ρ' w' ⟨fs, e1, e2⟩ => ?_) (stepD_stepV this)
    subst e1; subst e2
    exact ⟨⟨_, k1⟩, _, k2⟩
  · rw [ha] at hc; simp [isAct] at hc
theorem PairR2.weaken {ops : List Oper} {pre : List (List Nat)} {p q : Nat} {l : List Nat} (hp : p ∉ l) (h : l.Pairwise (PairR2 P ops pre p q)) : l.Pairwise (PairR P ops pre) := by
  refine List.Pairwise.imp_of_mem (fun {a b} ha hb hab => ⟨hab.1, ?_⟩) h
  rcases hab.2 with h | ⟨rfl, _⟩
  · exact h
  · exact absurd ha hp
theorem any_of_regD2 {r : Option Nat} {ops : Array Oper} {ds : List Deferred} {pre : List (List Nat)} {Q : Exit → Act → World → Prop} {K : Env → World → Prop}
    (hk : ∀ ρ' w', K ρ' w' → Q .normal (actOf ρ' ds) w') (he : EdgeOk ops.toList pre) {p q : Nat} (hpq : p ≠ q) (hacts : ∀ i o, opOf ops.toList i = some o → isAct (clsOf P o) = true → i = p ∨ i = q ∨ (preOf pre i).contains p = true) :
    ∀ (fuel : Nat) (listed : Array Bool) (arr arr' : List Nat) (fs fs' : List Fact) (ρ : Env) (w : World), p ∈ arr → q ∈ arr →
    Left ops pre listed arr → Left ops pre listed arr' → fuel = arr.length → fuel = arr'.length → arr.Pairwise (PairR2 P ops.toList pre p q) → arr'.Pairwise (PairR2 P ops.toList pre q p) →
    regD P ops.toList pre arr fs ρ w K → regD P ops.toList pre arr' fs' ρ w K → wpAnyIn (FW r) 0 P .any ops Q fuel listed (actOf ρ ds) w := by
  intro fuel
  induction fuel with
  | zero =>
    intro listed arr arr' fs fs' ρ w hp hq hL hL' hf hf' hpw hpw' h h'
    obtain rfl : arr = [] := List.length_eq_zero_iff.1 hf.symm
    simp at hp
  | succ fuel ih =>
    intro listed arr arr' fs fs' ρ w hp hq hL hL' hf hf' hpw hpw' h h'
    constructor
    · intro hnil
      exfalso
      cases arr with
      | nil => simp at hf
      | cons i rest =>
        simp only [regD] at h
        cases hoo : opOf ops.toList i with
        | none => rw [hoo] at h; exact h
        | some o => exact hL.some_ready he hoo hnil
    · intro i hi
      obtain ⟨hi', hl, o, hoo, hpr⟩ := ready_iff.1 hi
      -- to the front, where nothing of its kind stands ahead
      have front : ∀ (p q : Nat) (l1 l2 : List Nat) (fs : List Fact), p ≠ q → i ≠ q → Left ops pre listed (l1 ++ i :: l2) → (l1 ++ i :: l2).Pairwise (PairR2 P ops.toList pre p q) → regD P ops.toList pre (l1 ++ i :: l2) fs ρ w K →
          stepD P ops.toList pre i o fs ρ w fun fs' ρ' w' => regD P ops.toList pre (l1 ++ l2) fs' ρ' w' K := by
        intro p q l1 l2 fs hpq hiq hL hpw h
        have hfront := regD_front (P := P) (ops := ops.toList) (pre := pre) (y := i) (oy := o) (rest := l2) (K := K) hoo (l := l1) (fs := fs) (ρ := ρ) (w := w)
          (fun x hx => by
            have hn := hL.not_pre he hoo hi' hpr (x := x) (by simp [hx])
            rw [List.pairwise_append] at hpw
            have hp := hpw.2.2 x hx i (List.mem_cons_self ..)
            rcases hp.2 with (h | ⟨ox, oy, h1, h2, h3⟩) | ⟨_, h⟩
            · rw [hn] at h; simp at h
            · rw [hoo] at h2; cases h2
              exact ⟨ox, h1, h3, hn⟩
            · exact absurd h hiq) h
        simpa only [regD, hoo] using hfront
      have sub : ∀ (l1 l2 : List Nat), (l1 ++ l2).Sublist (l1 ++ i :: l2) := fun l1 l2 => List.Sublist.append (List.Sublist.refl _) (List.sublist_cons_self _ _)
      have hia : i ∈ arr := (hL.mem i).2 ⟨hi', hl⟩
      have hia' : i ∈ arr' := (hL'.mem i).2 ⟨hi', hl⟩
      obtain ⟨l1, l2, rfl⟩ := List.append_of_mem hia
      obtain ⟨m1, m2, rfl⟩ := List.append_of_mem hia'
      have hget : ops[i]? = some o := by rw [← Array.getElem?_toList, opOf_eq]; exact hoo
      have hne : ∀ l1 l2 : List Nat, (l1 ++ i :: l2).Nodup → i ∉ l1 ++ l2 := by
        intro l1 l2 hnd hmem
        rw [List.nodup_append] at hnd
        rcases List.mem_append.1 hmem with hj | hj
        · exact hnd.2.2 i hj i (List.mem_cons_self ..) rfl
        · exact (List.nodup_cons.1 hnd.2.1).1 hj
      by_cases hip : i = p
      · have hst := stepD_stepV (front p q l1 l2 fs hpq (by rw [hip]; exact hpq) hL hpw h)
        refine step_wpOp hget hst (fun ρ' w' ⟨fs1, h1⟩ => ?_)
        exact any_of_regD hk he fuel _ _ fs1 ρ' w' (hL.next he hoo hi' hpr) (by simp at hf ⊢; omega)
          (PairR2.weaken (by rw [← hip]; exact hne _ _ hL.nodup) (hpw.sublist (sub _ _))) h1
      · by_cases hiq : i = q
        · have hst := stepD_stepV (front q p m1 m2 fs' (fun h => hpq h.symm) hip hL' hpw' h')
          refine step_wpOp hget hst (fun ρ' w' ⟨fs1, h1⟩ => ?_)
          exact any_of_regD hk he fuel _ _ fs1 ρ' w' (hL'.next he hoo hi' hpr) (by simp at hf' ⊢; omega)
            (PairR2.weaken (by rw [← hiq]; exact hne _ _ hL'.nodup) (hpw'.sublist (sub _ _))) h1
        · have hc : isAct (clsOf P o) = false := by
            cases hc : isAct (clsOf P o) with
            | false => rfl
            | true =>
              rcases hacts i o hoo hc with h | h | h
              · exact absurd h hip
              · exact absurd h hiq
              · rw [hL.not_pre he hoo hi' hpr hp] at h; simp at h
          have hst := stepD_both hc (front p q l1 l2 fs hpq hiq hL hpw h) (front q p m1 m2 fs' (fun h => hpq h.symm) hip hL' hpw' h')
          refine step_wpOp hget hst (fun ρ' w' ⟨⟨fs1, h1⟩, fs2, h2⟩ => ?_)
          have hmem : ∀ x, x ≠ i → x ∈ l1 ++ i :: l2 → x ∈ l1 ++ l2 := by
            intro x hx hm
            rcases List.mem_append.1 hm with h | h
            · exact List.mem_append_left _ h
            · rcases List.mem_cons.1 h with rfl | h
              · exact absurd rfl hx
              · exact List.mem_append_right _ h
          exact ih _ (l1 ++ l2) (m1 ++ m2) fs1 fs2 ρ' w' (hmem p (fun h => hip h.symm) hp) (hmem q (fun h => hiq h.symm) hq) (hL.next he hoo hi' hpr) (hL'.next he hoo hi' hpr) (by simp at hf ⊢; omega) (by simp at hf' ⊢; omega)
            (hpw.sublist (sub _ _)) (hpw'.sublist (sub _ _)) h1 h2
theorem nodupB_nodup : ∀ {l : List Nat}, nodupB l = true → l.Nodup
  | [], _ => .nil
  | i :: l, h => by
    simp only [nodupB, Bool.and_eq_true] at h
    exact List.nodup_cons.2 ⟨by simpa using h.1, nodupB_nodup h.2⟩
theorem arrOk_parts {ops : List Oper} {pre : List (List Nat)} {arr : List Nat} (h : arrOk P ops pre arr = true) :
    (arr.Nodup ∧ ∀ i ∈ arr, i < ops.length) ∧ arr.length = ops.length ∧ (∀ i, i < ops.length → i ∈ arr) ∧ arr.Pairwise (PairR P ops pre) ∧ EdgeOk ops pre := by
  simp only [arrOk, Bool.and_eq_true] at h
  obtain ⟨⟨⟨⟨⟨h0, h1⟩, h2⟩, h3⟩, h4⟩, h5⟩ := h
  have hz : ∀ i o, opOf ops i = some o → (o, i) ∈ ops.zipIdx := by
    intro i o ho
    rw [← opOf_eq] at ho
    rw [List.mem_zipIdx_iff_getElem?]; simpa using ho
  rw [List.all_eq_true] at h2 h4 h5
  rw [List.all_eq_true] at h0
  refine ⟨⟨nodupB_nodup h0.1, fun i hi => by simpa [Nat.blt_eq] using h0.2 i hi⟩, Nat.eq_of_beq_eq_true h1, fun i hi => by simpa using h2 i (by simpa using hi), pairsOk_pairwise h3, ?_, ?_, ?_⟩
  · intro i o ho j hj
    have := h4 _ (hz i o ho)
    simp only [List.all_eq_true, Bool.and_eq_true] at this
    simpa [Nat.blt_eq] using (this j hj).1
  · intro i o ho j hj
    have := h4 _ (hz i o ho)
    simp only [List.all_eq_true, Bool.and_eq_true] at this
    exact (this j hj).2
  · intro i o ho x hx
    have := h5 _ (hz i o ho)
    simp only [List.all_eq_true, List.any_eq_true, Bool.or_eq_true] at this
    obtain ⟨j, hj, hh⟩ := this x (by simpa using hx)
    refine ⟨j, hj, ?_⟩
    rcases hh with hh | hh
    · exact .inl (Nat.eq_of_beq_eq_true hh)
    · exact .inr hh
theorem pairsOk2_pairwise {ops : List Oper} {pre : List (List Nat)} {p q : Nat} : ∀ {arr : List Nat}, pairsOk2 P ops pre p q arr = true → arr.Pairwise (PairR2 P ops pre p q)
  | [], _ => .nil
  | i :: rest, h => by
    simp only [pairsOk2, Bool.and_eq_true, List.all_eq_true] at h
    obtain ⟨⟨h1, h2⟩, h3⟩ := h
    refine .cons (fun j hj => ⟨by have := h1 j hj; simpa using this, ?_⟩) (pairsOk2_pairwise h3)
    have := h2 j hj
    simp only [Bool.or_eq_true, Bool.and_eq_true] at this
    rcases this with (h | h) | h
    · exact .inl (.inl h)
    · split at h
      · exact .inl (.inr ⟨_, _, by assumption, by assumption, h⟩)
      · simp at h
    · exact .inr ⟨Nat.eq_of_beq_eq_true h.1, Nat.eq_of_beq_eq_true h.2⟩
theorem edgesOk_ok {ops : List Oper} {pre : List (List Nat)} (h : edgesOk ops pre = true) : EdgeOk ops pre := by
  simp only [edgesOk, Bool.and_eq_true] at h
  obtain ⟨h4, h5⟩ := h
  have hz : ∀ i o, opOf ops i = some o → (o, i) ∈ ops.zipIdx := by
    intro i o ho
    rw [← opOf_eq] at ho
    rw [List.mem_zipIdx_iff_getElem?]; simpa using ho
  rw [List.all_eq_true] at h4 h5
  refine ⟨?_, ?_, ?_⟩
  · intro i o ho j hj
    have := h4 _ (hz i o ho)
    simp only [List.all_eq_true, Bool.and_eq_true] at this
    simpa [Nat.blt_eq] using (this j hj).1
  · intro i o ho j hj
    have := h4 _ (hz i o ho)
    simp only [List.all_eq_true, Bool.and_eq_true] at this
    exact (this j hj).2
  · intro i o ho x hx
    have := h5 _ (hz i o ho)
    simp only [List.all_eq_true, List.any_eq_true, Bool.or_eq_true] at this
    obtain ⟨j, hj, hh⟩ := this x (by simpa using hx)
    refine ⟨j, hj, ?_⟩
    rcases hh with hh | hh
    · exact .inl (Nat.eq_of_beq_eq_true hh)
    · exact .inr hh
theorem start_left {ops : Array Oper} {pre : List (List Nat)} {arr : List Nat} (hnd : arr.Nodup) (hlt : ∀ i ∈ arr, i < ops.toList.length) (hcov : ∀ i, i < ops.toList.length → i ∈ arr)
    (hf : arr.Pairwise fun i j => (preOf pre i).contains j = false) : Left ops pre (Array.replicate ops.size false) arr := by
  refine ⟨by simp, ?_, hnd, hf, ?_⟩
  · intro i
    have : i < ops.size → (Array.replicate ops.size false).getD i true = false := by
      intro hi; simp [Array.getD, hi]
    exact ⟨fun hi => ⟨by simpa using hlt i hi, this (by simpa using hlt i hi)⟩, fun hi => hcov i (by simpa using hi.1)⟩
  · intro i hi hl
    simp [Array.getD, hi] at hl
theorem draw_wpIn {r : Option Nat} {id : Nat} {ops : Array Oper} {ds : List Deferred} {Q : Exit → Act → World → Prop} {K : Env → World → Prop} {ρ : Env} {w : World}
    (hm : P.follows .mixedOrders = true) (hk : ∀ ρ' w', K ρ' w' → Q .normal (actOf ρ' ds) w') (h : drawV P ops.toList ρ w K) :
    (Code.region id ops true).wpIn (FW r) 0 P Q (actOf ρ ds) w := by
  refine wpIn_region_any hm ?_
  unfold drawV at h
  split at h
  · rename_i ha
    obtain ⟨⟨hnd, hlt⟩, hlen, hcov, hpw, he⟩ := arrOk_parts ha
    exact any_of_regD hk he ops.size (Array.replicate ops.size false) _ [] ρ _ (start_left hnd hlt hcov (hpw.imp fun hh => hh.1)) (by rw [hlen]; simp) hpw (h _ rfl)
  · split at h
    · rename_i p q rest hacts0
      split at h
      · rename_i ha
        rw [Bool.and_eq_true] at ha
        obtain ⟨hrest, ha⟩ := ha
        rw [List.all_eq_true] at hrest
        simp only [Bool.and_eq_true] at ha
        have parts : ∀ {p q : Nat} {arr : List Nat}, arrOk2 P ops.toList (preAll ops.toList []) p q arr = true →
            (arr.Nodup ∧ ∀ i ∈ arr, i < ops.toList.length) ∧ arr.length = ops.toList.length ∧ (∀ i, i < ops.toList.length → i ∈ arr) ∧ arr.Pairwise (PairR2 P ops.toList (preAll ops.toList []) p q) ∧ EdgeOk ops.toList (preAll ops.toList []) ∧
            (∃ r, actsOf P ops.toList arr = p :: q :: r) ∧ p ≠ q := by
          intro p q arr h
          simp only [arrOk2, Bool.and_eq_true] at h
          obtain ⟨⟨⟨⟨⟨h0, h1⟩, h2⟩, h3⟩, h4⟩, h5⟩ := h
          rw [List.all_eq_true] at h0 h2
          refine ⟨⟨nodupB_nodup h0.1, fun i hi => by simpa [Nat.blt_eq] using h0.2 i hi⟩, Nat.eq_of_beq_eq_true h1, fun i hi => by simpa using h2 i (by simpa using hi), pairsOk2_pairwise h3, edgesOk_ok h4, ?_⟩
          split at h5
          · rename_i x y hxy
            simp only [Bool.and_eq_true, Bool.not_eq_true'] at h5
            obtain rfl := Nat.eq_of_beq_eq_true h5.1.1
            obtain rfl := Nat.eq_of_beq_eq_true h5.1.2
            exact ⟨⟨_, hxy⟩, fun h => by rw [h] at h5; simp at h5⟩
          · simp at h5
        obtain ⟨⟨hnd, hlt⟩, hlen, hcov, hpw, he, _, hpq⟩ := parts ha.1
        obtain ⟨⟨hnd', hlt'⟩, hlen', hcov', hpw', _, _, _⟩ := parts ha.2
        have hm1 : ∀ x, x ∈ [p, q] → x ∈ greedy P ops.toList ops.toList.length [] (List.range ops.toList.length) := fun x hx => by
          have : x ∈ actsOf P ops.toList (greedy P ops.toList ops.toList.length [] (List.range ops.toList.length)) := by rw [hacts0]; rcases List.mem_cons.1 hx with h | h <;> simp_all
          exact (List.mem_filter.1 this).1
        refine any_of_regD2 hk he hpq ?_ ops.size (Array.replicate ops.size false) _ _ [] [] ρ _ (hm1 p (by simp)) (hm1 q (by simp)) (start_left hnd hlt hcov (hpw.imp fun hh => hh.1)) (start_left hnd' hlt' hcov' (hpw'.imp fun hh => hh.1))
          (by rw [hlen]; simp) (by rw [hlen']; simp) hpw hpw' (h _ rfl).1 (h _ rfl).2
        intro i o ho hi
        have hil : i < ops.toList.length := by
          rw [← opOf_eq] at ho
          exact (List.getElem?_eq_some_iff.1 ho).1
        have : i ∈ actsOf P ops.toList (greedy P ops.toList ops.toList.length [] (List.range ops.toList.length)) := List.mem_filter.2 ⟨hcov i hil, by rw [ho]; exact hi⟩
        rw [hacts0] at this
        rcases List.mem_cons.1 this with h | h
        · exact .inl h
        · rcases List.mem_cons.1 h with h | h
          · exact .inr (.inl h)
          · exact .inr (.inr (hrest i h))
      · exact h.elim
    · exact h.elim
end
end Go.Eng
namespace Go.Eng
open Go
section
variable {P : Program} {TT : List (Nat × TypeId)}
theorem seqK_mono {N N' : Env → List Nat → World → Prop} {Q Q' : Kont} (hn : ∀ ρ D w, N ρ D w → N' ρ D w) (hq : ∀ e ρ D w, Q e ρ D w → Q' e ρ D w) : ∀ e ρ D w, seqK N Q e ρ D w → seqK N' Q' e ρ D w := by
  intro e ρ D w; cases e <;> simp only [seqK] <;> first | exact hn _ _ _ | exact hq _ _ _ _
theorem blockK_mono {id : Nat} {Q Q' : Kont} (hq : ∀ e ρ D w, Q e ρ D w → Q' e ρ D w) : ∀ e ρ D w, blockK id Q e ρ D w → blockK id Q' e ρ D w := by
  intro e ρ D w; cases e <;> simp only [blockK] <;> first | exact hq _ _ _ _ | (split <;> exact hq _ _ _ _)
theorem scopeK_mono {Q Q' : Kont} (hq : ∀ e ρ D w, Q e ρ D w → Q' e ρ D w) : ∀ e ρ D w, scopeK Q e ρ D w → scopeK Q' e ρ D w := by
  intro e ρ D w; cases e <;> simp only [scopeK] <;> first | exact hq _ _ _ _ | exact id
theorem stepV_mono {ops : List Oper} {o : Oper} {ρ : Env} {w : World} {K K' : Env → World → Prop} (h : ∀ ρ w, K ρ w → K' ρ w) : stepV P ops o ρ w K → stepV P ops o ρ w K' := by
  unfold stepV
  split
  · exact opV_mono fun v w' => h _ _
  · split
    · exact h _ _
    · split
      · exact id
      · exact cond_mono (cond_mono (opV_mono fun v w' => h _ _) (h _ _)) (cond_mono (h _ _) (opV_mono fun v w' => h _ _))
      · exact h _ _
theorem regV_mono {ops : List Oper} : ∀ {l : List Oper} {ρ : Env} {w : World} {K K' : Env → World → Prop}, (∀ ρ w, K ρ w → K' ρ w) → regV P ops l ρ w K → regV P ops l ρ w K'
  | [], ρ, w, K, K', h => h _ _
  | o :: l, ρ, w, K, K', h => stepV_mono fun ρ w => regV_mono h
theorem regD_mono {ops : List Oper} {pre : List (List Nat)} : ∀ {l : List Nat} {fs : List Fact} {ρ : Env} {w : World} {K K' : Env → World → Prop}, (∀ ρ w, K ρ w → K' ρ w) → regD P ops pre l fs ρ w K → regD P ops pre l fs ρ w K'
  | [], fs, ρ, w, K, K', h => h _ _
  | i :: l, fs, ρ, w, K, K', h => by
    simp only [regD]
    cases opOf ops i with
    | none => exact id
    | some o => exact stepD_mono fun fs ρ w => regD_mono h
theorem drawV_mono {ops : List Oper} {ρ : Env} {w : World} {K K' : Env → World → Prop} (h : ∀ ρ w, K ρ w → K' ρ w) : drawV P ops ρ w K → drawV P ops ρ w K' := by
  unfold drawV
  split
  · exact fun hd w' hw => regD_mono h (hd w' hw)
  · split
    · split
      · exact fun hd w' hw => ⟨regD_mono h (hd w' hw).1, regD_mono h (hd w' hw).2⟩
      · exact id
    · exact id
theorem allC_mono : ∀ {ks : List CK} {p q : List Value → Prop}, (∀ v, p v → q v) → allC ks p → allC ks q
  | [], p, q, h => h _
  | k :: ks, p, q, h => by
    cases k <;> simp only [allC] <;> first
      | exact fun hh a b c => allC_mono (fun vs => h _) (hh a b c)
      | exact fun hh a => allC_mono (fun vs => h _) (hh a)
theorem meetK_mono {m : List Nat} {ρ : Env} {f : List Value → Option (World → Prop)} {Q Q' : Kont} (hq : ∀ e ρ D w, Q e ρ D w → Q' e ρ D w) : ∀ e ρ' D w, meetK m ρ f Q e ρ' D w → meetK m ρ f Q' e ρ' D w :=
  seqK_mono (fun _ _ _ => id) hq
theorem allIds_mono : ∀ {l : List Nat} {p q : Nat → Prop}, (∀ i, p i → q i) → allIds l p → allIds l q
  | [], p, q, h => id
  | [i], p, q, h => h _
  | i :: j :: l, p, q, h => fun ⟨h1, h2⟩ => ⟨h _ h1, allIds_mono (l := j :: l) h h2⟩
theorem vc_mono : ∀ {c : Code} {n : Nat} {Q Q' : Kont} {ρ : Env} {D : List Nat} {w : World}, (∀ e ρ D w, Q e ρ D w → Q' e ρ D w) → vc P TT c n Q ρ D w → vc P TT c n Q' ρ D w := by
  intro c
  induction c with
  | skip => intro n Q Q' ρ D w h; exact h _ _ _ _
  | label l => intro n Q Q' ρ D w h; exact h _ _ _ _
  | exit id => intro n Q Q' ρ D w h; exact h _ _ _ _
  | ret => intro n Q Q' ρ D w h; exact h _ _ _ _
  | seq a b iha ihb => intro n Q Q' ρ D w h; exact iha (seqK_mono (fun ρ D w => ihb h) h)
  | cond c a b iha ihb =>
    intro n Q Q' ρ D w h
    simp only [vc]
    split
    · split
      · exact cond_mono (iha h) (ihb h)
      · exact fun ⟨J, h1, h2⟩ => ⟨J, cond_mono (iha (meetK_mono h)) (ihb (meetK_mono h)) h1, fun jk w => allC_mono (fun cs hh hJ => h _ _ _ _ (hh hJ)) (h2 jk w)⟩
    · exact id
  | block id b ih =>
    intro n Q Q' ρ D w h
    simp only [vc]
    split
    · exact ih (blockK_mono h)
    · exact fun ⟨J, h1, h2⟩ => ⟨J, ih (blockK_mono (meetK_mono h)) h1, fun jk w => allC_mono (fun cs hh hJ => h _ _ _ _ (hh hJ)) (h2 jk w)⟩
  | scope b ih => intro n Q Q' ρ D w h; exact ih (scopeK_mono h)
  | region id ops draw =>
    intro n Q Q' ρ D w h
    simp only [vc]
    split
    · exact regV_mono fun ρ w => h _ _ _ _
    · exact drawV_mono fun ρ w => h _ _ _ _
  | loop b ih =>
    intro n Q Q' ρ D w h
    simp only [vc]
    split
    · rintro ⟨J, μ, h0, hr⟩
      exact ⟨J, μ, h0, fun jk w => allC_mono (fun cs hh hJ => ih (seqK_mono (fun _ _ _ => id) h) (hh hJ)) (hr jk w)⟩
    · exact id
  | rangeFunc f ps a b iha ihb =>
    intro n Q Q' ρ D w h
    simp only [vc]
    split
    · split
      · split
        · split
          · rintro ⟨xs, Kp, I, Ix, h1, h2, h3, h4, h5⟩
            exact ⟨xs, Kp, I, Ix, h1, h2, fun d W a b c => h _ _ _ _ (h3 d W a b c), fun d pre W a b c e => h _ _ _ _ (h4 d pre W a b c e), allIds_mono (fun id hh d pre W a b c e => h _ _ _ _ (hh d pre W a b c e)) h5⟩
          · exact id
        · exact id
      · exact id
    · exact id
  | goto l => intro n Q Q' ρ D w h; exact id
  | refuse why => intro n Q Q' ρ D w h; exact id
end
end Go.Eng
namespace Go.Eng
open Go
section
variable {P : Program} {TT : List (Nat × TypeId)}
def Fr (l : List Nat) (ρ ρ' : Env) : Prop := ρ'.length = ρ.length ∧ ∀ i, l.contains i = false → gt ρ' i = gt ρ i
theorem Fr.refl (l : List Nat) (ρ : Env) : Fr l ρ ρ := ⟨rfl, fun _ _ => rfl⟩
theorem Fr.trans {l : List Nat} {a b c : Env} (h : Fr l a b) (h' : Fr l b c) : Fr l a c := ⟨h'.1.trans h.1, fun i hi => (h'.2 i hi).trans (h.2 i hi)⟩
theorem Fr.mono {l l' : List Nat} {a b : Env} (hs : ∀ i, l.contains i = true → l'.contains i = true) (h : Fr l a b) : Fr l' a b :=
  ⟨h.1, fun i hi => h.2 i (by cases hc : l.contains i with | false => rfl | true => rw [hs i hc] at hi; simp at hi)⟩
theorem Fr.put {l : List Nat} {ρ : Env} {d : Option Tmp} {v : Value} (hd : ∀ t, d = some t → l.contains t = true) : Fr l ρ (putD ρ d v) := by
  refine ⟨putD_length _ _ _, fun i hi => ?_⟩
  cases d with
  | none => rfl
  | some t =>
    simp only [putD]
    rw [gt_st_other]
    rintro rfl
    rw [hd _ rfl] at hi; simp at hi
theorem stepV_frame {ops : List Oper} {o : Oper} {ρ : Env} {w : World} {K : Env → World → Prop} {l : List Nat} (hd : ∀ t, o.dst = some t → l.contains t = true) (h : stepV P ops o ρ w K) :
    stepV P ops o ρ w fun ρ' w' => K ρ' w' ∧ Fr l ρ ρ' := by
  unfold stepV at h ⊢
  split at h
  · exact opV_mono (fun v w' hk => ⟨hk, Fr.put hd⟩) h
  · split at h
    · exact ⟨h, Fr.put hd⟩
    · split at h
      · exact h.elim
      · rename_i dd _ _ b hb
        have hs : st ρ dd (.bool b) = ρ := st_self _ _ _ hb
        cases b with
        | true =>
          simp only [cond_true, hs] at h ⊢
          revert h
          exact cond_mono (opV_mono fun v w' hk => ⟨hk, Fr.put hd⟩) (fun hk => ⟨hk, Fr.put hd⟩)
        | false =>
          simp only [cond_false, hs] at h ⊢
          revert h
          exact cond_mono (fun hk => ⟨hk, Fr.put hd⟩) (opV_mono fun v w' hk => ⟨hk, Fr.put hd⟩)
      · exact ⟨h, Fr.put hd⟩
theorem regV_frame {ops : List Oper} {m : List Nat} : ∀ {l : List Oper} {ρ : Env} {w : World} {K : Env → World → Prop}, (∀ o ∈ l, ∀ t, o.dst = some t → m.contains t = true) → regV P ops l ρ w K →
    regV P ops l ρ w fun ρ' w' => K ρ' w' ∧ Fr m ρ ρ'
  | [], ρ, w, K, hm, h => ⟨h, Fr.refl _ _⟩
  | o :: l, ρ, w, K, hm, h => by
    simp only [regV] at h ⊢
    refine stepV_mono (fun ρ' w' hk => ?_) (stepV_frame (l := m) (hm o (List.mem_cons_self ..)) h)
    exact regV_mono (fun ρ'' w'' hk' => ⟨hk'.1, hk.2.trans hk'.2⟩) (regV_frame (fun o ho => hm o (List.mem_cons_of_mem _ ho)) hk.1)
theorem stepD_frame {ops : List Oper} {pre : List (List Nat)} {i : Nat} {o : Oper} {fs : List Fact} {ρ : Env} {w : World} {K : List Fact → Env → World → Prop} {l : List Nat}
    (hd : ∀ t, o.dst = some t → l.contains t = true) (h : stepD P ops pre i o fs ρ w K) : stepD P ops pre i o fs ρ w fun fs' ρ' w' => K fs' ρ' w' ∧ Fr l ρ ρ' := by
  rcases stepD_cases h with ⟨v, hv⟩ | ⟨_, a, cs, v, hh, hv⟩ | ⟨_, hv⟩
  · exact (hv _ _ _ _ (fun _ _ => rfl)).2 ⟨(hv _ _ _ _ (fun _ _ => rfl)).1 h, Fr.put hd⟩
  · exact (hv _ _ _ _ (fun _ _ => rfl) hh).2 ⟨(hv _ _ _ _ (fun _ _ => rfl) hh).1 h, Fr.put hd⟩
  · refine (hv _ _ _ _ (fun _ _ => rfl)).2 (opV_mono (fun v w' hk' => ?_) ((hv _ _ _ _ (fun _ _ => rfl)).1 h))
    rw [keepV_iff] at hk' ⊢
    exact ⟨hk'.1, hk'.2, Fr.put hd⟩
theorem opOf_mem : ∀ {ops : List Oper} {i : Nat} {o : Oper}, opOf ops i = some o → o ∈ ops
  | [], i, o, h => by simp [opOf] at h
  | x :: l, 0, o, h => by simp only [opOf, Option.some.injEq] at h; subst h; exact List.mem_cons_self ..
  | x :: l, n + 1, o, h => List.mem_cons_of_mem _ (opOf_mem (by simpa [opOf] using h))
theorem regD_frame {ops : List Oper} {pre : List (List Nat)} {m : List Nat} (hm : ∀ o ∈ ops, ∀ t, o.dst = some t → m.contains t = true) : ∀ {l : List Nat} {fs : List Fact} {ρ : Env} {w : World} {K : Env → World → Prop},
    regD P ops pre l fs ρ w K → regD P ops pre l fs ρ w fun ρ' w' => K ρ' w' ∧ Fr m ρ ρ'
  | [], fs, ρ, w, K, h => ⟨h, Fr.refl _ _⟩
  | i :: l, fs, ρ, w, K, h => by
    simp only [regD] at h ⊢
    cases ho : opOf ops i with
    | none => rw [ho] at h; exact h
    | some o =>
      rw [ho] at h
      refine stepD_mono (fun fs' ρ' w' hk => ?_) (stepD_frame (l := m) (hm o (opOf_mem ho)) h)
      exact regD_mono (fun ρ'' w'' hk' => ⟨hk'.1, hk.2.trans hk'.2⟩) (regD_frame hm hk.1)
theorem drawV_frame {ops : List Oper} {ρ : Env} {w : World} {K : Env → World → Prop} {m : List Nat} (hm : ∀ o ∈ ops, ∀ t, o.dst = some t → m.contains t = true) (h : drawV P ops ρ w K) :
    drawV P ops ρ w fun ρ' w' => K ρ' w' ∧ Fr m ρ ρ' := by
  unfold drawV at h ⊢
  split at h
  · exact fun w' hw => regD_frame hm (h w' hw)
  · split at h
    · split at h
      · exact fun w' hw => ⟨regD_frame hm (h w' hw).1, regD_frame hm (h w' hw).2⟩
      · exact h.elim
    · exact h.elim
theorem hdOf_length (m : List Nat) (jk : Nat → Value) : ∀ (ρ : Env) (i : Nat) (cs : List Value), (hdOf m jk i ρ cs).length = ρ.length
  | [], i, cs => rfl
  | v :: ρ, i, cs => by
    simp only [hdOf]
    split
    · split <;> simp [hdOf_length m jk ρ]
    · simp [hdOf_length m jk ρ]
theorem hdOf_gt (m : List Nat) (jk : Nat → Value) : ∀ (ρ : Env) (i : Nat) (cs : List Value) (k : Nat), m.contains (i + k) = false → gt (hdOf m jk i ρ cs) k = gt ρ k
  | [], i, cs, k, h => rfl
  | v :: ρ, i, cs, 0, h => by
    simp only [hdOf]
    have : m.contains i = false := h
    rw [this]
    rfl
  | v :: ρ, i, cs, k + 1, h => by
    have ih := fun cs => hdOf_gt m jk ρ (i + 1) cs k (by rw [show i + 1 + k = i + (k + 1) by omega]; exact h)
    simp only [hdOf]
    split
    · split <;> exact ih _
    · exact ih _
theorem hd_fr (m : List Nat) (jk : Nat → Value) (ρ : Env) (cs : List Value) : Fr m ρ (hdOf m jk 0 ρ cs) :=
  ⟨hdOf_length _ _ _ _ _, fun i hi => hdOf_gt _ _ _ _ _ _ (by simpa using hi)⟩
def FrC (c : Code) (ρ : Env) (D : List Nat) (ρ' : Env) (D' : List Nat) : Prop := Fr (modsC c) ρ ρ' ∧ (noRF c = true → D' = D)
theorem vc_frame : ∀ {c : Code} {n : Nat} {Q : Kont} {ρ : Env} {D : List Nat} {w : World}, vc P TT c n Q ρ D w → vc P TT c n (fun e ρ' D' w' => Q e ρ' D' w' ∧ FrC c ρ D ρ' D') ρ D w := by
  intro c
  induction c with
  | skip => intro n Q ρ D w h; exact ⟨h, Fr.refl _ _, fun _ => rfl⟩
  | label l => intro n Q ρ D w h; exact ⟨h, Fr.refl _ _, fun _ => rfl⟩
  | exit id => intro n Q ρ D w h; exact ⟨h, Fr.refl _ _, fun _ => rfl⟩
  | ret => intro n Q ρ D w h; exact ⟨h, Fr.refl _ _, fun _ => rfl⟩
  | seq a b iha ihb =>
    intro n Q ρ D w h
    have hml : ∀ i, (modsC a).contains i = true → (modsC (.seq a b)).contains i = true := fun i hi => by simp [modsC] at hi ⊢; exact .inl hi
    have hmr : ∀ i, (modsC b).contains i = true → (modsC (.seq a b)).contains i = true := fun i hi => by simp [modsC] at hi ⊢; exact .inr hi
    have hnl : noRF (.seq a b) = true → noRF a = true ∧ noRF b = true := fun hh => by simpa [noRF] using hh
    show vc P TT a _ _ ρ D w
    refine vc_mono ?_ (iha h)
    rintro e ρ' D' w' ⟨hq, hf⟩
    cases e <;> simp only [seqK] at hq ⊢
    case normal =>
      refine vc_mono ?_ (ihb hq)
      rintro e ρ'' D'' w'' ⟨hq', hf'⟩
      exact ⟨hq', (hf.1.mono hml).trans (hf'.1.mono hmr), fun hn => (hf'.2 (hnl hn).2).trans (hf.2 (hnl hn).1)⟩
    all_goals exact ⟨hq, hf.1.mono hml, fun hn => hf.2 (hnl hn).1⟩
  | cond c a b iha ihb =>
    intro n Q ρ D w h
    have hml : ∀ i, (modsC a).contains i = true → (modsC (.cond c a b)).contains i = true := fun i hi => by simp [modsC] at hi ⊢; exact .inl hi
    have hmr : ∀ i, (modsC b).contains i = true → (modsC (.cond c a b)).contains i = true := fun i hi => by simp [modsC] at hi ⊢; exact .inr hi
    have hnl : noRF (.cond c a b) = true → noRF a = true ∧ noRF b = true := fun hh => by simpa [noRF] using hh
    have K : ∀ {e : Exit} {ρ' : Env} {D' : List Nat} {w' : World} {f : List Value → Option (World → Prop)} {x : Code} (hml : ∀ i, (modsC x).contains i = true → (modsC (.cond c a b)).contains i = true) (hx : noRF (.cond c a b) = true → noRF x = true),
        meetK (modsC (.cond c a b)) ρ f Q e ρ' D' w' ∧ FrC x ρ D ρ' D' → meetK (modsC (.cond c a b)) ρ f (fun e ρ' D' w' => Q e ρ' D' w' ∧ FrC (.cond c a b) ρ D ρ' D') e ρ' D' w' := by
      rintro e ρ' D' w' f x hml hx ⟨hq, hf⟩
      cases e <;> simp only [meetK, seqK] at hq ⊢
      case normal => exact hq
      all_goals exact ⟨hq, hf.1.mono hml, fun hn => hf.2 (hx hn)⟩
    simp only [vc] at h ⊢
    split at h
    · split at h
      · revert h
        exact cond_mono (fun h => vc_mono (fun e ρ' D' w' ⟨hq, hf⟩ => ⟨hq, hf.1.mono hml, fun hn => hf.2 (hnl hn).1⟩) (iha h))
          (fun h => vc_mono (fun e ρ' D' w' ⟨hq, hf⟩ => ⟨hq, hf.1.mono hmr, fun hn => hf.2 (hnl hn).2⟩) (ihb h))
      · obtain ⟨J, h1, h2⟩ := h
        refine ⟨J, ?_, fun jk w => allC_mono (fun cs hh hJ => ⟨hh hJ, hd_fr _ _ _ _, fun _ => rfl⟩) (h2 jk w)⟩
        revert h1
        exact cond_mono (fun h => vc_mono (fun e ρ' D' w' hh => K hml (fun hn => (hnl hn).1) hh) (iha h)) (fun h => vc_mono (fun e ρ' D' w' hh => K hmr (fun hn => (hnl hn).2) hh) (ihb h))
    · exact h.elim
  | block id b ih =>
    intro n Q ρ D w h
    simp only [vc] at h ⊢
    split at h
    · refine vc_mono ?_ (ih h)
      rintro e ρ' D' w' ⟨hq, hf⟩
      have hf' : FrC (.block id b) ρ D ρ' D' := hf
      cases e <;> simp only [blockK] at hq ⊢
      case exit id' => split <;> rename_i hb <;> rw [hb] at hq <;> exact ⟨hq, hf'⟩
      all_goals exact ⟨hq, hf'⟩
    · obtain ⟨J, h1, h2⟩ := h
      refine ⟨J, ?_, fun jk w => allC_mono (fun cs hh hJ => ⟨hh hJ, hd_fr _ _ _ _, fun _ => rfl⟩) (h2 jk w)⟩
      refine vc_mono ?_ (ih h1)
      rintro e ρ' D' w' ⟨hq, hf⟩
      have hf' : FrC (.block id b) ρ D ρ' D' := hf
      cases e <;> simp only [blockK, meetK, seqK] at hq ⊢
      case normal => exact hq
      case exit id' =>
        split <;> rename_i hb <;> rw [hb] at hq
        · exact hq
        · exact ⟨hq, hf'⟩
      all_goals exact ⟨hq, hf'⟩
  | scope b ih =>
    intro n Q ρ D w h
    show vc P TT b _ _ ρ D w
    refine vc_mono ?_ (ih h)
    rintro e ρ' D' w' ⟨hq, hf⟩
    have hf' : FrC (.scope b) ρ D ρ' D' := hf
    cases e <;> simp only [scopeK] at hq ⊢
    all_goals exact ⟨hq, hf'⟩
  | region id ops draw =>
    intro n Q ρ D w h
    simp only [vc] at h ⊢
    have hm : ∀ o ∈ ops.toList, ∀ t, o.dst = some t → (modsC (.region id ops draw)).contains t = true := by
      intro o ho t ht
      simp only [modsC, List.contains_iff_mem, List.mem_append]
      exact .inl (List.mem_filterMap.2 ⟨o, ho, ht⟩)
    split at h
    · exact regV_mono (fun ρ' w' hk => ⟨hk.1, hk.2, fun _ => rfl⟩) (regV_frame hm h)
    · exact drawV_mono (fun ρ' w' hk => ⟨hk.1, hk.2, fun _ => rfl⟩) (drawV_frame hm h)
  | loop b ih =>
    intro n Q ρ D w h
    simp only [vc] at h ⊢
    split at h
    · rename_i hn
      obtain ⟨J, μ, h0, hr⟩ := h
      refine ⟨J, μ, h0, fun jk w => allC_mono (fun cs hh hJ => ?_) (hr jk w)⟩
      refine vc_mono ?_ (ih (hh hJ))
      rintro e ρ' D' w' ⟨hq, hf⟩
      have hf' : FrC (.loop b) ρ D ρ' D' := ⟨(hd_fr _ _ _ _).trans hf.1, hf.2⟩
      cases e <;> simp only [seqK] at hq ⊢
      case normal => exact hq
      all_goals exact ⟨hq, hf'⟩
    · exact h.elim
  | rangeFunc f ps a b iha ihb =>
    intro n Q ρ D w h
    simp only [vc] at h ⊢
    have hn : ∀ {d : Nat}, FrC (.rangeFunc f ps a b) ρ D ρ (d :: D) := ⟨Fr.refl _ _, fun h => by simp [noRF] at h⟩
    split at h
    · split at h
      · split at h
        · split at h
          · obtain ⟨xs, Kp, I, Ix, h1, h2, h3, h4, h5⟩ := h
            exact ⟨xs, Kp, I, Ix, h1, h2, fun d W a b c => ⟨h3 d W a b c, hn⟩, fun d pre W a b c e => ⟨h4 d pre W a b c e, hn⟩, allIds_mono (fun id hh d pre W a b c e => ⟨hh d pre W a b c e, hn⟩) h5⟩
          · exact h.elim
        · exact h.elim
      · exact h.elim
    · exact h.elim
  | goto l => intro n Q ρ D w h; exact h.elim
  | refuse why => intro n Q ρ D w h; exact h.elim
end
end Go.Eng
namespace Go.Eng
open Go
section
variable {P : Program} {TT : List (Nat × TypeId)}
def Up (Q : Kont) : Exit → Act → World → Prop := fun e a w => ∃ ρ D, a = actOf ρ (dfs D) ∧ Q e ρ D w
theorem stepR_scope {b : Frame} {a : Act} {k : List Item} {cs : List Frame} {w : World} {c : Code} : step P (lone (b.atR a (.code (.scope c) :: k)) cs w) = .next (lone (b.atR a (.code c :: .inScope c :: k)) cs w) :=
  step_lone_go (by simp [stepG, stepG.exec, Frame.atR])
theorem stepR_inScope {b : Frame} {a : Act} {k : List Item} {cs : List Frame} {w : World} {c : Code} : step P (lone (b.atR a (.inScope c :: k)) cs w) = .next (lone (b.atR a k) cs w) :=
  step_lone_go (by simp [stepG, stepG.exec, Frame.atR])
theorem wpIn_scope' {F : Fence} {n : Nat} {Q : Exit → Act → World → Prop} {a : Act} {w : World} {c : Code} (h : c.wpIn F n P (Exit.noGoto Q) a w) : (Code.scope c).wpIn F n P Q a w := by
  intro b k cs hro hb hr
  have h0 : (lone (b.atR a (.code (.scope c) :: k)) cs w).fenced P F := fenced_calm hb hr rfl
  obtain ⟨e, a₁, w₁, hq, harr⟩ := h b (.inScope c :: k) cs hro hb hr
  have hx : ∀ id, exitTo id (.inScope c :: k) = exitTo id k := fun id => by simp [exitTo]
  cases e with
  | normal => exact ⟨.normal, a₁, w₁, hq, .head h0 stepR_scope (StepsIn.trans harr (.one (fenced_calm hb hr rfl) stepR_inScope))⟩
  | exit id => exact ⟨.exit id, a₁, w₁, hq, fun k' hk => .head h0 stepR_scope (harr.1 k' (by rw [hx]; exact hk)), fun hr' hk => let ⟨k₁, h1, h2⟩ := harr.2 hr' (by rw [hx]; exact hk); ⟨k₁, h1, .head h0 stepR_scope h2⟩⟩
  | goto l => exact hq.elim
  | ret => exact ⟨.ret, a₁, w₁, hq, ArrivesIn.of_steps (e := .ret) (k := k) (.one h0 stepR_scope) harr⟩
  | panic ch => exact ⟨.panic ch, a₁, w₁, hq, ArrivesIn.of_steps (e := .panic ch) (k := k) (.one h0 stepR_scope) harr⟩
  | outgrown => exact ⟨.outgrown, a₁, w₁, hq, ArrivesIn.of_steps (e := .outgrown) (k := k) (.one h0 stepR_scope) harr⟩
theorem room_FW (r : Option Nat) (n : Nat) : (FW r).room n := fun d h => by simp [FW, Fence.wide] at h
theorem wpIn_n {r : Option Nat} {n m : Nat} {Q : Exit → Act → World → Prop} {a : Act} {w : World} {c : Code} (h : c.wpIn (FW r) n P Q a w) : c.wpIn (FW r) m P Q a w :=
  fun b k cs hro hb hr => h b k cs hro hb (room_FW r _)
theorem cellsL_agg (l : List Value) : cellsL (.agg l.toArray) = l := rfl
theorem ckVs_length : ∀ {vs : List Value} {ks : List CK}, ckVs vs = some ks → ks.length = vs.length
  | [], ks, h => by simp only [ckVs, Option.some.injEq] at h; subst h; rfl
  | v :: vs, ks, h => by
    simp only [ckVs] at h
    split at h
    · cases hc : ckVs vs with
      | none => rw [hc] at h; simp at h
      | some ks' => rw [hc] at h; simp only [Option.map_some, Option.some.injEq] at h; subst h; simp [ckVs_length hc]
    · simp at h
/-- How many cells. -/
theorem ksOf_cells (m : List Nat) (jk : Nat → Value) : ∀ (ρ : Env) (i : Nat) (cs : List Value), cs.length = (ksOf m i ρ).length → csOf m i ρ (hdOf m jk i ρ cs) = cs
  | [], i, cs, h => by
    simp only [ksOf, List.length_nil, List.length_eq_zero_iff] at h; subst h; rfl
  | v :: ρ, i, cs, h => by
    simp only [ksOf, csOf, hdOf] at h ⊢
    cases hm : m.contains i with
    | false =>
      rw [hm] at h
      simp only [List.tail_cons]
      exact ksOf_cells m jk ρ (i + 1) cs h
    | true =>
      rw [hm] at h
      simp only
      cases hv : vkS v with
      | one k =>
        rw [hv] at h
        simp only [gt, sl, Sl.val, List.tail_cons] at h ⊢
        cases cs with
        | nil => simp at h
        | cons c cs =>
          have ih := ksOf_cells m jk ρ (i + 1) cs (by simpa using h)
          simp only [List.tail_cons, ih, gtL]
      | agg ks =>
        rw [hv] at h
        simp only [List.length_append, gt, sl, Sl.val, List.tail_cons, cellsL_agg] at h ⊢
        have ih := ksOf_cells m jk ρ (i + 1) (cs.drop ks.length) (by simp; omega)
        rw [ih]; simp
      | dead =>
        rw [hv] at h
        simp only [List.tail_cons]
        exact ksOf_cells m jk ρ (i + 1) cs h
theorem vals_cons (s : Sl) (ρ : Env) : vals (s :: ρ) = s.val :: vals ρ := rfl
theorem gt_zero (s : Sl) (ρ : Env) : gt (s :: ρ) 0 = s.val := rfl
theorem gt_succ (s : Sl) (ρ : Env) (n : Nat) : gt (s :: ρ) (n + 1) = gt ρ n := rfl
theorem recon (m : List Nat) : ∀ (ρ ρ' : Env) (i : Nat) (jk : Nat → Value), ρ'.length = ρ.length → (∀ k, m.contains (i + k) = false → gt ρ' k = gt ρ k) → (∀ k, jk (i + k) = gt ρ' k) → shapeOk m i ρ ρ' = true →
    vals ρ' = vals (hdOf m jk i ρ (csOf m i ρ ρ'))
  | [], ρ', i, jk, hl, _, _, _ => by
    simp only [List.length_nil, List.length_eq_zero_iff] at hl; subst hl; rfl
  | v :: ρ, [], i, jk, hl, _, _, _ => by simp at hl
  | v :: ρ, u :: ρ', i, jk, hl, hf, hj, hs => by
    have hl' : ρ'.length = ρ.length := by simpa using hl
    have hf' : ∀ k, m.contains (i + 1 + k) = false → gt ρ' k = gt ρ k := fun k hk => by
      have := hf (k + 1) (by rw [show i + (k + 1) = i + 1 + k by omega]; exact hk)
      simpa [gt_succ] using this
    have hj' : ∀ k, jk (i + 1 + k) = gt ρ' k := fun k => by
      have := hj (k + 1); rw [show i + (k + 1) = i + 1 + k by omega] at this; simpa [gt_succ] using this
    simp only [shapeOk, csOf, hdOf] at hs ⊢
    cases hm : m.contains i with
    | false =>
      rw [hm] at hs
      simp only [List.tail_cons] at hs ⊢
      have h0 : u.val = v.val := by simpa [gt_zero] using hf 0 hm
      rw [vals_cons, vals_cons, h0, ← recon m ρ ρ' (i + 1) jk hl' hf' hj' hs]
    | true =>
      rw [hm] at hs
      simp only at hs ⊢
      cases hv : vkS v with
      | one k =>
        rw [hv] at hs
        simp only [gtL, List.tail_cons] at hs ⊢
        rw [vals_cons, vals_cons, ← recon m ρ ρ' (i + 1) jk hl' hf' hj' hs]
        rfl
      | agg ks =>
        rw [hv] at hs
        simp only [gt_zero, List.tail_cons] at hs ⊢
        split at hs
        · rename_i cs hcs
          simp only [Bool.and_eq_true] at hs
          have hcl : cs.toList.length = ks.length := Nat.eq_of_beq_eq_true hs.1
          rw [hcs]
          simp only [cellsL]
          rw [List.take_left' hcl, List.drop_left' hcl, vals_cons, vals_cons, ← recon m ρ ρ' (i + 1) jk hl' hf' hj' hs.2, hcs]
          rfl
        · simp at hs
      | dead =>
        rw [hv] at hs
        simp only [List.tail_cons] at hs ⊢
        have h0 : jk i = u.val := by simpa [gt_zero] using hj 0
        rw [vals_cons, vals_cons, h0, ← recon m ρ ρ' (i + 1) jk hl' hf' hj' hs]
        rfl
/-- What a curried function of cells is handed has the kinds. -/
theorem allC_appC {β : Type} : ∀ {ks : List CK} {J : Cur β ks} {cs : List Value} {x : β} {f : List Value → Prop}, appC ks J cs = some x → allC ks f → f cs ∧ cs.length = ks.length
  | [], J, [], x, f, h, hf => ⟨hf, rfl⟩
  | [], J, c :: cs, x, f, h, hf => by simp [appC] at h
  | k :: ks, J, [], x, f, h, hf => by cases k <;> simp [appC] at h
  | .int k :: ks, J, c :: cs, x, f, h, hf => by
    cases c with
    | int k' n =>
      have h1 : (match Nat.beq (ki k) (ki k') with | true => appC ks (J n) cs | false => none) = some x := h
      cases hk : Nat.beq (ki k) (ki k') with
      | true =>
        rw [hk] at h1
        obtain rfl := ki_inj hk
        have := allC_appC (f := fun vs => f (.int k n :: vs)) h1 (hf n); exact ⟨this.1, by simp [this.2]⟩
      | false => rw [hk] at h1; simp at h1
    | _ => simp [appC] at h
  | .bool :: ks, J, c :: cs, x, f, h, hf => by
    cases c with
    | bool a =>
      have h1 : appC ks (J a) cs = some x := h
      have := allC_appC (f := fun vs => f (.bool a :: vs)) h1 (hf a); exact ⟨this.1, by simp [this.2]⟩
    | _ => simp [appC] at h
  | .str :: ks, J, c :: cs, x, f, h, hf => by
    cases c with
    | string a =>
      have h1 : appC ks (J a) cs = some x := h
      have := allC_appC (f := fun vs => f (.string a :: vs)) h1 (hf a); exact ⟨this.1, by simp [this.2]⟩
    | _ => simp [appC] at h
  | .sl :: ks, J, c :: cs, x, f, h, hf => by
    cases c with
    | slice a b c =>
      have h1 : appC ks (J a b c) cs = some x := h
      have := allC_appC (f := fun vs => f (.slice a b c :: vs)) h1 (hf a b c); exact ⟨this.1, by simp [this.2]⟩
    | _ => simp [appC] at h
  | .ptr :: ks, J, c :: cs, x, f, h, hf => by
    cases c with
    | pointer a =>
      have h1 : appC ks (J a) cs = some x := h
      have := allC_appC (f := fun vs => f (.pointer a :: vs)) h1 (hf a); exact ⟨this.1, by simp [this.2]⟩
    | _ => simp [appC] at h
  | .map :: ks, J, c :: cs, x, f, h, hf => by
    cases c with
    | map a =>
      have h1 : appC ks (J a) cs = some x := h
      have := allC_appC (f := fun vs => f (.map a :: vs)) h1 (hf a); exact ⟨this.1, by simp [this.2]⟩
    | _ => simp [appC] at h
  | .fn :: ks, J, c :: cs, x, f, h, hf => by
    have h1 : appC ks (J c) cs = some x := by simpa [appC] using h
    have := allC_appC (f := fun vs => f (c :: vs)) h1 (hf c); exact ⟨this.1, by simp [this.2]⟩
  | .any :: ks, J, c :: cs, x, f, h, hf => by
    have h1 : appC ks (J c) cs = some x := by simpa [appC] using h
    have := allC_appC (f := fun vs => f (c :: vs)) h1 (hf c); exact ⟨this.1, by simp [this.2]⟩
theorem holdsAt_some {x : Option (World → Prop)} {w : World} (h : holdsAt x w) : ∃ p, x = some p ∧ p w := by
  unfold holdsAt at h; split at h
  · exact ⟨_, rfl, h⟩
  · exact h.elim
end
end Go.Eng
namespace Go.Eng
open Go
section
variable {P : Program} {TT : List (Nat × TypeId)}
theorem asgOps_run {r : Option Nat} {ops : Array Oper} {ds : List Deferred} {w : World} {Q : Exit → Act → World → Prop} : ∀ (n i : Nat) (ρ ρ' : Env), i + n = ops.size → asgOps (ops.toList.drop i) ρ = some ρ' →
    Q .normal (actOf ρ' ds) w → wpOpsIn (FW r) 0 P ops Q (List.range' i n) (actOf ρ ds) w
  | 0, i, ρ, ρ', hi, h, hq => by
    rw [List.drop_of_length_le (by simp; omega)] at h
    simp only [asgOps, Option.some.injEq] at h; subst h
    exact hq
  | n + 1, i, ρ, ρ', hi, h, hq => by
    have hlt : i < ops.toList.length := by simp; omega
    rw [List.drop_eq_getElem_cons hlt] at h
    rw [List.range'_succ, wpOpsIn_cons]
    have ho : ops[i]? = some ops.toList[i] := by rw [← Array.getElem?_toList]; simp [hlt]
    generalize ops.toList[i] = o at h ho
    simp only [asgOps] at h
    cases hg : o.guard with
    | some g => rw [hg] at h; simp at h
    | none =>
      rw [hg] at h
      simp only at h
      have fin : ∀ x, opV P o ρ w (fun v w' => v = ev ρ x ∧ w' = w) → asgOps (ops.toList.drop (i + 1)) (putD ρ o.dst (ev ρ x)) = some ρ' →
          wpOpIn (FW r) 0 P ops Q i (wpOpsIn (FW r) 0 P ops Q (List.range' (i + 1) n)) (actOf ρ ds) w := by
        intro x hx h
        refine step_wpOp ho (K := fun ρ1 w' => ρ1 = putD ρ o.dst (ev ρ x) ∧ w' = w) ?_ (fun ρ1 w' hh => ?_)
        · unfold stepV; rw [hg]
          exact opV_mono (fun v w' hh => ⟨by rw [hh.1], hh.2⟩) hx
        · rw [hh.1, hh.2]
          exact asgOps_run n (i + 1) _ ρ' (by omega) h hq
      cases hop : o.op <;> rw [hop] at h <;> simp only at h <;> try (simp at h; done)
      case move x => exact fin x (by unfold opV; rw [hop]; exact ⟨rfl, rfl⟩) h
      case assign x => exact fin x (by unfold opV; rw [hop]; exact ⟨rfl, rfl⟩) h
theorem asg_run {r : Option Nat} {ds : List Deferred} {w : World} : ∀ {c : Code} {ρ ρ' : Env} {Q : Exit → Act → World → Prop}, asg c ρ = some ρ' → Q .normal (actOf ρ' ds) w → c.wpIn (FW r) 0 P Q (actOf ρ ds) w := by
  intro c
  induction c with
  | skip => intro ρ ρ' Q h hq; simp only [asg, Option.some.injEq] at h; subst h; exact wpIn_skip hq
  | region id ops draw =>
    intro ρ ρ' Q h hq
    cases draw with
    | true => simp [asg] at h
    | false =>
      simp only [asg] at h
      refine wpIn_region ?_
      rw [List.range_eq_range']
      exact asgOps_run ops.size 0 ρ ρ' (by omega) (by simpa using h) hq
  | seq a b iha ihb =>
    intro ρ ρ' Q h hq
    simp only [asg] at h
    cases ha : asg a ρ with
    | none => rw [ha] at h; simp at h
    | some ρ1 =>
      rw [ha] at h
      exact wpIn_seq (iha ha (ihb h hq))
  | _ => intro ρ ρ' Q h hq; simp [asg] at h
theorem stAt_eq : ∀ (ps : List Nat) (vs : List Value) (ρ : Env), (ps.zip vs).foldl (fun (t : Array Value) (x : Nat × Value) => t.setIfInBounds x.1 x.2) (vals ρ).toArray = (vals (stAt ρ ps vs)).toArray
  | [], vs, ρ => by simp [stAt]
  | p :: ps, [], ρ => by simp [stAt]
  | p :: ps, v :: vs, ρ => by
    simp only [List.zip_cons_cons, List.foldl_cons, stAt]
    rw [List.setIfInBounds_toArray, st_eq]
    exact stAt_eq ps vs _
theorem allV_ex {t : TypeId} {p f : Value → Prop} (h : exV P t p) (hf : allV P t f) : ∃ v, p v ∧ f v := by
  have key : ∀ (ks : List CK) (p f : List Value → Prop), exCs ks p → allC ks f → ∃ vs, vs.length = ks.length ∧ p vs ∧ f vs := by
    intro ks
    induction ks with
    | nil => intro p f h hf; exact ⟨[], rfl, h, hf⟩
    | cons k ks ih =>
      intro p f h hf
      cases k <;> simp only [exCs, exC] at h <;> simp only [allC] at hf
      case sl =>
        obtain ⟨a, l, c, h⟩ := h
        obtain ⟨vs, h0, h1, h2⟩ := ih _ _ h (hf a l c); exact ⟨_, by simp [h0], h1, h2⟩
      case fn =>
        obtain ⟨g, c, h⟩ := h
        obtain ⟨vs, h0, h1, h2⟩ := ih _ _ h (hf _); exact ⟨_, by simp [h0], h1, h2⟩
      all_goals
        obtain ⟨a, h⟩ := h
        obtain ⟨vs, h0, h1, h2⟩ := ih _ _ h (hf a); exact ⟨_, by simp [h0], h1, h2⟩
  unfold exV at h
  unfold allV at hf
  split at h
  · rename_i ha
    rw [ha] at hf
    obtain ⟨vs, _, h1, h2⟩ := key _ _ _ h hf; exact ⟨_, h1, h2⟩
  · rename_i ha
    rw [ha] at hf
    obtain ⟨vs, h0, h1, h2⟩ := key [ckOf1 P t] (fun vs => p (gtL vs 0)) _ (by
      simp only [exCs]
      exact h) hf
    exact ⟨_, h1, h2⟩
theorem allTs_hasT : ∀ {ts : List TypeId} {vs : List Value} {f : List Value → Prop}, hasT P ts vs → allTs P ts f → f vs
  | [], vs, f, h, hf => by
    have : [] = vs := h
    subst this; exact hf
  | t :: ts, vs, f, h, hf => by
    have h' : exV P t fun v => exTs P ts fun us => v :: us = vs := h
    obtain ⟨v, h1, h2⟩ := allV_ex h' hf
    obtain ⟨us, hu⟩ := exTs_ex h1
    subst hu
    have h3 : hasT P ts us := exTs_mono (fun us' hh => by simpa using hh) h1
    exact allTs_hasT (f := fun us => f (v :: us)) h3 h2
theorem hasT_length : ∀ {ts : List TypeId} {vs : List Value}, hasT P ts vs → vs.length = ts.length
  | [], vs, h => by
    have : [] = vs := h
    subst this; rfl
  | t :: ts, vs, h => by
    obtain ⟨v, h1⟩ := exV_ex (show exV P t fun v => exTs P ts fun us => v :: us = vs from h)
    obtain ⟨us, hu⟩ := exTs_ex h1
    subst hu
    have h3 : hasT P ts us := exTs_mono (fun us' hh => by simpa using hh) h1
    simp [hasT_length h3]
theorem allIds_mem : ∀ {l : List Nat} {p : Nat → Prop}, allIds l p → ∀ i, l.contains i = true → p i
  | [], p, h, i, hi => by simp at hi
  | [j], p, h, i, hi => by
    obtain rfl : i = j := by simpa using hi
    exact h
  | j :: k :: l, p, h, i, hi => by
    simp only [List.contains_cons, Bool.or_eq_true, beq_iff_eq] at hi
    rcases hi with rfl | hi
    · exact h.1
    · exact allIds_mem (l := k :: l) h.2 i (by simpa using hi)
theorem allC_true : ∀ ks : List CK, allC ks fun _ => True := by
  intro ks
  induction ks with
  | nil => trivial
  | cons k ks ih => cases k <;> simp only [allC] <;> first | exact fun _ _ _ => ih | exact fun _ => ih
/-- Where ways meet: what follows goes on. -/
theorem meet_up {m : List Nat} {ρ ρ' : Env} {D : List Nat} {w' : World} {J : Cur (World → Prop) (ksOf m 0 ρ)} {Q : Kont}
    (h2 : ∀ (jk : Nat → Value) (w : World), allC (ksOf m 0 ρ) fun cs => holdsAt (appC _ J cs) w → Q .normal (hdOf m jk 0 ρ cs) D w)
    (hq : match shapeOk m 0 ρ ρ' with | true => holdsAt (appC _ J (csOf m 0 ρ ρ')) w' | false => False) (hfr : Fr m ρ ρ') : Up Q .normal (actOf ρ' (dfs D)) w' := by
  split at hq
  · rename_i hsh
    obtain ⟨p, hp, _⟩ := holdsAt_some hq
    have := (allC_appC hp (h2 (gt ρ') w')).1 hq
    refine ⟨_, D, ?_, this⟩
    unfold actOf
    rw [← recon m ρ ρ' 0 (gt ρ') hfr.1 (fun k hk => hfr.2 k (by simpa using hk)) (fun k => by simp) hsh]
  · exact hq.elim
theorem vc_sound (hm : P.follows .mixedOrders = true) : ∀ (c : Code) (n : Nat) (r : Option Nat) (Q : Kont) (ρ : Env) (D : List Nat) (w : World), (noRF c = true ∨ r = none) → vc P TT c n Q ρ D w → c.wpIn (FW r) 0 P (Up Q) (actOf ρ (dfs D)) w := by
  intro c
  induction c with
  | skip => intro n r Q ρ D w hr h; exact wpIn_skip ⟨ρ, D, rfl, h⟩
  | label l => intro n r Q ρ D w hr h; exact wpIn_label ⟨ρ, D, rfl, h⟩
  | exit id => intro n r Q ρ D w hr h; exact wpIn_exit ⟨ρ, D, rfl, h⟩
  | ret => intro n r Q ρ D w hr h; exact wpIn_ret ⟨ρ, D, rfl, h⟩
  | seq a b iha ihb =>
    intro n r Q ρ D w hr h
    have hl : noRF a = true ∨ r = none := hr.imp (fun h => by simp [noRF] at h; exact h.1) id
    have hrr : noRF b = true ∨ r = none := hr.imp (fun h => by simp [noRF] at h; exact h.2) id
    refine wpIn_seq (wpIn_mono (iha _ r _ ρ D w hl h) ?_)
    rintro e a' w' ⟨ρ', D', rfl, hq⟩
    cases e <;> simp only [seqK] at hq <;> simp only [Exit.then]
    case normal => exact ihb _ r Q ρ' D' w' hrr hq
    all_goals exact ⟨ρ', D', rfl, hq⟩
  | cond c a b iha ihb =>
    intro n r Q ρ D w hr h
    have hl : noRF a = true ∨ r = none := hr.imp (fun h => by simp [noRF] at h; exact h.1) id
    have hrr : noRF b = true ∨ r = none := hr.imp (fun h => by simp [noRF] at h; exact h.2) id
    simp only [vc] at h
    split at h
    · rename_i t ht
      refine wpIn_cond (t := t) (by rw [eval_actOf]; exact ht) ?_
      split at h
      · cases t with
        | true => exact iha _ r Q ρ D w hl h
        | false => exact ihb _ r Q ρ D w hrr h
      · rename_i hcut
        simp only [cutCond, Bool.and_eq_true] at hcut
        obtain ⟨J, h1, h2⟩ := h
        have fin : ∀ (x : Code) (hx : ∀ i, (modsC x).contains i = true → (modsC (.cond c a b)).contains i = true) (hn : noRF x = true)
            (ihx : ∀ (n : Nat) (r : Option Nat) (Q : Kont) (ρ : Env) (D : List Nat) (w : World), (noRF x = true ∨ r = none) → vc P TT x n Q ρ D w → x.wpIn (FW r) 0 P (Up Q) (actOf ρ (dfs D)) w),
            vc P TT x 0 (meetK (modsC (.cond c a b)) ρ (appC _ J) Q) ρ D w → x.wpIn (FW r) 0 P (Up Q) (actOf ρ (dfs D)) w := by
          intro x hx hn ihx h
          refine wpIn_mono (ihx 0 r _ ρ D w (.inl hn) (vc_frame h)) ?_
          rintro e a' w' ⟨ρ', D', rfl, hq, hf⟩
          cases e <;> simp only [meetK, seqK] at hq
          case normal =>
            obtain ⟨hfr, hD⟩ := hf
            obtain rfl := hD hn
            exact meet_up h2 hq (hfr.mono hx)
          all_goals exact ⟨ρ', D', rfl, hq⟩
        cases t with
        | true => exact fin a (fun i hi => by simp [modsC] at hi ⊢; exact .inl hi) hcut.2.1 iha h1
        | false => exact fin b (fun i hi => by simp [modsC] at hi ⊢; exact .inr hi) hcut.2.2 ihb h1
    · exact h.elim
  | block id b ih =>
    intro n r Q ρ D w hr h
    have up : ∀ {Q' : Kont} {n' : Nat}, vc P TT b n' (blockK id Q') ρ D w → (Code.block id b).wpIn (FW r) 0 P (Up Q') (actOf ρ (dfs D)) w := by
      intro Q' n' h
      refine wpIn_block (wpIn_mono (ih _ r _ ρ D w hr h) ?_)
      rintro e a' w' ⟨ρ', D', rfl, hq⟩
      cases e <;> simp only [blockK] at hq <;> simp only [Exit.inBlock]
      case exit id' =>
        split at hq
        · rename_i hb
          rw [if_pos (Nat.eq_of_beq_eq_true hb)]; exact ⟨ρ', D', rfl, hq⟩
        · rename_i hb
          rw [if_neg (fun h => by rw [h] at hb; simp at hb)]; exact ⟨ρ', D', rfl, hq⟩
      all_goals exact ⟨ρ', D', rfl, hq⟩
    simp only [vc] at h
    split at h
    · exact up h
    · rename_i hcut
      simp only [cutBlock, Bool.and_eq_true] at hcut
      obtain ⟨J, h1, h2⟩ := h
      -- what is left as it was, beside what holds where the ways meet
      have h1' : vc P TT b 0 (blockK id fun e ρ' D' w' => meetK (modsC b) ρ (appC _ J) Q e ρ' D' w' ∧ FrC b ρ D ρ' D') ρ D w := by
        refine vc_mono ?_ (vc_frame h1)
        rintro e ρ' D' w' ⟨hq, hf⟩
        cases e <;> simp only [blockK] at hq ⊢
        case exit id' => split <;> rename_i hb <;> rw [hb] at hq <;> exact ⟨hq, hf⟩
        all_goals exact ⟨hq, hf⟩
      refine wpIn_mono (up h1') ?_
      rintro e a' w' ⟨ρ', D', rfl, hq, hf⟩
      cases e <;> simp only [meetK, seqK] at hq
      case normal =>
        obtain ⟨hfr, hD⟩ := hf
        obtain rfl := hD hcut.2
        exact meet_up h2 hq hfr
      all_goals exact ⟨ρ', D', rfl, hq⟩
  | scope b ih =>
    intro n r Q ρ D w hr h
    refine wpIn_scope' (wpIn_mono (ih _ r _ ρ D w hr h) ?_)
    rintro e a' w' ⟨ρ', D', rfl, hq⟩
    cases e <;> simp only [scopeK] at hq <;> simp only [Exit.noGoto]
    all_goals exact ⟨ρ', D', rfl, hq⟩
  | region id ops draw =>
    intro n r Q ρ D w hr h
    simp only [vc] at h
    split at h
    · exact region_wpIn (fun ρ' w' hq => ⟨ρ', D, rfl, hq⟩) h
    · exact draw_wpIn hm (fun ρ' w' hq => ⟨ρ', D, rfl, hq⟩) h
  | loop b ih =>
    intro n r Q ρ D w hr h
    simp only [vc] at h
    split at h
    · rename_i hn
      obtain ⟨J, μ, h0, hround⟩ := h
      obtain ⟨p0, hp0, hpw⟩ := holdsAt_some h0
      -- what a round's beginning knows
      refine wpIn_loop (fun a w => ∃ jk cs, cs.length = (ksOf (modsC b) 0 ρ).length ∧ a = actOf (hdOf (modsC b) jk 0 ρ cs) (dfs D) ∧ holdsAt (appC _ J cs) w)
        (fun a w => match appC _ μ (csOf (modsC b) 0 ρ (a.tmps.toList.map Sl.v)) with | some f => f w | none => 0) ?_ ?_
      · have hcl := (allC_appC (f := fun _ => True) hp0 (allC_true _)).2
        refine ⟨gt ρ, csOf (modsC b) 0 ρ ρ, hcl, ?_, h0⟩
        unfold actOf
        rw [← recon _ ρ ρ 0 (gt ρ) rfl (fun _ _ => rfl) (fun k => by simp) ?_]
        have : ∀ (ρ : Env) (i : Nat), shapeOk (modsC b) i ρ ρ = true := by
          intro ρ
          induction ρ with
          | nil => intro i; rfl
          | cons v ρ ih =>
            intro i
            simp only [shapeOk, gt_zero, List.tail_cons]
            split
            · split
              · rename_i ks hv
                cases v with
                | j x => simp [vkS] at hv
                | v x =>
                  simp only [vkS] at hv
                  unfold vkV at hv
                  split at hv
                  · split at hv
                    · rename_i cs ks' hks
                      simp only [VK.agg.injEq] at hv; subst hv
                      simp [Sl.val, ckVs_length hks, ih]
                    · simp at hv
                  · split at hv <;> simp at hv
              · exact ih _
            · exact ih _
        exact this ρ 0
      · rintro a w ⟨jk, cs, hcl, rfl, hJ⟩
        obtain ⟨p, hp, hpw⟩ := holdsAt_some hJ
        have hvc := (allC_appC hp (hround jk w)).1 hJ
        have hks := ksOf_cells (modsC b) jk ρ 0 cs hcl
        refine wpIn_mono (ih 0 r _ _ D w (.inl hn) (vc_frame hvc)) ?_
        rintro e a' w' ⟨ρ', D', rfl, hq, hf⟩
        cases e <;> simp only [seqK] at hq <;> simp only [Exit.then]
        case normal =>
          obtain rfl : D' = D := hf.2 hn
          split at hq
          · rename_i hsh
            have hfr : Fr (modsC b) ρ ρ' := (hd_fr _ _ _ _).trans hf.1
            have hrec := recon (modsC b) ρ ρ' 0 (gt ρ') hfr.1 (fun k hk => hfr.2 k (by simpa using hk)) (fun k => by simp) hsh
            have hcsv : ∀ (ρ1 ρ2 : Env) (i : Nat), csOf (modsC b) i ρ1 ((vals ρ2).map Sl.v) = csOf (modsC b) i ρ1 ρ2 := by
              intro ρ1
              induction ρ1 with
              | nil => intro ρ2 i; rfl
              | cons v ρ1 ih =>
                intro ρ2 i
                cases ρ2 with
                | nil =>
                  have := ih [] (i + 1)
                  simp only [vals, List.map_nil] at this ⊢
                | cons u ρ2 =>
                  have := ih ρ2 (i + 1)
                  simp only [csOf, vals_cons, List.map_cons, gt_zero, List.tail_cons, this, Sl.val]
            unfold backV at hq
            split at hq
            · rename_i p' hp'
              split at hq
              · rename_i x hx
                split at hq
                · rename_i y hy
                  refine ⟨⟨gt ρ', csOf (modsC b) 0 ρ ρ', ?_, by unfold actOf; rw [← hrec], by rw [hp']; exact hq.1⟩, ?_⟩
                  · exact (allC_appC (f := fun _ => True) hp' (allC_true _)).2
                  · simp only [actOf]
                    rw [hcsv, hcsv, hks, hx, hy]
                    exact hq.2
                · exact hq.elim
              · exact hq.elim
            · exact hq.elim
          · exact hq.elim
        all_goals exact ⟨ρ', D', rfl, hq⟩
    · exact h.elim
  | rangeFunc f ps assign body iha ihb =>
    intro n r Q ρ D w hr h
    obtain rfl : r = none := by
      rcases hr with h | h
      · simp [noRF] at h
      · exact h
    simp only [vc] at h
    split at h
    · rename_i hn
      split at h
      · rename_i fn first lb hf
        split at h
        · rename_i g
          split at h
          · rename_i hfirst
            obtain ⟨xs, Kp, I, Ix, ⟨he, hseq, hty, hkp, hI, hIx, hI0⟩, hbody, hdone, hret, hexit⟩ := h
            have hfirst' : first = #[] := by cases first; simp at hfirst; rw [hfirst]
            subst hfirst'
            have hev : (actOf ρ (dfs D)).eval f = .func (.func g) #[] lb := by rw [eval_actOf]; exact hf
            refine wpIn_n (n := 2) (wpIn_rangeFunc_ownH (F := FW none) (α := {v : List Value // v ∈ xs}) (n := 2) rfl (by omega) hev trivial he hseq hkp.trans hkp.put (RowKit.Below.refl _ _)
              (fun x => by have := hasT_length (hty x.1 x.2); simpa using this)
              (fun pre W => I (pre.map (·.1)) W) (fun c pre W => match c with | .ret => Ix none (pre.map (·.1)) W | .exit id => (exitsC body []).contains id = true ∧ Ix (some id) (pre.map (·.1)) W | _ => False)
              (fun s A B row hs hg hr => hI _ A B row hs hg hr)
              (fun c s A B row hs hg hr => by
                cases c <;> first | exact hs.elim | exact hIx _ _ A B row hs hg hr | exact ⟨hs.1, hIx _ _ A B row hs.2 hg hr⟩)
              hI0 (fun x a' W => ∃ ρ', a' = actOf ρ' [] ∧ ∀ (pre' : List (List Value)) (W2 : World), NC w.heap.size W W2 → pre'.length < xs.length → I pre' W2 → vc P TT body 0 (roundK (exitsC body []) w W2 Kp I Ix (pre' ++ [x.1])) ρ' [] W2)
              (fun x a' s A B row ⟨ρ', h1, h2⟩ hg hr => ⟨ρ', h1, fun pre' W2 hn => h2 pre' W2 (.step row hg hr hn)⟩) ?_ ?_ ?_ ?_)
            · -- the assignment
              rintro l pre ⟨x, hx⟩ W K hIp hK
              have hz : (ps.zip x.toArray).foldl (fun (t : Array Value) (q : Nat × Value) => t.setIfInBounds q.1 q.2) (vals ρ).toArray = (vals (stAt ρ ps.toList x)).toArray := by
                rw [← stAt_eq, ← Array.foldl_toList]
                simp
              have fin : assign.wpIn ((FW none).inRound l) 0 P (Exit.then K (fun _ _ _ => False)) (actOf (stAt ρ ps.toList x) []) W →
                  assign.wpIn ((FW none).inRound l) (2 - 1 - 1) P (Exit.then K (fun _ _ _ => False)) { tmps := (ps.zip x.toArray).foldl (fun t (p, v) => t.setIfInBounds p v) (actOf ρ (dfs D)).tmps, defers := [] } W := by
                intro this
                refine (cast ?_ this)
                congr 1
                simp only [actOf]
                congr 1
                exact hz.symm
              have hbx := allTs_hasT (hty x hx) (hbody (pre.map (·.1)) W) hx
              split at hbx
              · rename_i ρ' hρ'
                refine fin (asg_run (P := P) (r := some l) (ds := []) (w := W) (Q := Exit.then K (fun _ _ _ => False)) hρ' (hK _ _ (KeepsFrom.refl _ _) (hkp.refl _) hIp ⟨ρ', rfl, fun pre' W2 _ hlen hI2 => ?_⟩))
                have hb2 := allTs_hasT (hty x hx) (hbody pre' W2) hx
                rw [hρ'] at hb2
                exact hb2 hlen hI2
              · split at hbx
                · rename_i hna
                  refine fin (wpIn_mono (iha 0 (some l) _ _ [] W (.inl hna) (vc_frame (hbx hIp))) ?_)
                  rintro e a' W' ⟨ρ', D', rfl, hq, hf⟩
                  obtain rfl : D' = [] := hf.2 hna
                  cases e <;> simp only [seqK] at hq <;> simp only [Exit.then]
                  case normal => exact hK _ _ hq.1 hq.2.1 hq.2.2.1 ⟨ρ', rfl, hq.2.2.2⟩
                · exact hbx.elim
            · -- a round
              rintro l pre ⟨x, hx⟩ a' W hl _ hIp ⟨ρ', rfl, hb⟩ hlen
              have hb := hb (pre.map (·.1)) W (.refl W) (by simpa using hlen) hIp
              refine wpIn_n (n := 0) (wpIn_mono (ihb 0 (some l) _ ρ' [] W (.inl hn) hb) ?_)
              rintro e a'' W' ⟨ρ'', D'', rfl, hq⟩
              have hmap : (pre ++ [(⟨x, hx⟩ : {v : List Value // v ∈ xs})]).map (·.1) = pre.map (·.1) ++ [x] := by simp
              cases e <;> simp only [roundK] at hq <;> simp only [ownPostG, hmap] <;> first | exact hq | exact hq.elim | (split at hq <;> first | exact ⟨hq.1, by assumption, hq.2⟩ | exact hq.elim)
            · rintro d l W hd hS hIp hD
              rw [hS] at hIp
              exact ⟨ρ, d :: D, rfl, hdone d W hd hIp hD⟩
            · rintro d c pre W hd hS hIp hD
              cases c <;> first | exact hIp.elim | skip
              case ret => exact wpIn_ret ⟨ρ, d :: D, rfl, hret d _ W hd hS hIp hD⟩
              case exit id => exact wpIn_exit ⟨ρ, d :: D, rfl, allIds_mem hexit id hIp.1 d _ W hd hS hIp.2 hD⟩
          · exact h.elim
        · exact h.elim
      · exact h.elim
    · exact h.elim
  | goto l => intro n r Q ρ D w hr h; exact h.elim
  | refuse why => intro n r Q ρ D w hr h; exact h.elim
end
end Go.Eng
namespace Go.Eng
open Go
section
variable {P : Program} {TT : List (Nat × TypeId)}
theorem ent_of {f : FuncId} {fn : Func} {c : Code} (hf : P.funcs[f]? = some fn) (hname : (fn.name == "runtime.NumGoroutine") = false) (hb : fn.body = some c) : Enters P f := by
  intro args w
  have h1 : fn.name ≠ "runtime.NumGoroutine" := by simpa using hname
  simp [callFunc, hf, h1, hb, mark]
def resM (ρ : Env) : ResultVar → Sem Value
  | .tmp t => pure ((vals ρ).toArray.getD t undef)
  | .cell a t => do loadVar t (← asAddr ((vals ρ).toArray.getD a undef))
theorem retV_run {ρ : Env} {w : World} : ∀ {rs : List ResultVar} {K : List Value → Prop}, retV P ρ w rs K →
    ∃ vs, (rs.mapM (resM ρ)).run P w = .ok vs w ∧ K vs
  | [], K, h => ⟨[], by simp, h⟩
  | .tmp t :: rs, K, h => by
    obtain ⟨vs, hr, hk⟩ := retV_run (rs := rs) (K := fun vs => K (gt ρ t :: vs)) h
    refine ⟨gt ρ t :: vs, ?_, hk⟩
    have : (vals ρ).toArray.getD t undef = gt ρ t := by rw [← gt_eq]; simp
    rw [List.mapM_cons]
    simp only [Sem.run_bind, resM, this]
    rw [show (pure (gt ρ t) : Sem Value).run P w = .ok (gt ρ t) w from rfl]
    simp only [Result.andThen, Sem.run_bind, hr]
    rfl
  | .cell p t :: rs, K, h => by
    simp only [retV] at h
    split at h
    · rename_i a ha
      obtain ⟨v, hv, h⟩ := run_loadVar' h
      obtain ⟨vs, hr, hk⟩ := retV_run (rs := rs) (K := fun vs => K (v :: vs)) h
      refine ⟨v :: vs, ?_, hk⟩
      have : (vals ρ).toArray.getD p undef = .pointer (some a) := by rw [← ha, ← gt_eq]; simp
      rw [List.mapM_cons]
      simp only [Sem.run_bind, resM, this, asAddr]
      rw [show (pure a : Sem Addr).run P w = .ok a w from rfl]
      simp only [Result.andThen, Sem.run_bind, hv, hr]
      rfl
    · exact h.elim
theorem results_run {fn : Func} {ρ : Env} {w : World} {R : Value → Prop} (h : retV P ρ w fn.results.toList fun vs => R (resV vs)) :
    ∃ v, (results fn (vals ρ).toArray).run P w = .ok v w ∧ R v := by
  obtain ⟨vs, hr, hk⟩ := retV_run h
  refine ⟨_, ?_, hk⟩
  have hm : (fn.results.mapM (resM ρ)).run P w = .ok vs.toArray w := by
    rw [Array.mapM_eq_mapM_toList]
    have hmap : ∀ X : Sem (List Value), (List.toArray <$> X : Sem (Array Value)) = X >>= fun l => pure l.toArray := fun _ => rfl
    rw [hmap, Sem.run_bind, hr]
    rfl
  have hres : results fn (vals ρ).toArray = (do
      let vs ← fn.results.mapM (resM ρ)
      pure (if h : vs.size = 1 then vs[0] else .tuple vs)) := by
    unfold results
    congr 1
  rw [hres, Sem.run_bind]
  refine (congrArg (fun r => Result.andThen r _) hm).trans ?_
  simp only [Result.andThen]
  match vs with
  | [] => rfl
  | [v] => rfl
  | v :: u :: vs => rfl
theorem marks_leaves {fn : Func} {ρ : Env} {R : Value → World → Prop} : ∀ {D : List Nat} {w : World}, marksV w D (fun w' => retV P ρ w' fn.results.toList fun vs => R (resV vs) w') →
    LeavesInM Fence.wide 0 P fn (vals ρ).toArray (fun e w' => ∃ v, e = .returned v ∧ R v w') (dfs D) .returning w
  | [], w, h => by
    obtain ⟨v, hr, hk⟩ := results_run (R := fun v => R v w) h
    exact ⟨v, hr, v, rfl, hk⟩
  | d :: D, w, h => by
    obtain ⟨hd, h⟩ := h
    refine ⟨by simp, .inl ⟨d, _, rfl, run_takeDeferred hd, ?_⟩⟩
    exact marks_leaves (h _ rfl)
/-- **A function's contract, out of its verification condition.** -/
theorem fn_sound (hm : P.follows .mixedOrders = true) {f : FuncId} {fn : Func} {args : List Value} {w : World} {R : Value → World → Prop} (hf : P.funcs[f]? = some fn) (he : Enters P f)
    (h : fnV P TT fn args w R) : Cl P f args.toArray w R := by
  refine ⟨he, ?_⟩
  unfold fnV at h
  split at h
  · rename_i c hb
    refine callsIn_wide.1 (callsIn_of_wp_marks (F := Fence.wide) (n := 0) hf hb trivial ?_ rfl)
    have hs := vc_sound (TT := TT) hm c 0 none _ _ [] w (.inr rfl) h
    have ha : actOf (args.map Sl.v ++ List.replicate (fn.ntmps - args.length) (.v undef)) (dfs []) = { tmps := args.toArray ++ Array.replicate (fn.ntmps - args.toArray.size) undef, defers := [] } := by
      simp only [actOf, dfs, List.map_nil]
      congr 1
      apply Array.toList_inj.1
      simp only [vals, List.map_append, List.map_map, List.map_replicate, Array.toList_append, Array.toList_replicate, List.size_toArray]
      rw [show (Sl.val ∘ Sl.v) = id from rfl, List.map_id]
      rfl
    rw [ha] at hs
    refine wpIn_mono (show c.wpIn Fence.wide 0 P _ _ w from hs) ?_
    rintro e a' w' ⟨ρ', D', rfl, hq⟩
    cases e <;> simp only [endV] at hq <;> first | exact marks_leaves hq | exact hq.elim
  · exact h.elim
end
end Go.Eng
namespace Go.Eng
open Go Go.RowKit
variable {α : Type} {P : Program}
theorem Cl.mono {g : FuncId} {args : Array Value} {w : World} {K K' : Value → World → Prop} (h : Cl P g args w K) (hk : ∀ v w', K v w' → K' v w') : Cl P g args w K' :=
  ⟨h.1, h.2.mono fun e w' ⟨v, he, hv⟩ => ⟨v, he, hk v w' hv⟩⟩
theorem add_add (p : Addr) (m n : Nat) : (p.add m).add n = p.add (m + n) := by
  unfold Addr.add
  by_cases h1 : m = 0
  · subst h1; simp
  · by_cases h2 : n = 0
    · subst h2; simp [h1]
    · simp [h1, h2, Nat.add_assoc]
theorem add_block (p : Addr) (n : Nat) : (p.add n).block = p.block := by
  unfold Addr.add; split <;> rfl
theorem blk_cell {w : World} {b : Nat} {cs : Array Value} {t : TypeId} {fr : Nat × Nat} (h : w.heap[b]? = some (.cells cs t fr)) (j : Nat) : w.cell? ⟨b, j, none⟩ = cs[j]? := by
  simp [World.cell?, h]
theorem blk_some {w : World} {b : Nat} {cs : Array Value} {t : TypeId} {fr : Nat × Nat} (h : w.heap[b]? = some (.cells cs t fr)) {j : Nat} (hj : j < cs.size) : (w.cell? ⟨b, j, none⟩).isSome = true := by
  rw [blk_cell h]; simp [hj]
theorem blk_free {w : World} {b : Nat} {cs : Array Value} {t : TypeId} (h : w.heap[b]? = some (.cells cs t (0, 0))) (j : Nat) : w.frozen? ⟨b, j, none⟩ = false := by
  simp [World.frozen?, h]
theorem blk_lt {w : World} {b : Nat} {o : Obj} (h : w.heap[b]? = some o) : b < w.heap.size := (Array.getElem?_eq_some_iff.1 h).1
theorem blk_new {w : World} (o : Obj) : (w.alloc o).heap[w.heap.size]? = some o := heap_alloc_new w o
theorem blk_alloc {w : World} {b : Nat} {o o' : Obj} (h : w.heap[b]? = some o) : (w.alloc o').heap[b]? = some o := (heap_alloc_old w o' b (blk_lt h)).trans h
theorem blk_drew {w : World} {b : Nat} {o : Obj} (h : w.heap[b]? = some o) : w.drew.heap[b]? = some o := h
theorem blk_set {w : World} {b : Nat} {cs : Array Value} {t : TypeId} {fr : Nat × Nat} (h : w.heap[b]? = some (.cells cs t fr)) (j : Nat) (v : Value) : (w.setCell ⟨b, j, none⟩ v).heap[b]? = some (.cells (cs.setIfInBounds j v) t fr) := by
  simp [World.setCell, Array.getElem?_modify, h]
theorem blk_far {w : World} {b : Nat} {o : Obj} (h : w.heap[b]? = some o) {a : Addr} (hn : b ≠ a.block) (v : Value) : (w.setCell a v).heap[b]? = some o := (Below.heap_setCell w a v b hn).trans h
theorem blk_below {w w' : World} {B b : Nat} {o : Obj} (h : w.heap[b]? = some o) (hB : Below B w w') (hb : b < B) : w'.heap[b]? = some o := (hB.block b hb).trans h
theorem size_alloc (w : World) (o : Obj) : (w.alloc o).heap.size = w.heap.size + 1 := by simp
theorem size_set (w : World) (a : Addr) (v : Value) : (w.setCell a v).heap.size = w.heap.size := by simp
/-- Elements, one behind the other, from where a slice points. -/
def Rd (enc : α → List Value) (w : World) (a : Option Addr) (n : Nat) (l : List α) : Prop :=
  n = l.length ∧ (l = [] ∨ ∃ p, a = some p ∧ Holds w p (l.flatMap enc))
theorem length_flat {enc : α → List Value} {k : Nat} (hk : ∀ x, (enc x).length = k) : ∀ l : List α, (l.flatMap enc).length = l.length * k
  | [] => by simp
  | x :: l => by simp [List.flatMap_cons, hk, length_flat hk l, Nat.add_mul, Nat.add_comm]
theorem flat_get {enc : α → List Value} {k : Nat} (hk : ∀ x, (enc x).length = k) : ∀ (l : List α) (i j : Nat) (hi : i < l.length), j < k → (l.flatMap enc)[i * k + j]? = (enc l[i])[j]?
  | x :: l, 0, j, hi, hj => by
    simp only [List.flatMap_cons, Nat.zero_mul, Nat.zero_add, List.getElem_cons_zero]
    rw [List.getElem?_append_left (by rw [hk]; exact hj)]
  | x :: l, i + 1, j, hi, hj => by
    simp only [List.flatMap_cons, List.getElem_cons_succ]
    rw [List.getElem?_append_right (by rw [hk, Nat.add_mul]; omega), hk]
    have : (i + 1) * k + j - k = i * k + j := by rw [Nat.add_mul]; omega
    rw [this]
    exact flat_get hk l i j (by simpa using hi) hj
theorem Rd.len {enc : α → List Value} {w : World} {a : Option Addr} {n : Nat} {l : List α} (h : Rd enc w a n l) : n = l.length := h.1
theorem Rd.nil {enc : α → List Value} {w : World} {a : Option Addr} : Rd enc w a 0 [] := ⟨rfl, .inl rfl⟩
theorem Rd.get {enc : α → List Value} {k : Nat} (hk : ∀ x, (enc x).length = k) {w : World} {a : Option Addr} {n : Nat} {l : List α} (h : Rd enc w a n l) {i : Nat} (hi : i < l.length) :
    ∃ p, a = some p ∧ ∀ j, j < k → w.cell? ((p.add (i * k)).add j) = (enc l[i])[j]? := by
  rcases h.2 with h0 | ⟨p, hp, hh⟩
  · subst h0; simp at hi
  · refine ⟨p, hp, fun j hj => ?_⟩
    rw [add_add, ← flat_get hk l i j hi hj]
    refine hh _ ?_
    rw [length_flat hk]
    calc i * k + j < i * k + k := by omega
      _ = (i + 1) * k := by rw [Nat.add_mul]; omega
      _ ≤ l.length * k := Nat.mul_le_mul_right _ hi
theorem Holds.block_lt {w : World} {p : Addr} {cs : List Value} (h : Holds w p cs) (hc : cs ≠ []) : p.block < w.heap.size := by
  cases cs with
  | nil => exact absurd rfl hc
  | cons v cs =>
    have := h 0 (by simp)
    simp only [List.getElem?_cons_zero] at this
    have := World.block_lt_of_cell? w _ this
    rwa [add_block] at this
theorem Holds.of_block {w w' : World} {p : Addr} {cs : List Value} (h : Holds w p cs) (hb : cs ≠ [] → w'.heap[p.block]? = w.heap[p.block]?) : Holds w' p cs := by
  intro j hj
  rw [← h j hj]
  refine World.cell?_of_block ?_
  rw [add_block]
  exact hb (by intro h; subst h; simp at hj)
theorem Rd.keep {enc : α → List Value} {w w' : World} {a : Option Addr} {n : Nat} {l : List α} (h : Rd enc w a n l) (hb : ∀ p, a = some p → p.block < w.heap.size → w'.heap[p.block]? = w.heap[p.block]?) : Rd enc w' a n l := by
  refine ⟨h.1, ?_⟩
  rcases h.2 with h0 | ⟨p, hp, hh⟩
  · exact .inl h0
  · exact .inr ⟨p, hp, hh.of_block fun hc => hb p hp (hh.block_lt hc)⟩
/-- What was read is read wherever the world has grown alone. -/
theorem Rd.below {enc : α → List Value} {w w' : World} {a : Option Addr} {n : Nat} {l : List α} (h : Rd enc w a n l) (hB : Below w.heap.size w w') : Rd enc w' a n l :=
  h.keep fun p _ hp => hB.block _ hp
/-- A part of what is read. -/
theorem Rd.take {enc : α → List Value} {w : World} {a : Option Addr} {n : Nat} {l : List α} (h : Rd enc w a n l) (m : Nat) (hm : m ≤ n) : Rd enc w a m (l.take m) := by
  refine ⟨by have := h.1; simp; omega, ?_⟩
  rcases h.2 with h0 | ⟨p, hp, hh⟩
  · subst h0; exact .inl (by simp)
  · refine .inr ⟨p, hp, fun j hj => ?_⟩
    have e : l.flatMap enc = (l.take m).flatMap enc ++ (l.drop m).flatMap enc := by rw [← List.flatMap_append, List.take_append_drop]
    have := hh j (by rw [e, List.length_append]; omega)
    rw [this, e, List.getElem?_append_left hj]
theorem Rd.drop {enc : α → List Value} {k : Nat} (hk : ∀ x, (enc x).length = k) {w : World} {a : Option Addr} {n : Nat} {l : List α} (h : Rd enc w a n l) (m : Nat) (hm : m ≤ n) {c : Nat} (hc : n ≤ c) : Rd enc w (offA a c m k) (n - m) (l.drop m) := by
  refine ⟨by have := h.1; simp; omega, ?_⟩
  rcases h.2 with h0 | ⟨p, hp, hh⟩
  · subst h0; exact .inl (by simp)
  · by_cases hml : l.length ≤ m
    · exact .inl (by simp [hml])
    · refine .inr ⟨p.add (m * k), ?_, fun j hj => ?_⟩
      · have : Nat.beq c m = false := by
          rw [Bool.eq_false_iff]; intro hh
          have := Nat.eq_of_beq_eq_true hh
          have := h.1; omega
        simp [offA, this, hp]
      · have e : l.flatMap enc = (l.take m).flatMap enc ++ (l.drop m).flatMap enc := by rw [← List.flatMap_append, List.take_append_drop]
        have hl : ((l.take m).flatMap enc).length = m * k := by rw [length_flat hk, List.length_take, Nat.min_eq_left (by omega)]
        rw [add_add]
        have := hh (m * k + j) (by rw [e, List.length_append, hl]; omega)
        rw [this, e, List.getElem?_append_right (by omega), hl]
        simp
/-- A slice of memory made from a block on: its elements; where room is left, that is free. -/
def Own (enc : α → List Value) (k : Nat) (e : TypeId) (lo : Nat) (w : World) (a : Option Addr) (n c : Nat) (l : List α) : Prop :=
  n = l.length ∧ n ≤ c ∧ c ≤ maxLen ∧ ((a = none ∧ c = 0) ∨
    ∃ g cs, a = some ⟨g, 0, none⟩ ∧ lo ≤ g ∧ w.heap[g]? = some (.cells cs e (0, 0)) ∧ c * k ≤ cs.size ∧ cs.toList.take (n * k) = l.flatMap enc)
section
variable {enc : α → List Value} {k : Nat} {e : TypeId} {lo : Nat} {w w' : World} {a : Option Addr} {n c : Nat} {l : List α}
theorem Own.nil : Own enc k e lo w none 0 0 ([] : List α) := ⟨rfl, Nat.le_refl _, Nat.zero_le _, .inl ⟨rfl, rfl⟩⟩
theorem Own.len (h : Own enc k e lo w a n c l) : n = l.length := h.1
theorem Own.rd (h : Own enc k e lo w a n c l) : Rd enc w a n l := by
  refine ⟨h.1, ?_⟩
  rcases h.2.2.2 with ⟨ha, hc⟩ | ⟨g, cs, ha, hlo, hg, hs, ht⟩
  · have := h.1; have := h.2.1
    exact .inl (List.eq_nil_of_length_eq_zero (by omega))
  · refine .inr ⟨_, ha, fun j hj => ?_⟩
    rw [Addr.add_lit, Nat.zero_add, blk_cell hg, ← ht, List.getElem?_take, if_pos, Array.getElem?_toList]
    rw [← ht, List.length_take] at hj
    omega
theorem Own.mono {lo' : Nat} (h : Own enc k e lo w a n c l) (hl : lo' ≤ lo) : Own enc k e lo' w a n c l := by
  obtain ⟨h1, h2, h3, h4⟩ := h
  refine ⟨h1, h2, h3, h4.imp id ?_⟩
  rintro ⟨g, cs, ha, hlo, r⟩
  exact ⟨g, cs, ha, by omega, r⟩
theorem Own.keep (h : Own enc k e lo w a n c l) (hb : ∀ g cs, a = some ⟨g, 0, none⟩ → lo ≤ g → w.heap[g]? = some (.cells cs e (0, 0)) → w'.heap[g]? = some (.cells cs e (0, 0))) : Own enc k e lo w' a n c l := by
  obtain ⟨h1, h2, h3, h4⟩ := h
  refine ⟨h1, h2, h3, h4.imp id ?_⟩
  rintro ⟨g, cs, ha, hlo, hg, r⟩
  exact ⟨g, cs, ha, hlo, hb g cs ha hlo hg, r⟩
theorem Own.below (h : Own enc k e lo w a n c l) (hB : Below w.heap.size w w') : Own enc k e lo w' a n c l :=
  h.keep fun g cs _ _ hg => blk_below hg hB (blk_lt hg)
theorem Own.alloc (h : Own enc k e lo w a n c l) (o : Obj) : Own enc k e lo (w.alloc o) a n c l := h.keep fun g cs _ _ hg => blk_alloc hg
/-- A cell of another kind of block is put. -/
theorem Own.far (h : Own enc k e lo w a n c l) {b j : Nat} {cs : Array Value} {t : TypeId} {fr : Nat × Nat} (hb : w.heap[b]? = some (.cells cs t fr)) (ht : t ≠ e) (v : Value) : Own enc k e lo (w.setCell ⟨b, j, none⟩ v) a n c l :=
  h.keep fun g cs' _ _ hg => blk_far hg (by
    rintro rfl
    rw [hg] at hb
    simp only [Option.some.injEq, Obj.cells.injEq] at hb
    exact ht hb.2.1.symm) v
theorem Own.farB (h : Own enc k e lo w a n c l) {p : Addr} (hp : ∀ g, a = some ⟨g, 0, none⟩ → g ≠ p.block) (v : Value) : Own enc k e lo (w.setCell p v) a n c l :=
  h.keep fun g cs' ha _ hg => blk_far hg (hp g ha) v
theorem Own.lt (h : Own enc k e lo w a n c l) {p : Addr} (hp : a = some p) : lo ≤ p.block ∧ p.block < w.heap.size := by
  rcases h.2.2.2 with ⟨ha, hc⟩ | ⟨g, cs, ha, hlo, hg, hs, ht⟩
  · rw [ha] at hp; simp at hp
  · rw [ha] at hp; cases hp; exact ⟨hlo, blk_lt hg⟩
/-- A shorter part of it. -/
theorem Own.take (h : Own enc k e lo w a n c l) (hk : ∀ x, (enc x).length = k) (m m' : Nat) (hm : m ≤ n) (hm' : m ≤ m') (hc : m' ≤ c) : Own enc k e lo w a m m' (l.take m) := by
  obtain ⟨h1, h2, h3, h4⟩ := h
  refine ⟨by simp; omega, hm', by omega, ?_⟩
  rcases h4 with ⟨ha, hc0⟩ | ⟨g, cs, ha, hlo, hg, hs, ht⟩
  · exact .inl ⟨ha, by omega⟩
  · refine .inr ⟨g, cs, ha, hlo, hg, Nat.le_trans (Nat.mul_le_mul_right _ hc) hs, ?_⟩
    have e1 : (cs.toList.take (n * k)).take (m * k) = cs.toList.take (m * k) := by rw [List.take_take, Nat.min_eq_left (Nat.mul_le_mul_right _ hm)]
    rw [← e1, ht]
    have e2 : l.flatMap enc = (l.take m).flatMap enc ++ (l.drop m).flatMap enc := by rw [← List.flatMap_append, List.take_append_drop]
    rw [e2]
    exact List.take_left' (by rw [length_flat hk, List.length_take, Nat.min_eq_left (by omega)])
/-- A new block that holds elements is one's own. -/
theorem Own.new (hk : ∀ x, (enc x).length = k) (w : World) (l : List α) (hlo : lo ≤ w.heap.size) (hl : l.length ≤ maxLen) : Own enc k e lo (w.alloc (.cells (l.flatMap enc).toArray e)) (some ⟨w.heap.size, 0, none⟩) l.length l.length l :=
  ⟨rfl, Nat.le_refl _, hl, .inr ⟨_, _, rfl, hlo, blk_new _, by simp [length_flat hk], by rw [List.take_of_length_le]; simp [length_flat hk]⟩⟩
end
end Go.Eng
namespace Go.Eng
open Go Go.RowKit
variable {α : Type} {P : Program}
/-- A slice's type, its element's. -/
structure Ty (P : Program) (t e : TypeId) (k bytes : Nat) (z : Value) : Prop where
  ht : P.underlying t = some (.slice e)
  hi : ∃ i, P.info? e = some i ∧ i.size = k ∧ i.bytes = bytes ∧ i.zero = some z
  hz : z.cells.size = k
  pos : 0 < k
/-- How an element lies. -/
structure En (enc : α → List Value) (k : Nat) : Prop where
  len : ∀ x, (enc x).length = k
  one : ∀ x, ∀ v ∈ enc x, v.oneCell' = true
theorem En.flat {enc : α → List Value} {k : Nat} (E : En enc k) {l : List α} : ∀ v ∈ l.flatMap enc, v.oneCell' = true := by
  intro v hv
  obtain ⟨x, _, hx⟩ := List.mem_flatMap.1 hv
  exact E.one x v hx
theorem Rd.cells {enc : α → List Value} {w : World} {p : Addr} {n : Nat} {l : List α} (h : Rd enc w (some p) n l) : ∀ j v, (l.flatMap enc)[j]? = some v → w.cell? (p.add j) = some v := by
  intro j v hv
  rcases h.2 with h0 | ⟨q, hq, hh⟩
  · subst h0; simp at hv
  · cases hq
    rw [hh j (List.getElem?_eq_some_iff.1 hv).1]; exact hv
section
variable {enc : α → List Value} {k : Nat} {t e : TypeId} {bytes : Nat} {z : Value} {lo : Nat} {w : World} {a : Option Addr} {n c : Nat} {l : List α}
theorem Own.keepBlk (h : Own enc k e lo w a n c l) {w' : World} (hg : w.grownBy w' (a.map (·.block))) {b : Nat} {cs : Array Value} {t : TypeId} {fr : Nat × Nat} (hb : w.heap[b]? = some (.cells cs t fr)) (hne : t ≠ e ∨ b < lo) : w'.heap[b]? = some (.cells cs t fr) := by
  refine (hg.block b (blk_lt hb) ?_).trans hb
  intro heq
  rcases h.2.2.2 with ⟨ha, _⟩ | ⟨g, cs', ha, hlo, hgg, _⟩
  · rw [ha] at heq; simp at heq
  · rw [ha] at heq
    simp only [Option.map_some, Option.some.injEq] at heq
    subst heq
    rcases hne with hne | hne
    · rw [hgg] at hb; simp at hb; exact hne hb.2.1.symm
    · omega
theorem Own.keepOwn (h : Own enc k e lo w a n c l) {w' : World} (hg : w.grownBy w' (a.map (·.block))) {β : Type} {enc' : β → List Value} {k' : Nat} {e' : TypeId} {lo' : Nat} {a' : Option Addr} {n' c' : Nat} {l' : List β}
    (h' : Own enc' k' e' lo' w a' n' c' l') (hne : e' ≠ e) : Own enc' k' e' lo' w' a' n' c' l' :=
  h'.keep fun g cs _ _ hgg => h.keepBlk hg hgg (.inl hne)
theorem Own.belowOf (h : Own enc k e lo w a n c l) {w' : World} (hg : w.grownBy w' (a.map (·.block))) (hlo : lo ≤ w.heap.size) : Below lo w w' := by
  refine (Below.refl lo w).grown hg hlo fun k hk => ?_
  cases a with
  | none => simp at hk
  | some p => simp at hk; subst hk; exact (h.lt rfl).1
/-- append, of a row that is one's own, and one that is read. -/
theorem app_own (T : Ty P t e k bytes z) (E : En enc k) (h : Own enc k e lo w a n c l) (hlo : lo ≤ w.heap.size) {b : Option Addr} {m c' : Nat} {l' : List α} (hr : Rd enc w b m l') (hb : b = none → c' = 0)
    (h63 : n + m ≤ maxLen) (hby : (n + m) * bytes ≤ 140737488355328) {ty : TypeId} :
    ∃ (a' : Option Addr) (n' c'' : Nat) (w' : World), Sem.run P (Builtin.append_ #[t, t] ty #[.slice a n c, .slice b m c']) w = .ok (.slice a' n' c'') w' ∧ (Own enc k e lo w' a' n' c'' (l ++ l') ∧ w.grownBy w' (a.map (·.block))) := by
  obtain ⟨i, hi, hs, hbs, hz⟩ := T.hi
  have hnl := h.1
  have hml := hr.1
  subst hs; subst hbs
  cases b with
  | none =>
    have hm0 : l' = [] := by
      rcases hr.2 with h0 | ⟨p, hp, _⟩
      · exact h0
      · simp at hp
    subst hm0
    obtain rfl := hb rfl
    simp at hml; subst hml
    refine ⟨a, n, c, w, ?_, by simpa using h, ⟨rfl, rfl, rfl, Nat.le_refl _, fun _ _ _ => rfl⟩⟩
    rcases h.2.2.2 with ⟨ha, hc⟩ | ⟨g, cs, ha, _⟩
    · subst ha; subst hc
      have := h.2.1
      obtain rfl : n = 0 := by omega
      simp [Builtin.append_, run_underlying T.ht, sizeOf, typeInfo, hi, Builtin.lenOf, Builtin.firstCells]
    · subst ha
      have h2 := h.2.1
      simp [Builtin.append_, run_underlying T.ht, sizeOf, typeInfo, hi, Builtin.lenOf, Builtin.firstCells, h2, storeCells]
  | some p =>
    have hnews := hr.cells
    have hl : (l'.flatMap enc).length = m * i.size := by rw [length_flat E.len, hml]
    -- what comes of a new block
    have grown : ∀ (old : Nat) (row : Option Nat), old < n + m →
      Own enc i.size e lo (w.drew.alloc (.cells ((l.flatMap enc).toArray ++ (l'.flatMap enc).toArray ++ Builtin.zeroCells z.cells (grownCap w (n + m) old e - (n + m))) e)) (some ⟨w.heap.size, 0, none⟩) (n + m) (grownCap w (n + m) old e) (l ++ l') ∧
      w.grownBy (w.drew.alloc (.cells ((l.flatMap enc).toArray ++ (l'.flatMap enc).toArray ++ Builtin.zeroCells z.cells (grownCap w (n + m) old e - (n + m))) e)) row := by
      intro old row ho
      have hge := grownCap_ge w (n + m) old e
      refine ⟨⟨by simp [hnl, hml], hge, grownCap_le_maxLen w (n + m) old e h63, .inr ⟨_, _, rfl, hlo, blk_new _, ?_, ?_⟩⟩, ⟨rfl, rfl, rfl, by simp, fun k hk _ => heap_alloc_old w.drew _ k hk⟩⟩
      · simp only [Array.size_append, List.size_toArray, size_zeroCells, T.hz, length_flat E.len, ← Nat.add_mul, ← hnl, ← hml]
        apply Nat.le_of_eq
        congr 1
        omega
      · simp only [Array.toList_append, List.append_assoc, List.flatMap_append]
        rw [← List.append_assoc]
        exact List.take_left' (by rw [List.length_append, length_flat E.len, length_flat E.len, ← hnl, ← hml, Nat.add_mul])
    rcases h.2.2.2 with ⟨ha, hc⟩ | ⟨g, cs, ha, hlg, hg, hsz, ht⟩
    · subst ha; subst hc
      have := h.2.1
      obtain rfl : n = 0 := by omega
      obtain rfl : l = [] := List.eq_nil_of_length_eq_zero hnl.symm
      by_cases hm : m = 0
      · subst hm
        obtain rfl : l' = [] := List.eq_nil_of_length_eq_zero hml.symm
        refine ⟨none, 0, 0, w, ?_, Own.nil, ⟨rfl, rfl, rfl, Nat.le_refl _, fun _ _ _ => rfl⟩⟩
        simp [Builtin.append_, run_underlying T.ht, sizeOf, typeInfo, hi, Builtin.lenOf, Builtin.firstCells, loadCells, loadCellsFrom]
      · have hrun := run_append_nil (P := P) w t ty e i z T.ht hi hz p m c' _ hl hnews (by omega) (by simp only [maxLen] at h63; omega) (by have hb := hby; simp only [Nat.zero_add] at hb; omega)
        have hgr := grown 0 none (by omega)
        simp only [Nat.zero_add, List.nil_append, List.flatMap_nil, Array.empty_append] at hgr ⊢
        exact ⟨_, _, _, _, hrun, hgr.1, hgr.2⟩
    · subst ha
      by_cases hroom : n + m ≤ c
      · have hfit : n * i.size + (l'.flatMap enc).length ≤ cs.size := by rw [hl, ← Nat.add_mul]; exact Nat.le_trans (Nat.mul_le_mul_right _ hroom) hsz
        have hrun := run_append_room (P := P) w t ty e i T.ht hi g n c cs hg p m c' _ hl hnews E.flat hroom hfit
        refine ⟨_, _, _, _, hrun, ⟨by simp [hnl, hml], hroom, h.2.2.1, .inr ⟨g, _, rfl, hlg, setRow_heap w g cs _ e _ hg, ?_, ?_⟩⟩, ⟨rfl, rfl, rfl, by simp, fun k _ hk => setRow_other w g k _ (fun e => hk (by simp [e]))⟩⟩
        · simp only [List.size_toArray, List.length_append, List.length_take, List.length_drop, Array.length_toList]
          omega
        · rw [ht, List.flatMap_append]
          exact List.take_left' (by rw [List.length_append, length_flat E.len, hl, ← hnl, Nat.add_mul])
      · have holds : ∀ j u, (l.flatMap enc)[j]? = some u → w.cell? ((⟨g, 0, none⟩ : Addr).add j) = some u := h.rd.cells
        have hrun := run_append_grow (P := P) w t ty e i z T.ht hi hz ⟨g, 0, none⟩ n c (l.flatMap enc) (by rw [length_flat E.len, hnl]) holds p m c' _ hl hnews (by omega) (by simp only [maxLen] at h63; omega) (growslice_fits (by omega) hby)
        have hgr := grown c (some g) (by omega)
        exact ⟨_, _, _, _, hrun, hgr.1, hgr.2⟩
/-- append, of a row that has no room, whoever's it is, and one that is read. -/
theorem app_new (T : Ty P t e k bytes z) (E : En enc k) (h : Rd enc w a n l) (hn : a = none → c = 0) (hlo : lo ≤ w.heap.size) {b : Option Addr} {m c' : Nat} {l' : List α} (hr : Rd enc w b m l') (hm : 0 < m) (hc : c < n + m)
    (h63 : n + m ≤ maxLen) (hby : (n + m) * bytes ≤ 140737488355328) {ty : TypeId} :
    ∃ (a' : Option Addr) (n' c'' : Nat) (w' : World), Sem.run P (Builtin.append_ #[t, t] ty #[.slice a n c, .slice b m c']) w = .ok (.slice a' n' c'') w' ∧ (Own enc k e lo w' a' n' c'' (l ++ l') ∧ Below w.heap.size w w') := by
  obtain ⟨i, hi, hs, hbs, hz⟩ := T.hi
  have hnl := h.1
  have hml := hr.1
  subst hs; subst hbs
  rcases hr.2 with h0 | ⟨p, hp, _⟩
  · subst h0; simp at hml; omega
  subst hp
  have hnews := hr.cells
  have hl : (l'.flatMap enc).length = m * i.size := by rw [length_flat E.len, hml]
  have grown : ∀ (old : Nat), old < n + m →
      Own enc i.size e lo (w.drew.alloc (.cells ((l.flatMap enc).toArray ++ (l'.flatMap enc).toArray ++ Builtin.zeroCells z.cells (grownCap w (n + m) old e - (n + m))) e)) (some ⟨w.heap.size, 0, none⟩) (n + m) (grownCap w (n + m) old e) (l ++ l') ∧
      Below w.heap.size w (w.drew.alloc (.cells ((l.flatMap enc).toArray ++ (l'.flatMap enc).toArray ++ Builtin.zeroCells z.cells (grownCap w (n + m) old e - (n + m))) e)) := by
      intro old ho
      have hge := grownCap_ge w (n + m) old e
      refine ⟨⟨by simp [hnl, hml], hge, grownCap_le_maxLen w (n + m) old e h63, .inr ⟨_, _, rfl, hlo, blk_new _, ?_, ?_⟩⟩, ((Below.refl _ _).drew).alloc (Nat.le_refl _) _⟩
      · simp only [Array.size_append, List.size_toArray, size_zeroCells, T.hz, length_flat E.len, ← Nat.add_mul, ← hnl, ← hml]
        apply Nat.le_of_eq
        congr 1
        omega
      · simp only [Array.toList_append, List.append_assoc, List.flatMap_append]
        rw [← List.append_assoc]
        exact List.take_left' (by rw [List.length_append, length_flat E.len, length_flat E.len, ← hnl, ← hml, Nat.add_mul])
  cases a with
  | none =>
    obtain rfl := hn rfl
    have h0 : l = [] := by
      rcases h.2 with h0 | ⟨p, hp, _⟩
      · exact h0
      · simp at hp
    subst h0
    simp at hnl; subst hnl
    have hrun := run_append_nil (P := P) w t ty e i z T.ht hi hz p m c' _ hl hnews (by omega) (by simp only [maxLen] at h63; omega) (by have hb := hby; simp only [Nat.zero_add] at hb; omega)
    have hgr := grown 0 (by omega)
    simp only [Nat.zero_add, List.nil_append, List.flatMap_nil, Array.empty_append] at hgr ⊢
    exact ⟨_, _, _, _, hrun, hgr.1, hgr.2⟩
  | some q =>
    have hrun := run_append_grow (P := P) w t ty e i z T.ht hi hz q n c (l.flatMap enc) (by rw [length_flat E.len, hnl]) h.cells p m c' _ hl hnews hc (by simp only [maxLen] at h63; omega) (growslice_fits hc hby)
    have hgr := grown c hc
    exact ⟨_, _, _, _, hrun, hgr.1, hgr.2⟩
/-- One element more, by the slice of one that is made for it. -/
theorem app1 (T : Ty P t e k bytes z) (E : En enc k) (h : Own enc k e lo w a n c l) (hlo : lo ≤ w.heap.size) (x : α) (h63 : n + 1 ≤ maxLen) (hby : (n + 1) * bytes ≤ 140737488355328) {ty : TypeId} {K : Option Addr → Nat → Nat → World → Prop}
    (hK : ∀ a' c' w', Own enc k e lo w' a' (n + 1) c' (l ++ [x]) → w.grownBy w' (a.map (·.block)) → K a' (n + 1) c' w') :
    ∀ (b : Nat) (w2 : World), b = w.heap.size → w2 = w.alloc (.cells (enc x).toArray e) →
    ∃ (a' : Option Addr) (n' c' : Nat) (w' : World), Sem.run P (Builtin.append_ #[t, t] ty #[.slice a n c, .slice (some (Addr.mk b 0 none)) 1 1]) w2 = .ok (.slice a' n' c') w' ∧ K a' n' c' w' := by
  rintro b w2 rfl rfl
  have hr : Rd enc (w.alloc (.cells (enc x).toArray e)) (some ⟨w.heap.size, 0, none⟩) 1 [x] := by
    refine ⟨rfl, .inr ⟨_, rfl, fun j hj => ?_⟩⟩
    rw [Addr.add_lit, Nat.zero_add, blk_cell (blk_new _)]
    simp
  obtain ⟨a', n', c', w', hrun, hown, hg⟩ := app_own T E (h.alloc _) (by rw [size_alloc]; omega) hr (by simp) h63 hby (ty := ty)
  have hn := hown.1
  have hnl := h.1
  obtain rfl : n' = n + 1 := by simp at hn; omega
  refine ⟨a', _, c', w', hrun, hK a' c' w' hown ⟨hg.os, hg.tape, hg.output, ?_, fun k hk hr => ?_⟩⟩
  · have := hg.size; rw [size_alloc] at this; omega
  · rw [hg.block k (by rw [size_alloc]; omega) hr, heap_alloc_old _ _ _ hk]
end
end Go.Eng
namespace Go.Eng
open Go Go.RowKit
variable {α : Type} {P : Program}
section
variable {enc : α → List Value} {k : Nat} {t e : TypeId} {bytes : Nat} {z : Value} {lo : Nat} {w : World} {a : Option Addr} {n c : Nat} {l : List α}
/-- copy, to a place in a block that is known. -/
theorem copy_at (T : Ty P t e k bytes z) (E : En enc k) {g o dLen dCap : Nat} {cs : Array Value} {e' : TypeId} (hg : w.heap[g]? = some (.cells cs e' (0, 0))) (h : Rd enc w a n l) (hn : n ≤ dLen) (hfit : o + n * k ≤ cs.size) {ty : TypeId} :
    ∃ w', Sem.run P (Builtin.copy_ #[t, t] ty #[.slice (some ⟨g, o, none⟩) dLen dCap, .slice a n c]) w = .ok (.int .i64 n) w' ∧
      (w'.heap[g]? = some (.cells (cs.toList.take o ++ l.flatMap enc ++ cs.toList.drop (o + n * k)).toArray e' (0, 0)) ∧ w.grownBy w' (some g)) := by
  obtain ⟨i, hi, hs, hbs, hz⟩ := T.hi
  have hnl := h.1
  subst hs
  have hlen : (l.flatMap enc).length = n * i.size := by rw [length_flat E.len, hnl]
  have hst := run_storeCells_at P g o e' (l.flatMap enc) 0 cs w hg (by rw [hlen]; simpa using hfit) E.flat
  have hmin : Nat.min n dLen = n := Nat.min_eq_left hn
  refine ⟨_, ?_, setRow_heap w g cs _ e' _ hg, ⟨rfl, rfl, rfl, by simp, fun k _ hk => setRow_other w g k _ (fun e => hk (by simp [e]))⟩⟩
  rcases h.2 with h0 | ⟨p, hp, hh⟩
  · subst h0
    simp at hnl; subst hnl
    simp only [Nat.add_zero, List.flatMap_nil, List.length_nil] at hst
    cases a with
    | none => simp [Builtin.copy_, run_underlying T.ht, Builtin.lenOf, Builtin.firstCells, sizeOf, typeInfo, hi, hmin, hst, goInt]
    | some p => simp [Builtin.copy_, run_underlying T.ht, Builtin.lenOf, Builtin.firstCells, sizeOf, typeInfo, hi, hmin, loadCells, loadCellsFrom, hst, goInt]
  · subst hp
    have hf := run_firstCells_some (P := P) w i.size n p n c _ hlen h.cells
    simp only [Nat.add_zero, hlen] at hst
    simp [Builtin.copy_, run_underlying T.ht, Builtin.lenOf, sizeOf, typeInfo, hi, hmin, hf, hst, goInt]
/-- A row in memory of its own: make, and copy. -/
theorem cloned_ok (T : Ty P t e k bytes z) (E : En enc k) (h : Rd enc w a n l) (h63 : n ≤ maxLen) (hby : bytes * n ≤ 281474976710656) {ty : TypeId} {K : Option Addr → Nat → Nat → World → Prop}
    (hK : ∀ (g : Nat) w', g = w.heap.size → Own enc k e w.heap.size w' (some ⟨g, 0, none⟩) n n l → Below w.heap.size w w' → K (some ⟨g, 0, none⟩) n n w') :
    ∃ (a' : Option Addr) (n' c' : Nat) (w1 : World), Sem.run P (Instr.makeSlice t (.int .i64 (n : Int)) (.int .i64 (n : Int))) w = .ok (.slice a' n' c') w1 ∧
    ∃ (m : Int) (w2 : World), Sem.run P (Builtin.copy_ #[t, t] ty #[.slice a' n' c', .slice a n c]) w1 = .ok (.int .i64 m) w2 ∧ K a' n' c' w2 := by
  obtain ⟨i, hi, hs, hbs, hz⟩ := T.hi
  have hnl := h.1
  have hn63 : (n : Int) ≤ 9223372036854775807 := by have : n ≤ 9223372036854775807 := h63; omega
  have hm := run_make (P := P) w t e i z T.ht hi hz .i64 .i64 (n : Int) (n : Int) (by omega) (Int.le_refl _) (by rw [hbs, ← Int.natCast_mul]; exact Int.ofNat_le.2 hby) hn63
  simp only [Int.toNat_natCast] at hm
  have hsz : (madeCells z.cells (n * i.size)).size = n * k := by simp [madeCells, hs]
  have hB : Below w.heap.size w (w.alloc (.cells (madeCells z.cells (n * i.size)) e)) := (Below.refl _ _).alloc (Nat.le_refl _) _
  obtain ⟨w2, hc, hg2, hgr⟩ := copy_at (ty := ty) (dLen := n) (dCap := n) (c := c) T E (blk_new (w := w) (.cells (madeCells z.cells (n * i.size)) e)) (h.below hB) (Nat.le_refl _) (o := 0) (by rw [hsz]; omega)
  refine ⟨_, _, _, _, hm, _, _, hc, hK _ _ rfl ⟨hnl, Nat.le_refl _, h63, .inr ⟨_, _, rfl, Nat.le_refl _, hg2, ?_, ?_⟩⟩ (hB.grown hgr (by rw [size_alloc]; omega) (fun k hk => by cases hk; exact Nat.le_refl _))⟩
  · simp [length_flat E.len, hnl, hsz]
  · simp only [List.take_zero, List.nil_append, Nat.zero_add]
    exact List.take_left' (by rw [length_flat E.len, hnl])
theorem nil_eq {ox oy : Operand} {u v : TypeId} {a : Option Addr} {n c : Nat} (hu : P.underlying u = some (.slice v)) : binRun P .eql u ox oy (.slice a n c) (.slice none 0 0) (.bool a.isNone) w := by
  unfold binRun
  have h1 : Sem.run P (eqGuard .eql u ox oy (.slice a n c) (.slice none 0 0)) w = .ok () w := by
    unfold eqGuard; rfl
  rw [Sem.run_bind, h1, Result.andThen_ok]
  exact Lib.run_eql_slice_nil w u v a n c 0 0 hu
end
theorem wrap64 {i : Int} (h1 : -9223372036854775808 ≤ i) (h2 : i < 9223372036854775808) : IntKind.i64.wrap i = i := by
  rw [IntKind.wrap_i64]; omega
theorem wrapu {i : Int} (h1 : 0 ≤ i) (h2 : i < 18446744073709551616) : IntKind.u64.wrap i = i := by
  rw [IntKind.wrap_u64]; omega
end Go.Eng
namespace Go.Eng
open Go Go.RowKit
/-- A slice's head. -/
structure Hd where
  a : Option Addr
  n : Nat
  c : Nat
deriving Inhabited
abbrev Hd.v (h : Hd) : Value := .slice h.a h.n h.c
abbrev Stp := Int × Int
structure Entry where
  st : Int
  ty : List Int
  num : Int
deriving DecidableEq, Inhabited
structure Node where
  used : Bool
  ty : List Int
  plus : List Stp
  less : List Stp
deriving DecidableEq, Inhabited
/-- As it lies. -/
structure REnt where
  st : Int
  ty : Hd
  num : Int
deriving Inhabited
structure RNode where
  used : Bool
  ty : Hd
  plus : Hd
  less : Hd
deriving Inhabited
def encId (x : Int) : List Value := [.int .u64 x]
def encInt (x : Int) : List Value := [.int .i64 x]
def encStp (s : Stp) : List Value := [.int .u64 s.1, .int .i64 s.2]
def encEnt (r : REnt) : List Value := [.int .i64 r.st, r.ty.v, .int .i64 r.num]
def encNode (r : RNode) : List Value := [.bool r.used, r.ty.v, r.plus.v, r.less.v]
def encHd (h : Hd) : List Value := [h.v]
theorem enId : En encId 1 := ⟨fun _ => rfl, fun x v hv => by simp [encId] at hv; subst hv; rfl⟩
theorem enInt : En encInt 1 := ⟨fun _ => rfl, fun x v hv => by simp [encInt] at hv; subst hv; rfl⟩
theorem enStp : En encStp 2 := ⟨fun _ => rfl, fun x v hv => by simp [encStp] at hv; rcases hv with rfl | rfl <;> rfl⟩
theorem enEnt : En encEnt 3 := ⟨fun _ => rfl, fun x v hv => by simp [encEnt] at hv; rcases hv with rfl | rfl | rfl <;> rfl⟩
theorem enNode : En encNode 4 := ⟨fun _ => rfl, fun x v hv => by simp [encNode] at hv; rcases hv with rfl | rfl | rfl | rfl <;> rfl⟩
theorem enHd : En encHd 1 := ⟨fun _ => rfl, fun x v hv => by simp [encHd] at hv; subst hv; rfl⟩
/-- A slice that came in. -/
structure Row {α : Type} (enc : α → List Value) (w : World) (a : Option Addr) (n c : Nat) (l : List α) : Prop where
  rd : Rd enc w a n l
  le : n ≤ c
  nil : a = none → c = 0
  max : c ≤ maxLen
theorem Row.below {α : Type} {enc : α → List Value} {w w' : World} {a : Option Addr} {n c : Nat} {l : List α} (h : Row enc w a n c l) (hB : Below w.heap.size w w') : Row enc w' a n c l := ⟨h.rd.below hB, h.le, h.nil, h.max⟩
theorem Row.nil' {α : Type} {enc : α → List Value} {w : World} : Row enc w none 0 0 ([] : List α) := ⟨Rd.nil, Nat.le_refl _, fun _ => rfl, Nat.zero_le _⟩
theorem Row.len {α : Type} {enc : α → List Value} {w : World} {a : Option Addr} {n c : Nat} {l : List α} (h : Row enc w a n c l) : n = l.length := h.rd.1
theorem Row.n63 {α : Type} {enc : α → List Value} {w : World} {a : Option Addr} {n c : Nat} {l : List α} (h : Row enc w a n c l) : n ≤ 9223372036854775807 := Nat.le_trans h.le h.max
theorem Own.row {α : Type} {enc : α → List Value} {k : Nat} {e : TypeId} {lo : Nat} {w : World} {a : Option Addr} {n c : Nat} {l : List α} (h : Own enc k e lo w a n c l) : Row enc w a n c l := by
  refine ⟨h.rd, h.2.1, ?_, h.2.2.1⟩
  rintro rfl
  rcases h.2.2.2 with ⟨_, hc⟩ | ⟨g, cs, ha, _⟩
  · exact hc
  · simp at ha
/-- The i-th element, read where the code reads it. -/
theorem Row.ix1 {α : Type} {enc : α → List Value} {f : α → Value} (hf : ∀ x, enc x = [f x]) {w : World} {a : Option Addr} {n c : Nat} {l : List α} (h : Row enc w a n c l) {i : Int} (h0 : 0 ≤ i) (hn : i < (n : Int)) :
    ∃ p, a = some p ∧ w.cell? (p.add (i.toNat * 1)) = some (f (l[i.toNat]'(by have := h.len; omega))) := by
  have hl : i.toNat < l.length := by have := h.len; omega
  obtain ⟨p, hp, hc⟩ := h.rd.get (k := 1) (fun x => by rw [hf]; rfl) hl
  refine ⟨p, hp, ?_⟩
  have := hc 0 (by omega)
  rw [Addr.add_zero', hf] at this
  exact this
/-- A row of ids, of ints, of heads: an element is read. -/
theorem Row.id {w : World} {a : Option Addr} {n c : Nat} {l : List Int} (h : Row encId w a n c l) {i : Int} {K : Int → Prop} (h0 : 0 ≤ i) (hn : i < (n : Int)) (hK : ∀ hl : i.toNat < l.length, K l[i.toNat]) :
    ∃ p : Addr, a = some p ∧ 0 ≤ i ∧ i < (n : Int) ∧ ∃ x : Int, w.cell? (p.add (i.toNat * 1)) = some (.int .u64 x) ∧ K x := by
  obtain ⟨p, hp, hc⟩ := h.ix1 (fun _ => rfl) h0 hn
  exact ⟨p, hp, h0, hn, _, hc, hK _⟩
theorem Row.int {w : World} {a : Option Addr} {n c : Nat} {l : List Int} (h : Row encInt w a n c l) {i : Int} {K : Int → Prop} (h0 : 0 ≤ i) (hn : i < (n : Int)) (hK : ∀ hl : i.toNat < l.length, K l[i.toNat]) :
    ∃ p : Addr, a = some p ∧ 0 ≤ i ∧ i < (n : Int) ∧ ∃ x : Int, w.cell? (p.add (i.toNat * 1)) = some (.int .i64 x) ∧ K x := by
  obtain ⟨p, hp, hc⟩ := h.ix1 (fun _ => rfl) h0 hn
  exact ⟨p, hp, h0, hn, _, hc, hK _⟩
theorem Row.hd {w : World} {a : Option Addr} {n c : Nat} {l : List Hd} (h : Row encHd w a n c l) {i : Int} {K : Option Addr → Nat → Nat → Prop} (h0 : 0 ≤ i) (hn : i < (n : Int)) (hK : ∀ hl : i.toNat < l.length, K l[i.toNat].a l[i.toNat].n l[i.toNat].c) :
    ∃ p : Addr, a = some p ∧ 0 ≤ i ∧ i < (n : Int) ∧ ∃ (xa : Option Addr) (xn xc : Nat), w.cell? (p.add (i.toNat * 1)) = some (.slice xa xn xc) ∧ K xa xn xc := by
  obtain ⟨p, hp, hc⟩ := h.ix1 (fun _ => rfl) h0 hn
  exact ⟨p, hp, h0, hn, _, _, _, hc, hK _⟩
end Go.Eng
namespace Go.Eng
open Go Go.Proofs
set_option maxRecDepth 100000
theorem hmTryz : Tryz.prog.follows .mixedOrders = true := by kernel_rfl
end Go.Eng
namespace Go.Eng
open Go Go.Proofs
set_option maxRecDepth 100000
set_option maxHeartbeats 4000000
end Go.Eng
namespace Go.Eng
open Go Go.Proofs
set_option maxRecDepth 100000
set_option maxHeartbeats 4000000
/-- windrose/windroselaw12.GraphOrder -/
def V7 (rowsa : Option Addr) (rowsn rowsc : Nat) (turn : Int) (w : World) (R : Value → World → Prop) : Prop :=
 Cl Tryz.prog 8 #[] w fun v w1 => ∃ (x1 : Bool), v = .bool x1 ∧
 (cond (!x1) (R (.bool false) w1) (0 ≤ (if 6 < (rowsn : Int) then 6 else (rowsn : Int)) ∧ (if 6 < (rowsn : Int) then 6 else (rowsn : Int)) ≤ (rowsc : Int) ∧
 (cond (decide ((IntKind.u64.wrap (IntKind.i64.wrap (((if 6 < (rowsn : Int) then 6 else (rowsn : Int)).toNat : Int) + 1))) = 0)) False
 (Cl Tryz.prog 38 #[.slice rowsa ((if 6 < (rowsn : Int) then 6 else (rowsn : Int)).toNat) (((rowsc : Int)).toNat)] w1 fun v2 w2 => ∃ (x2a : Option Addr) (x2n x2c : Nat) (x3 : Bool), v2 = .tuple #[.slice x2a x2n x2c, .bool x3] ∧
 (∀ w3 : World, w3 = w2.drew → (0 ≤ (IntKind.i64.wrap (Int.tmod (IntKind.u64.wrap turn) (IntKind.u64.wrap (IntKind.i64.wrap (((if 6 < (rowsn : Int) then 6 else (rowsn : Int)).toNat : Int) + 1))))) ∧ (IntKind.i64.wrap (Int.tmod (IntKind.u64.wrap turn) (IntKind.u64.wrap (IntKind.i64.wrap (((if 6 < (rowsn : Int) then 6 else (rowsn : Int)).toNat : Int) + 1))))) ≤ ((if 6 < (rowsn : Int) then 6 else (rowsn : Int)).toNat : Int) ∧ (0 ≤ (IntKind.i64.wrap (Int.tmod (IntKind.u64.wrap turn) (IntKind.u64.wrap (IntKind.i64.wrap (((if 6 < (rowsn : Int) then 6 else (rowsn : Int)).toNat : Int) + 1))))) ∧ (IntKind.i64.wrap (Int.tmod (IntKind.u64.wrap turn) (IntKind.u64.wrap (IntKind.i64.wrap (((if 6 < (rowsn : Int) then 6 else (rowsn : Int)).toNat : Int) + 1))))) ≤ (((rowsc : Int)).toNat : Int) ∧
 (∀ (b : Nat) (w4 : World), b = w3.heap.size → w4 = w3.alloc (.cells #[.slice (offA rowsa (((((rowsc : Int)).toNat : Int)).toNat) ((IntKind.i64.wrap (Int.tmod (IntKind.u64.wrap turn) (IntKind.u64.wrap (IntKind.i64.wrap (((if 6 < (rowsn : Int) then 6 else (rowsn : Int)).toNat : Int) + 1))))).toNat) 1) ((((if 6 < (rowsn : Int) then 6 else (rowsn : Int)).toNat : Int)).toNat - (IntKind.i64.wrap (Int.tmod (IntKind.u64.wrap turn) (IntKind.u64.wrap (IntKind.i64.wrap (((if 6 < (rowsn : Int) then 6 else (rowsn : Int)).toNat : Int) + 1))))).toNat) (((((rowsc : Int)).toNat : Int)).toNat - (IntKind.i64.wrap (Int.tmod (IntKind.u64.wrap turn) (IntKind.u64.wrap (IntKind.i64.wrap (((if 6 < (rowsn : Int) then 6 else (rowsn : Int)).toNat : Int) + 1))))).toNat), .slice rowsa ((IntKind.i64.wrap (Int.tmod (IntKind.u64.wrap turn) (IntKind.u64.wrap (IntKind.i64.wrap (((if 6 < (rowsn : Int) then 6 else (rowsn : Int)).toNat : Int) + 1))))).toNat) (((((rowsc : Int)).toNat : Int)).toNat)] 73) →
 (Cl Tryz.prog 42 #[.slice (some (Addr.mk b 0 none)) 2 2] w4 fun v3 w5 => ∃ (x4a : Option Addr) (x4n x4c : Nat), v3 = .slice x4a x4n x4c ∧
 (Cl Tryz.prog 38 #[.slice x4a x4n x4c] w5 fun v4 w6 => ∃ (x5a : Option Addr) (x5n x5c : Nat) (x6 : Bool), v4 = .tuple #[.slice x5a x5n x5c, .bool x6] ∧
 (cond x3 (cond x6
 (Cl Tryz.prog 43 #[.slice x2a x2n x2c, .slice x5a x5n x5c, .func (.func 22) #[] #[]] w6 fun v5 w7 => ∃ (x7 : Bool), v5 = .bool x7 ∧ (R (.bool x7) w7)) (R (.bool false) w6)) (R (.bool false) w6))))))))))))
theorem c7 (rowsa : Option Addr) (rowsn rowsc : Nat) (turn : Int) {w : World} {R : Value → World → Prop} (hV : V7 rowsa rowsn rowsc turn w R) : Cl Tryz.prog 7 #[.slice rowsa rowsn rowsc, .int .i64 turn] w R :=
 fn_sound hmTryz (TT := []) (f := 7) Tryz.func7 (ent_of Tryz.func7 (by kernel_rfl) rfl) (Eq.mpr (by kernel_rfl) hV)
end Go.Eng
namespace Go.Eng
open Go Go.Proofs
set_option maxRecDepth 100000
set_option maxHeartbeats 4000000
/-- windrose/windroselaw12.wakes -/
def V8  (w : World) (R : Value → World → Prop) : Prop :=
 Cl Tryz.prog 44 #[.int .i64 3] w fun v w1 => ∃ (x1 x2 : Int), v = .tuple #[.int .u64 x1, .int .i64 x2] ∧
 (Cl Tryz.prog 45 #[.int .i64 4, .int .i64 5] w1 fun v2 w2 => ∃ (x3 x4 : Int), v2 = .tuple #[.int .u64 x3, .int .i64 x4] ∧
 (Cl Tryz.prog 34 #[] w2 fun v3 w3 => ∃ (x5a : Option Addr) (x5n x5c : Nat) (x6a : Option Addr) (x6n x6c : Nat), v3 = .agg #[.slice x5a x5n x5c, .slice x6a x6n x6c] ∧
 (Cl Tryz.prog 14 #[.agg #[.slice x5a x5n x5c, .slice x6a x6n x6c], .int .i64 1, .int .u64 x1] w3 fun v4 w4 => ∃ (x7a : Option Addr) (x7n x7c : Nat) (x8a : Option Addr) (x8n x8c : Nat) (x9 x10 : Int), v4 = .tuple #[.agg #[.slice x7a x7n x7c, .slice x8a x8n x8c], .int .i64 x9, .int .i64 x10] ∧
 (∀ (b : Nat) (w5 : World), b = w4.heap.size → w5 = w4.alloc (.cells #[.slice none 0 0, .slice none 0 0] 27) → ((w5.cell? (Addr.mk b 0 none)).isSome = true ∧ w5.frozen? (Addr.mk b 0 none) = false ∧ ((w5.cell? ((Addr.mk b 0 none).add 1)).isSome = true ∧ w5.frozen? ((Addr.mk b 0 none).add 1) = false ∧
 (∀ w6 : World, w6 = (w5.setCell (Addr.mk b 0 none) (.slice x7a x7n x7c)).setCell ((Addr.mk b 0 none).add 1) (.slice x8a x8n x8c) →
 (∃ (x11a : Option Addr) (x11n x11c : Nat) (x12a : Option Addr) (x12n x12c : Nat), w6.cell? (Addr.mk b 0 none) = some (.slice x11a x11n x11c) ∧ w6.cell? ((Addr.mk b 0 none).add 1) = some (.slice x12a x12n x12c) ∧
 (Cl Tryz.prog 14 #[.agg #[.slice x11a x11n x11c, .slice x12a x12n x12c], .int .i64 x9, .int .u64 x3] w6 fun v5 w7 => ∃ (x13a : Option Addr) (x13n x13c : Nat) (x14a : Option Addr) (x14n x14c : Nat) (x15 x16 : Int), v5 = .tuple #[.agg #[.slice x13a x13n x13c, .slice x14a x14n x14c], .int .i64 x15, .int .i64 x16] ∧
 (∀ (b2 : Nat) (w8 : World), b2 = w7.heap.size → w8 = w7.alloc (.cells #[.slice none 0 0, .slice none 0 0] 27) → ((w8.cell? (Addr.mk b2 0 none)).isSome = true ∧ w8.frozen? (Addr.mk b2 0 none) = false ∧ ((w8.cell? ((Addr.mk b2 0 none).add 1)).isSome = true ∧ w8.frozen? ((Addr.mk b2 0 none).add 1) = false ∧
 (∀ w9 : World, w9 = (w8.setCell (Addr.mk b2 0 none) (.slice x13a x13n x13c)).setCell ((Addr.mk b2 0 none).add 1) (.slice x14a x14n x14c) →
 (∃ (x17a : Option Addr) (x17n x17c : Nat) (x18a : Option Addr) (x18n x18c : Nat), w9.cell? (Addr.mk b2 0 none) = some (.slice x17a x17n x17c) ∧ w9.cell? ((Addr.mk b2 0 none).add 1) = some (.slice x18a x18n x18c) ∧
 (Cl Tryz.prog 15 #[.agg #[.slice x17a x17n x17c, .slice x18a x18n x18c], .int .i64 x15, .int .u64 x1] w9 fun v6 w10 => ∃ (x19a : Option Addr) (x19n x19c : Nat) (x20a : Option Addr) (x20n x20c : Nat) (x21 x22 : Int), v6 = .tuple #[.agg #[.slice x19a x19n x19c, .slice x20a x20n x20c], .int .i64 x21, .int .i64 x22] ∧
 (∀ (b3 : Nat) (w11 : World), b3 = w10.heap.size → w11 = w10.alloc (.cells #[.slice none 0 0, .slice none 0 0] 27) → ((w11.cell? (Addr.mk b3 0 none)).isSome = true ∧ w11.frozen? (Addr.mk b3 0 none) = false ∧ ((w11.cell? ((Addr.mk b3 0 none).add 1)).isSome = true ∧ w11.frozen? ((Addr.mk b3 0 none).add 1) = false ∧
 (∀ w12 : World, w12 = (w11.setCell (Addr.mk b3 0 none) (.slice x19a x19n x19c)).setCell ((Addr.mk b3 0 none).add 1) (.slice x20a x20n x20c) →
 (∃ (x23a : Option Addr) (x23n x23c : Nat) (x24a : Option Addr) (x24n x24c : Nat), w12.cell? (Addr.mk b2 0 none) = some (.slice x23a x23n x23c) ∧ w12.cell? ((Addr.mk b2 0 none).add 1) = some (.slice x24a x24n x24c) ∧
 (Cl Tryz.prog 17 #[.agg #[.slice x23a x23n x23c, .slice x24a x24n x24c], .int .i64 2] w12 fun v7 w13 => ∃ (x25a : Option Addr) (x25n x25c : Nat) (x26a : Option Addr) (x26n x26c : Nat) (x27 : Int), v7 = .tuple #[.agg #[.slice x25a x25n x25c, .slice x26a x26n x26c], .int .i64 x27] ∧
 (∀ (b4 : Nat) (w14 : World), b4 = w13.heap.size → w14 = w13.alloc (.cells #[.slice none 0 0, .slice none 0 0] 27) → ((w14.cell? (Addr.mk b4 0 none)).isSome = true ∧ w14.frozen? (Addr.mk b4 0 none) = false ∧ ((w14.cell? ((Addr.mk b4 0 none).add 1)).isSome = true ∧ w14.frozen? ((Addr.mk b4 0 none).add 1) = false ∧
 (∀ w15 : World, w15 = (w14.setCell (Addr.mk b4 0 none) (.slice x25a x25n x25c)).setCell ((Addr.mk b4 0 none).add 1) (.slice x26a x26n x26c) →
 (cond (x10 == 0)
 (cond (x16 == 0)
 (cond (x22 == 0)
 (cond (x27 == 0)
 (cond (x9 == 2)
 (cond (x15 == 3)
 (cond (x21 == 4) (∃ (x28a : Option Addr) (x28n x28c : Nat) (x29a : Option Addr) (x29n x29c : Nat), w15.cell? (Addr.mk b4 0 none) = some (.slice x28a x28n x28c) ∧ w15.cell? ((Addr.mk b4 0 none).add 1) = some (.slice x29a x29n x29c) ∧
 (Cl Tryz.prog 29 #[.agg #[.slice x28a x28n x28c, .slice x29a x29n x29c]] w15 fun v8 w16 => ∃ (x30a : Option Addr) (x30n x30c : Nat), v8 = .slice x30a x30n x30c ∧
 (∀ (b5 : Nat) (w17 : World), b5 = w16.heap.size → w17 = w16.alloc (.cells #[.int .i64 1, .int .i64 3] 3) →
 (Cl Tryz.prog 28 #[.slice x30a x30n x30c, .slice (some (Addr.mk b5 0 none)) 2 2] w17 fun v9 w18 => ∃ (x31 : Bool), v9 = .bool x31 ∧
 (cond x31 (∃ (x32a : Option Addr) (x32n x32c : Nat) (x33a : Option Addr) (x33n x33c : Nat), w18.cell? (Addr.mk b2 0 none) = some (.slice x32a x32n x32c) ∧ w18.cell? ((Addr.mk b2 0 none).add 1) = some (.slice x33a x33n x33c) ∧
 (Cl Tryz.prog 29 #[.agg #[.slice x32a x32n x32c, .slice x33a x33n x33c]] w18 fun v10 w19 => ∃ (x34a : Option Addr) (x34n x34c : Nat), v10 = .slice x34a x34n x34c ∧
 (∀ (b6 : Nat) (w20 : World), b6 = w19.heap.size → w20 = w19.alloc (.cells #[.int .i64 1, .int .i64 2, .int .i64 3] 3) →
 (Cl Tryz.prog 28 #[.slice x34a x34n x34c, .slice (some (Addr.mk b6 0 none)) 3 3] w20 fun v11 w21 => ∃ (x35 : Bool), v11 = .bool x35 ∧ (R (.bool x35) w21))))) (R (.bool false) w18)))))) (R (.bool false) w15)) (R (.bool false) w15)) (R (.bool false) w15)) (R (.bool false) w15)) (R (.bool false) w15)) (R (.bool false) w15)) (R (.bool false) w15)))))))))))))))))))))))))))
theorem c8  {w : World} {R : Value → World → Prop} (hV : V8  w R) : Cl Tryz.prog 8 #[] w R :=
 fn_sound hmTryz (TT := []) (f := 8) Tryz.func8 (ent_of Tryz.func8 (by kernel_rfl) rfl) (Eq.mpr (by kernel_rfl) hV)
/-- slices.Clone[[]windrose/api.Id,windrose/api.Id] -/
def V10 (sa : Option Addr) (sn sc : Nat) (w : World) (R : Value → World → Prop) : Prop :=
 ∃ eq : Bool, binRun Tryz.prog .eql 33 (.tmp 3) (.const (.slice none 0 0)) (.slice sa sn sc) (.slice none 0 0) (.bool eq) w ∧
 (cond eq (R (.slice none 0 0) w) (∀ (b : Nat) (w1 : World), b = w.heap.size → w1 = w.alloc (.cells #[] 32) →
 (∃ (x1a : Option Addr) (x1n x1c : Nat) (w2 : World), Sem.run Tryz.prog (Builtin.append_ #[33, 33] 33 #[.slice (some (Addr.mk b 0 none)) 0 0, .slice sa sn sc]) w1 = .ok (.slice x1a x1n x1c) w2 ∧ (R (.slice x1a x1n x1c) w2))))
theorem c10 (sa : Option Addr) (sn sc : Nat) {w : World} {R : Value → World → Prop} (hV : V10 sa sn sc w R) : Cl Tryz.prog 10 #[.slice sa sn sc] w R :=
 fn_sound hmTryz (TT := []) (f := 10) Tryz.func10 (ent_of Tryz.func10 (by kernel_rfl) rfl) (Eq.mpr (by kernel_rfl) hV)
/-- windrose/graph.Of -/
def V12 (ga : Option Addr) (gn gc : Nat) (g2a : Option Addr) (g2n g2c : Nat) (la : Option Addr) (ln lc : Nat) (w : World) (R : Value → World → Prop) : Prop :=
 ∀ (b : Nat) (w1 : World), b = w.heap.size → w1 = w.alloc (.cells #[.slice ga gn gc, .slice g2a g2n g2c] 27) →
 (∀ (b2 : Nat) (w2 : World), b2 = w1.heap.size → w2 = w1.alloc (.cells #[.slice none 0 0, .slice none 0 0] 27) →
 (∃ (x1a : Option Addr) (x1n x1c : Nat) (x2a : Option Addr) (x2n x2c : Nat), w2.cell? (Addr.mk b 0 none) = some (.slice x1a x1n x1c) ∧ w2.cell? ((Addr.mk b 0 none).add 1) = some (.slice x2a x2n x2c) ∧
 (Cl Tryz.prog 26 #[.agg #[.slice x1a x1n x1c, .slice x2a x2n x2c]] w2 fun v w3 => ∃ (x3 : Int), v = .int .i64 x3 ∧
 (cond (x3 != 0) ((w3.cell? (Addr.mk b2 0 none)).isSome = true ∧ w3.frozen? (Addr.mk b2 0 none) = false ∧ ((w3.cell? ((Addr.mk b2 0 none).add 1)).isSome = true ∧ w3.frozen? ((Addr.mk b2 0 none).add 1) = false ∧
 (∀ w4 : World, w4 = (w3.setCell (Addr.mk b2 0 none) (.slice none 0 0)).setCell ((Addr.mk b2 0 none).add 1) (.slice none 0 0) →
 (∃ (ra : Option Addr) (rn rc : Nat) (r2a : Option Addr) (r2n r2c : Nat), w4.cell? (Addr.mk b2 0 none) = some (.slice ra rn rc) ∧ w4.cell? ((Addr.mk b2 0 none).add 1) = some (.slice r2a r2n r2c) ∧ (R (.tuple #[.agg #[.slice ra rn rc, .slice r2a r2n r2c], .int .i64 0, .int .i64 x3]) w4))))) (∃ (x4a : Option Addr) (x4n x4c : Nat) (x5a : Option Addr) (x5n x5c : Nat), w3.cell? (Addr.mk b 0 none) = some (.slice x4a x4n x4c) ∧ w3.cell? ((Addr.mk b 0 none).add 1) = some (.slice x5a x5n x5c) ∧
 (Cl Tryz.prog 52 #[.agg #[.slice x4a x4n x4c, .slice x5a x5n x5c], .slice la ln lc] w3 fun v2 w5 => ∃ (x6a : Option Addr) (x6n x6c : Nat) (x7a : Option Addr) (x7n x7c : Nat) (x8 x9 : Int), v2 = .tuple #[.agg #[.slice x6a x6n x6c, .slice x7a x7n x7c], .int .i64 x8, .int .i64 x9] ∧ ((w5.cell? (Addr.mk b2 0 none)).isSome = true ∧ w5.frozen? (Addr.mk b2 0 none) = false ∧ ((w5.cell? ((Addr.mk b2 0 none).add 1)).isSome = true ∧ w5.frozen? ((Addr.mk b2 0 none).add 1) = false ∧
 (∀ w6 : World, w6 = (w5.setCell (Addr.mk b2 0 none) (.slice x6a x6n x6c)).setCell ((Addr.mk b2 0 none).add 1) (.slice x7a x7n x7c) →
 (∃ (r3a : Option Addr) (r3n r3c : Nat) (r4a : Option Addr) (r4n r4c : Nat), w6.cell? (Addr.mk b2 0 none) = some (.slice r3a r3n r3c) ∧ w6.cell? ((Addr.mk b2 0 none).add 1) = some (.slice r4a r4n r4c) ∧ (R (.tuple #[.agg #[.slice r3a r3n r3c, .slice r4a r4n r4c], .int .i64 x8, .int .i64 x9]) w6)))))))))))
theorem c12 (ga : Option Addr) (gn gc : Nat) (g2a : Option Addr) (g2n g2c : Nat) (la : Option Addr) (ln lc : Nat) {w : World} {R : Value → World → Prop} (hV : V12 ga gn gc g2a g2n g2c la ln lc w R) : Cl Tryz.prog 12 #[.agg #[.slice ga gn gc, .slice g2a g2n g2c], .slice la ln lc] w R :=
 fn_sound hmTryz (TT := []) (f := 12) Tryz.func12 (ent_of Tryz.func12 (by kernel_rfl) rfl) (Eq.mpr (by kernel_rfl) hV)
/-- windrose/graph.Plus -/
def V14 (ga : Option Addr) (gn gc : Nat) (g2a : Option Addr) (g2n g2c : Nat) (n id : Int) (w : World) (R : Value → World → Prop) : Prop :=
 ∀ (b : Nat) (w1 : World), b = w.heap.size → w1 = w.alloc (.cells #[.slice ga gn gc, .slice g2a g2n g2c] 27) →
 (∀ (b2 : Nat) (w2 : World), b2 = w1.heap.size → w2 = w1.alloc (.cells #[.slice none 0 0, .slice none 0 0] 27) →
 (∃ (x1a : Option Addr) (x1n x1c : Nat) (x2a : Option Addr) (x2n x2c : Nat), w2.cell? (Addr.mk b 0 none) = some (.slice x1a x1n x1c) ∧ w2.cell? ((Addr.mk b 0 none).add 1) = some (.slice x2a x2n x2c) ∧
 (Cl Tryz.prog 53 #[.agg #[.slice x1a x1n x1c, .slice x2a x2n x2c], .int .i64 n, .int .u64 id, .bool true, .func (.func 25) #[] #[]] w2 fun v w3 => ∃ (x3a : Option Addr) (x3n x3c : Nat) (x4a : Option Addr) (x4n x4c : Nat) (x5 x6 : Int), v = .tuple #[.agg #[.slice x3a x3n x3c, .slice x4a x4n x4c], .int .i64 x5, .int .i64 x6] ∧ ((w3.cell? (Addr.mk b2 0 none)).isSome = true ∧ w3.frozen? (Addr.mk b2 0 none) = false ∧ ((w3.cell? ((Addr.mk b2 0 none).add 1)).isSome = true ∧ w3.frozen? ((Addr.mk b2 0 none).add 1) = false ∧
 (∀ w4 : World, w4 = (w3.setCell (Addr.mk b2 0 none) (.slice x3a x3n x3c)).setCell ((Addr.mk b2 0 none).add 1) (.slice x4a x4n x4c) →
 (∃ (ra : Option Addr) (rn rc : Nat) (r2a : Option Addr) (r2n r2c : Nat), w4.cell? (Addr.mk b2 0 none) = some (.slice ra rn rc) ∧ w4.cell? ((Addr.mk b2 0 none).add 1) = some (.slice r2a r2n r2c) ∧ (R (.tuple #[.agg #[.slice ra rn rc, .slice r2a r2n r2c], .int .i64 x5, .int .i64 x6]) w4))))))))
theorem c14 (ga : Option Addr) (gn gc : Nat) (g2a : Option Addr) (g2n g2c : Nat) (n id : Int) {w : World} {R : Value → World → Prop} (hV : V14 ga gn gc g2a g2n g2c n id w R) : Cl Tryz.prog 14 #[.agg #[.slice ga gn gc, .slice g2a g2n g2c], .int .i64 n, .int .u64 id] w R :=
 fn_sound hmTryz (TT := []) (f := 14) Tryz.func14 (ent_of Tryz.func14 (by kernel_rfl) rfl) (Eq.mpr (by kernel_rfl) hV)
/-- windrose/graph.Less -/
def V15 (ga : Option Addr) (gn gc : Nat) (g2a : Option Addr) (g2n g2c : Nat) (n id : Int) (w : World) (R : Value → World → Prop) : Prop :=
 ∀ (b : Nat) (w1 : World), b = w.heap.size → w1 = w.alloc (.cells #[.slice ga gn gc, .slice g2a g2n g2c] 27) →
 (∀ (b2 : Nat) (w2 : World), b2 = w1.heap.size → w2 = w1.alloc (.cells #[.slice none 0 0, .slice none 0 0] 27) →
 (∃ (x1a : Option Addr) (x1n x1c : Nat) (x2a : Option Addr) (x2n x2c : Nat), w2.cell? (Addr.mk b 0 none) = some (.slice x1a x1n x1c) ∧ w2.cell? ((Addr.mk b 0 none).add 1) = some (.slice x2a x2n x2c) ∧
 (Cl Tryz.prog 53 #[.agg #[.slice x1a x1n x1c, .slice x2a x2n x2c], .int .i64 n, .int .u64 id, .bool false, .func (.func 54) #[] #[]] w2 fun v w3 => ∃ (x3a : Option Addr) (x3n x3c : Nat) (x4a : Option Addr) (x4n x4c : Nat) (x5 x6 : Int), v = .tuple #[.agg #[.slice x3a x3n x3c, .slice x4a x4n x4c], .int .i64 x5, .int .i64 x6] ∧ ((w3.cell? (Addr.mk b2 0 none)).isSome = true ∧ w3.frozen? (Addr.mk b2 0 none) = false ∧ ((w3.cell? ((Addr.mk b2 0 none).add 1)).isSome = true ∧ w3.frozen? ((Addr.mk b2 0 none).add 1) = false ∧
 (∀ w4 : World, w4 = (w3.setCell (Addr.mk b2 0 none) (.slice x3a x3n x3c)).setCell ((Addr.mk b2 0 none).add 1) (.slice x4a x4n x4c) →
 (∃ (ra : Option Addr) (rn rc : Nat) (r2a : Option Addr) (r2n r2c : Nat), w4.cell? (Addr.mk b2 0 none) = some (.slice ra rn rc) ∧ w4.cell? ((Addr.mk b2 0 none).add 1) = some (.slice r2a r2n r2c) ∧ (R (.tuple #[.agg #[.slice ra rn rc, .slice r2a r2n r2c], .int .i64 x5, .int .i64 x6]) w4))))))))
theorem c15 (ga : Option Addr) (gn gc : Nat) (g2a : Option Addr) (g2n g2c : Nat) (n id : Int) {w : World} {R : Value → World → Prop} (hV : V15 ga gn gc g2a g2n g2c n id w R) : Cl Tryz.prog 15 #[.agg #[.slice ga gn gc, .slice g2a g2n g2c], .int .i64 n, .int .u64 id] w R :=
 fn_sound hmTryz (TT := []) (f := 15) Tryz.func15 (ent_of Tryz.func15 (by kernel_rfl) rfl) (Eq.mpr (by kernel_rfl) hV)
end Go.Eng
namespace Go.Eng
open Go Go.Proofs
set_option maxRecDepth 100000
set_option maxHeartbeats 4000000
end Go.Eng
