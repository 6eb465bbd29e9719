/- The given statement GraphMaySaid is proved here: for every input the law answers true and the input reads as it did. Conditions: none. -/
import Derived.Test.YtfcnkaignjdpgaaGreatA8
import Derived.ProofKit
import Derived.Test.YtfcnkaignjdpgaaGreatRows
set_option linter.unusedVariables false
set_option linter.unusedSimpArgs false
set_option linter.unusedSectionVars false
namespace Go.Eng
open Go Go.Proofs
set_option exponentiation.threshold 300
def turn2 (plus : Bool) : List Int → Int → List Int × Int := if plus = true then with2e else without2e
/-- What the answers have in common. -/
structure Alike (G : PG) (r : PG × Int × Int) (q : List Node × Int × Int) (t : List Int) : Prop where
  nodes : r.1.nodes = q.1
  rest : r.2 = q.2
  len : r.1.slots.length ≤ max G.slots.length 16004 ∧ r.1.nodes.length ≤ G.nodes.length + 1
  err : r.2.2 ≠ 0 → r.1 = ⟨[], []⟩ ∧ r.2.1 = 0
  ok : r.2.2 = 0 → RG r.1 ∧ isN r.1.nodes r.2.1 = true ∧ (node r.1.nodes r.2.1).ty = t ∧ ∀ n, isN G.nodes n = true → isN r.1.nodes n = true ∧ (node r.1.nodes n).ty = (node G.nodes n).ty
theorem alike_err {G : PG} {t : List Int} {e : Int} (h : e ≠ 0) : Alike G (⟨[], []⟩, 0, e) ([], 0, e) t := ⟨rfl, rfl, ⟨Nat.zero_le _, Nat.zero_le _⟩, fun _ => ⟨rfl, rfl⟩, fun h' => absurd h' h⟩
theorem alike_same {G : PG} {n : Int} (h : RG G) (hi : isN G.nodes n = true) : Alike G (G, n, 0) (G.nodes, n, 0) (node G.nodes n).ty := ⟨rfl, rfl, ⟨by dsimp only; omega, by dsimp only; omega⟩, fun h => absurd rfl h, fun _ => ⟨h, hi, rfl, fun n h => ⟨h, rfl⟩⟩⟩
theorem of_alike' {G : PG} (h : RG G) {t : List Int} (hr : Rng t) : Alike G (ofG G t) (of12 G.nodes t) t := by
  obtain ⟨h1, h2, h3, h4, h5⟩ := of_alike h hr
  refine ⟨h1, h2, h3, fun he => ⟨h4 he, ?_⟩, fun he => ?_⟩
  · unfold ofG at he ⊢
    split
    · rfl
    · rename_i c1; rw [if_neg c1] at he
      split
      · rename_i c2; rw [if_pos c2] at he; exact absurd rfl he
      · rename_i c2; rw [if_neg c2] at he
        split
        · rfl
        · rename_i c3; rw [if_neg c3] at he; exact absurd rfl he
  · obtain ⟨a1, a2, a3, a4⟩ := h5 he
    exact ⟨a1, a2, a3, fun n hn => ⟨(a4 n hn).1, by rw [(a4 n hn).2]⟩⟩
theorem with3_id {l : List Int} (h : l.Pairwise (· < ·)) {x : Int} (hx : x ∈ l) : with3 l x = l := by
  rw [← with_alike h, with2, if_pos hx]
theorem RG.link {G : PG} (h : RG G) {lo hi id : Int} (h1 : isN G.nodes lo = true) (h2 : isN G.nodes hi = true) (hid : id ∉ (node G.nodes lo).ty) (ht : (node G.nodes hi).ty = with3 (node G.nodes lo).ty id) : RG ⟨lnk G.nodes lo hi id, G.slots⟩ := by
  have hne : lo ≠ hi := by
    rintro rfl
    exact hid (by rw [ht]; exact with3_mem.2 (.inl rfl))
  exact ⟨h.nodes.link h1 h2 hid ht, h.look, by show (usedE G.slots).Perm (entsU (lnk G.nodes lo hi id)); rw [entsU_lnk h1 h2 hne]; exact h.ents⟩
/-- What comes of a step, once the type of where it leads is there. -/
theorem go_end {G : PG} (h : RG G) {t : List Int} {id n : Int} {plus : Bool} (hr : Rng t) (hi : isN G.nodes n = true)
    (ht : if plus = true then id ∉ (node G.nodes n).ty ∧ t = with3 (node G.nodes n).ty id else id ∈ (node G.nodes n).ty ∧ t = without3 (node G.nodes n).ty id) :
    Alike G (if (ofG G t).2.2 ≠ 0 then (⟨[], []⟩, 0, (ofG G t).2.2) else (⟨if plus = true then addLess (addPlus (ofG G t).1.nodes n id (ofG G t).2.1) (ofG G t).2.1 id n
      else addPlus (addLess (ofG G t).1.nodes n id (ofG G t).2.1) (ofG G t).2.1 id n, (ofG G t).1.slots⟩, (ofG G t).2.1, 0))
      (if (of12 G.nodes t).2.2 ≠ 0 then ([], 0, (of12 G.nodes t).2.2) else (if plus = true then setPlus12 (setLess12 (of12 G.nodes t).1 (of12 G.nodes t).2.1 (id, n)) n (id, (of12 G.nodes t).2.1)
      else setPlus12 (setLess12 (of12 G.nodes t).1 n (id, (of12 G.nodes t).2.1)) (of12 G.nodes t).2.1 (id, n), (of12 G.nodes t).2.1, 0)) t := by
  have hA := of_alike' h hr
  have e2 := hA.rest
  have e1 := hA.nodes
  rw [← e2, ← e1]
  by_cases he : (ofG G t).2.2 = 0
  · simp only [he, ne_eq, not_true_eq_false, if_false]
    obtain ⟨hR, hm, hmt, hold⟩ := hA.ok he
    have hl := hA.len
    clear hA e1 e2 he
    generalize (ofG G t).1 = H at *
    generalize (ofG G t).2.1 = m at *
    obtain ⟨hn1, hn2⟩ := hold n hi
    cases plus with
    | true =>
      simp only [if_true] at ht ⊢
      obtain ⟨ht1, ht2⟩ := ht
      have hid' : id ∉ (node H.nodes n).ty := by rw [hn2]; exact ht1
      have ht' : (node H.nodes m).ty = with3 (node H.nodes n).ty id := by rw [hmt, hn2, ht2]
      have hne : n ≠ m := by rintro rfl; exact hid' (by rw [ht']; exact with3_mem.2 (.inl rfl))
      obtain ⟨a1, a2⟩ := addPL_lnk hR.nodes hn1 hm hid' ht'
      rw [a1]
      refine ⟨rfl, rfl, ⟨hl.1, by show (lnk _ _ _ _).length ≤ _; rw [lnk_length]; exact hl.2⟩, fun h => absurd rfl h, fun _ => ⟨hR.link hn1 hm hid' ht', ?_, ?_, fun k hk => ?_⟩⟩
      · show isN (lnk H.nodes n m id) m = true
        rw [isN_lnk hn1 hm hne]; exact hm
      · show (node (lnk H.nodes n m id) m).ty = t
        rw [(lnk_used hn1 hm hne (isN_ge hm)).2, hmt]
      · show isN (lnk H.nodes n m id) k = true ∧ (node (lnk H.nodes n m id) k).ty = _
        rw [isN_lnk hn1 hm hne, (lnk_used hn1 hm hne (isN_ge hk)).2]; exact hold k hk
    | false =>
      simp only [Bool.false_eq_true, if_false] at ht ⊢
      obtain ⟨ht1, ht2⟩ := ht
      have hs : (node G.nodes n).ty.Pairwise (· < ·) := (right2_iff.1 (h.nodes.right n hi)).1
      have hid' : id ∉ (node H.nodes m).ty := by rw [hmt, ht2, without3_mem]; exact fun h => h.2 rfl
      have ht' : (node H.nodes n).ty = with3 (node H.nodes m).ty id := by rw [hmt, hn2, ht2, with_without hs ht1]
      have hne : m ≠ n := by rintro rfl; exact hid' (by rw [ht']; exact with3_mem.2 (.inl rfl))
      obtain ⟨a1, a2⟩ := addPL_lnk hR.nodes hm hn1 hid' ht'
      rw [a2]
      refine ⟨rfl, rfl, ⟨hl.1, by show (lnk _ _ _ _).length ≤ _; rw [lnk_length]; exact hl.2⟩, fun h => absurd rfl h, fun _ => ⟨hR.link hm hn1 hid' ht', ?_, ?_, fun k hk => ?_⟩⟩
      · show isN (lnk H.nodes m n id) m = true
        rw [isN_lnk hm hn1 hne]; exact hm
      · show (node (lnk H.nodes m n id) m).ty = t
        rw [(lnk_used hm hn1 hne (isN_ge hm)).2, hmt]
      · show isN (lnk H.nodes m n id) k = true ∧ (node (lnk H.nodes m n id) k).ty = _
        rw [isN_lnk hm hn1 hne, (lnk_used hm hn1 hne (isN_ge hk)).2]; exact hold k hk
  · simp only [he, ne_eq, not_false_eq_true, if_true]; exact alike_err he
theorem go_alike {G : PG} (h : RG G) (hr : RngG G) {id : Int} (hid : 0 ≤ id ∧ id < 18446744073709551616) (n : Int) (plus : Bool) :
    Alike G (goneG (turn2 plus) G n id plus) (go12 G.nodes n id plus) (to12 (node G.nodes n).ty id plus) := by
  have hc := checkG_rg.2 h
  unfold goneG go12
  rw [if_neg (by rw [hc]; simp)]
  cases hi : isN G.nodes n with
  | false => simp only [if_true]; exact alike_err (by decide)
  | true =>
    simp only [Bool.true_eq_false, if_false]
    have h2 := h.nodes.right n hi
    have hs := (right2_iff.1 h2).1
    have h12 := (right2_iff.1 h2).2.2
    have hrng := hr.nodes.node n
    cases plus with
    | true =>
      simp only [turn2, to12, true_and, if_true, Bool.true_eq_false, false_and, if_false]
      rw [← may_alike hid]
      cases hm : may2 id with
      | false =>
        have e : with2e (node G.nodes n).ty id = ([], 2) := by simp [with2e, h2, hm]
        simp only [e, if_true, ne_eq, show ¬ ((2 : Int) = 0) by decide, not_false_eq_true]; exact alike_err (by decide)
      | true =>
        simp only [Bool.true_eq_false, if_false]
        by_cases hin : id ∈ (node G.nodes n).ty
        · rw [if_pos hin]
          have e : with2e (node G.nodes n).ty id = ((node G.nodes n).ty, 0) := by
            have : ¬ 12 < (node G.nodes n).ty.length := by omega
            simp [with2e, h2, hm, with2, hin, this]
          simp only [e, ne_eq, not_true_eq_false, if_false, if_true, with3_id hs hin]; exact alike_same h hi
        · rw [if_neg hin]
          have hlen := with3_len hs id
          rw [if_neg hin] at hlen
          by_cases h12' : (node G.nodes n).ty.length = 12
          · rw [if_pos h12']
            have e : with2e (node G.nodes n).ty id = ([], 6) := by
              have : 12 < (with3 (node G.nodes n).ty id).length := by omega
              simp [with2e, h2, hm, with_alike hs, this]
            simp only [e, ne_eq, show ¬ ((6 : Int) = 0) by decide, not_false_eq_true, if_true]; exact alike_err (by decide)
          · rw [if_neg h12']
            have e : with2e (node G.nodes n).ty id = (with3 (node G.nodes n).ty id, 0) := by
              have : ¬ 12 < (with3 (node G.nodes n).ty id).length := by omega
              simp [with2e, h2, hm, with_alike hs, this]
            have hne : ¬ with3 (node G.nodes n).ty id = (node G.nodes n).ty := fun he => hin (by rw [← he]; exact with3_mem.2 (.inl rfl))
            simp only [e, ne_eq, not_true_eq_false, if_false, hne]
            have := go_end (plus := true) (t := with3 (node G.nodes n).ty id) (id := id) h (rng_with3 hrng hid) hi ⟨hin, rfl⟩
            simpa only [if_true, ne_eq] using this
    | false =>
      simp only [turn2, to12, true_and, if_true, Bool.false_eq_true, false_and, if_false]
      by_cases hin : id ∈ (node G.nodes n).ty
      · have hnn : ¬ id ∉ (node G.nodes n).ty := fun h => h hin
        have e : without2e (node G.nodes n).ty id = (without3 (node G.nodes n).ty id, 0) := by simp [without2e, h2, hin, without_alike hs hin]
        have hne : ¬ without3 (node G.nodes n).ty id = (node G.nodes n).ty := fun he => by rw [← he] at hin; exact (without3_mem.1 hin).2 rfl
        simp only [e, hnn, ne_eq, not_true_eq_false, if_false, hne]
        have := go_end (plus := false) (t := without3 (node G.nodes n).ty id) (id := id) h (rng_without3 hrng) hi ⟨hin, rfl⟩
        simpa only [Bool.false_eq_true, if_false, ne_eq] using this
      · simp only [hin, not_false_eq_true, if_true]
        have e : without2e (node G.nodes n).ty id = ([], 4) := by simp [without2e, h2, hin]
        simp only [e, ne_eq, show ¬ ((4 : Int) = 0) by decide, not_false_eq_true, if_true]; exact alike_err (by decide)
end Go.Eng
namespace Go.Eng
open Go Go.Proofs
set_option exponentiation.threshold 300
theorem last_used : ∀ (l : List Node), (∃ i, ∃ h : i < l.length, l[i].used = true) → ∃ k, 0 < k ∧ ∃ h : k ≤ l.length, (∃ h' : k - 1 < l.length, l[k - 1].used = true) ∧ ∀ j (hj : j < l.length), k ≤ j → l[j].used = false := by
  intro l
  have : ∀ m, m ≤ l.length → (∃ i, ∃ h : i < l.length, i < m ∧ l[i].used = true) → ∃ k, 0 < k ∧ k ≤ m ∧ (∃ h' : k - 1 < l.length, l[k - 1].used = true) ∧ ∀ j (hj : j < l.length), k ≤ j → j < m → l[j].used = false := by
    intro m
    induction m with
    | zero => rintro _ ⟨i, _, h, _⟩; omega
    | succ m ih =>
      rintro hm ⟨i, hi, him, hu⟩
      cases hl : l[m].used with
      | true => exact ⟨m + 1, by omega, by omega, ⟨by omega, by simpa using hl⟩, fun j hj h1 h2 => by omega⟩
      | false =>
        have hne : i ≠ m := by rintro rfl; rw [hl] at hu; cases hu
        obtain ⟨k, h1, h2, h3, h4⟩ := ih (by omega) ⟨i, hi, by omega, hu⟩
        refine ⟨k, h1, by omega, h3, fun j hj a b => ?_⟩
        by_cases hjm : j = m
        · subst hjm; exact hl
        · exact h4 j hj a (by omega)
  rintro ⟨i, hi, hu⟩
  obtain ⟨k, h1, h2, h3, h4⟩ := this l.length (Nat.le_refl _) ⟨i, hi, hi, hu⟩
  exact ⟨k, h1, h2, h3, fun j hj hk => h4 j hj hk hj⟩
/-- Nodes without one. -/
def lessN (l : List Node) (m : Int) : List Node := trimN ((l.set (m - 1).toNat blankN).map (awayN m))
theorem node_take {l : List Node} {k : Nat} {n : Int} (hn : 1 ≤ n) (hk : n ≤ (k : Int)) : node (l.take k) n = node l n := by
  unfold node
  simp only [List.getD_eq_getElem?_getD]
  rw [List.getElem?_take, if_pos (by omega)]
theorem node_map {l : List Node} {f : Node → Node} {n : Int} (hn : 1 ≤ n) (hl : n ≤ (l.length : Int)) : node (l.map f) n = f (node l n) := by
  obtain ⟨k, rfl⟩ : ∃ k : Nat, n = (k : Int) + 1 := ⟨(n - 1).toNat, by omega⟩
  rw [node_eq (by simp; omega), node_eq (by omega), List.getElem_map]
section
variable {l : List Node} {m : Int}
theorem lessN_facts (h : N12 l) (hm : isN l m = true) (h1 : m ≠ 1) : isN (lessN l m) ((lessN l m).length : Int) = true ∧ 0 < (lessN l m).length ∧ (lessN l m).length ≤ l.length ∧ (∀ n, isN (lessN l m) n = (isN l n && n != m)) ∧
    (∀ n, isN l n = true → n ≠ m → node (lessN l m) n = awayN m (node l n)) ∧ (∀ i (hi : i < (lessN l m).length) (hi' : i < l.length), (i : Int) + 1 ≠ m → (lessN l m)[i] = awayN m l[i]) ∧ ∀ i (hi : i < (lessN l m).length), (i : Int) + 1 = m → (lessN l m)[i] = awayN m blankN := by
  have b := isN_le hm
  have hnode : ∀ n, 1 ≤ n → n ≤ (l.length : Int) → node ((l.set (m - 1).toNat blankN).map (awayN m)) n = if n = m then awayN m blankN else awayN m (node l n) := by
    intro n a1 a2
    rw [node_map a1 (by rw [List.length_set]; exact a2), node_set b.1 b.2 a1]
    split <;> rfl
  have hL : ((l.set (m - 1).toNat blankN).map (awayN m)).length = l.length := by simp
  have hisL : ∀ n, isN ((l.set (m - 1).toNat blankN).map (awayN m)) n = (isN l n && n != m) := by
    intro n
    unfold isN
    rw [hL]
    by_cases a1 : 1 ≤ n
    · by_cases a2 : n ≤ (l.length : Int)
      · rw [hnode n a1 a2]
        by_cases e : n = m
        · subst e; simp [awayN, blankN]
        · simp [e, awayN]
      · simp [a2]
    · simp [a1]
  unfold lessN
  generalize (l.set (m - 1).toNat blankN).map (awayN m) = L at *
  obtain ⟨k1, hk1, e1, hu1, _⟩ := isN_node (show isN L 1 = true by rw [hisL, h.one]; simp; omega)
  obtain ⟨k, h0, hk, ⟨hk', hu⟩, hno⟩ := last_used L ⟨k1, hk1, hu1⟩
  rw [trimN_eq h0 hk hu hno]
  have hlen : (L.take k).length = k := by rw [List.length_take]; omega
  have his : ∀ n, isN (L.take k) n = isN L n := by
    intro n
    by_cases a1 : 1 ≤ n
    · obtain ⟨j, rfl⟩ : ∃ j : Nat, n = (j : Int) + 1 := ⟨(n - 1).toNat, by omega⟩
      rcases Nat.lt_or_ge j L.length with hj | hj
      · rcases Nat.lt_or_ge j k with hjk | hjk
        · rw [isN_eq (by omega), isN_eq hj, List.getElem_take]
        · rw [isN_eq hj, hno j hj hjk]
          have : ¬ (j : Int) + 1 ≤ ((L.take k).length : Int) := by omega
          simp [isN, this]; intro _ h'; omega
      · have n1 : ¬ (j : Int) + 1 ≤ ((L.take k).length : Int) := by omega
        have n2 : ¬ (j : Int) + 1 ≤ (L.length : Int) := by omega
        unfold isN
        simp only [n1, n2, decide_false, Bool.and_false, Bool.false_and]
    · simp [isN, a1]
  refine ⟨?_, by omega, by omega, fun n => by rw [his, hisL], fun n hn hne => ?_, fun i hi hi' hne => ?_, fun i hi he => ?_⟩
  · rw [his, hlen]
    have := isN_of hk' hu
    rwa [show ((k - 1 : Nat) : Int) + 1 = (k : Int) by omega] at this
  · have hn' := isN_le hn
    have : isN (L.take k) n = true := by rw [his, hisL, hn]; simpa using hne
    have h2 := isN_le this
    rw [node_take h2.1 (by omega), hnode n hn'.1 hn'.2, if_neg hne]
  · have e1 := hnode ((i : Int) + 1) (by omega) (by omega)
    rw [if_neg hne, node_eq (by omega), node_eq hi'] at e1
    rw [List.getElem_take]; exact e1
  · have e1 := hnode ((i : Int) + 1) (by omega) (by omega)
    rw [if_pos he, node_eq (by omega)] at e1
    rw [List.getElem_take]; exact e1
theorem awayS_mem {r : List Stp} {x : Int} {s : Stp} : s ∈ awayS r x ↔ s ∈ r ∧ s.2 ≠ x := by simp [awayS]
theorem awayS_sorted {r : List Stp} (h : (keys r).Pairwise (· < ·)) (x : Int) : (keys (awayS r x)).Pairwise (· < ·) := by
  unfold keys at h ⊢
  rw [List.pairwise_map] at h ⊢
  exact h.filter _
theorem entsU_lessN (h : N12 l) (hm : isN l m = true) (h1 : m ≠ 1) : (entsU l).Perm (⟨1, (node l m).ty, m⟩ :: entsU (lessN l m)) := by
  obtain ⟨_, _, _, f3, f4, _, _⟩ := lessN_facts h hm h1
  have hty : ∀ n, isN l n = true → n ≠ m → (node (lessN l m) n).ty = (node l n).ty := fun n hn hne => by rw [f4 n hn hne]; rfl
  refine perm_of_mem (entsU_nodup _) (List.nodup_cons.2 ⟨fun hx => ?_, entsU_nodup _⟩) fun e => ?_
  · obtain ⟨n, hn, he⟩ := mem_entsN.1 hx
    have := congrArg Entry.num he
    simp only at this
    rw [f3, ← this] at hn; simp at hn
  · rw [List.mem_cons, mem_entsN, mem_entsN]
    constructor
    · rintro ⟨n, hn, rfl⟩
      by_cases e : n = m
      · subst e; exact .inl rfl
      · exact .inr ⟨n, by rw [f3, hn]; simpa using e, by rw [hty n hn e]⟩
    · rintro (rfl | ⟨n, hn, rfl⟩)
      · exact ⟨m, hm, rfl⟩
      · rw [f3] at hn
        simp only [Bool.and_eq_true, bne_iff_ne, ne_eq] at hn
        exact ⟨n, hn.1, by rw [hty n hn.1 hn.2]⟩
theorem N12.away (h : N12 l) (hm : isN l m = true) (h1 : m ≠ 1) : N12 (lessN l m) := by
  obtain ⟨f0, f1, f2, f3, f4, f5, f6⟩ := lessN_facts h hm h1
  have hor : ∀ n, isN (lessN l m) n = true → isN l n = true ∧ n ≠ m := by
    intro n hn; rw [f3] at hn; simpa using hn
  have hof : ∀ n, isN l n = true → n ≠ m → isN (lessN l m) n = true := by intro n hn hne; rw [f3, hn]; simpa using hne
  have hty : ∀ n, isN l n = true → n ≠ m → (node (lessN l m) n).ty = (node l n).ty := fun n hn hne => by rw [f4 n hn hne]; rfl
  refine ⟨f1, f0, hof 1 h.one (Ne.symm h1), by rw [hty 1 h.one (Ne.symm h1)]; exact h.ty1, fun n hn => ?_, fun n k hn hk he => ?_, fun i hi hu => ?_, fun n hn => ?_, fun n s hn hs => ?_, fun n s hn hs => ?_, ?_⟩
  · obtain ⟨a, b⟩ := hor n hn; rw [hty n a b]; exact h.right n a
  · obtain ⟨a, b⟩ := hor n hn
    obtain ⟨c, d⟩ := hor k hk
    rw [hty n a b, hty k c d] at he; exact h.uniq n k a c he
  · by_cases e : (i : Int) + 1 = m
    · rw [f6 i hi e]; exact ⟨rfl, rfl, rfl⟩
    · have e1 := f5 i hi (by omega) e
      rw [e1] at hu ⊢
      obtain ⟨a1, a2, a3⟩ := h.free i (by omega) hu
      exact ⟨a1, by simp [awayN, awayS, a2], by simp [awayN, awayS, a3]⟩
  · obtain ⟨a, b⟩ := hor n hn
    rw [f4 n a b]
    exact ⟨awayS_sorted (h.sorted n a).1 m, awayS_sorted (h.sorted n a).2 m⟩
  · obtain ⟨a, b⟩ := hor n hn
    rw [f4 n a b] at hs
    obtain ⟨hs1, hs2⟩ := awayS_mem.1 hs
    obtain ⟨a1, a2, a3, a4⟩ := h.plus n s a hs1
    refine ⟨hof _ a1 hs2, by rw [hty n a b]; exact a2, ?_, by rw [hty n a b, hty _ a1 hs2]; exact a4⟩
    rw [f4 _ a1 hs2]; exact awayS_mem.2 ⟨a3, b⟩
  · obtain ⟨a, b⟩ := hor n hn
    rw [f4 n a b] at hs
    obtain ⟨hs1, hs2⟩ := awayS_mem.1 hs
    obtain ⟨a1, a2, a3, a4⟩ := h.less n s a hs1
    refine ⟨hof _ a1 hs2, by rw [hty n a b]; exact a2, ?_, by rw [hty n a b, hty _ a1 hs2]; exact a4⟩
    rw [f4 _ a1 hs2]; exact awayS_mem.2 ⟨a3, b⟩
  · have := (entsU_lessN h hm h1).length_eq
    have h2 := h.many
    rw [manyN_entsU] at h2 ⊢
    rw [this, List.length_cons] at h2; omega
end
theorem drop_alike {G : PG} (h : RG G) (m : Int) :
    (dropG G m).1.nodes = (drop12 G.nodes m).1 ∧ (dropG G m).2 = (drop12 G.nodes m).2 ∧ ((dropG G m).1.slots.length ≤ G.slots.length ∧ (dropG G m).1.nodes.length ≤ G.nodes.length) ∧ ((dropG G m).2 ≠ 0 → (dropG G m).1 = ⟨[], []⟩ ∧ (isN G.nodes m = false ∨ m = 1)) ∧
    ((dropG G m).2 = 0 → RG (dropG G m).1 ∧ isN G.nodes m = true ∧ m ≠ 1 ∧ (dropG G m).1.nodes = lessN G.nodes m) := by
  have hc := checkG_rg.2 h
  unfold dropG drop12
  simp only [hc, Bool.true_eq_false, if_false]
  cases hi : isN G.nodes m with
  | false => simp
  | true =>
    simp only [Bool.true_eq_false, if_false]
    by_cases h1 : m = 1
    · simp [h1]
    · simp only [h1, if_false]
      obtain ⟨k, hk, rfl, hu, he⟩ := isN_node hi
      have hpl : ¬ place G.slots (node G.nodes ((k : Int) + 1)).ty < 0 := by
        intro hp
        have := place_none h.look hp _ (h.usedN hk hu) rfl
        rw [he] at this; exact this rfl
      obtain ⟨d1, d2, e, d3, d4, d5⟩ := drop_ok h.look hpl
      simp only [d1, ne_eq, not_true_eq_false, if_false]
      have hlen : (dropL G.slots (node G.nodes ((k : Int) + 1)).ty).1.length ≤ G.slots.length := by
        simp only [dropL, h.look, hpl, Bool.true_eq_false, if_false, List.length_set]; exact Nat.le_refl _
      refine ⟨trivial, trivial, ⟨hlen, (lessN_facts h.nodes hi h1).2.2.1⟩, False.elim, fun _ => ⟨⟨h.nodes.away hi h1, d2, ?_⟩, trivial, h1, rfl⟩⟩
      have hE := (d5.symm.trans h.ents).trans (entsU_lessN h.nodes hi h1)
      have hee : e = ⟨1, (node G.nodes ((k : Int) + 1)).ty, (k : Int) + 1⟩ := by
        have hmem : e ∈ entsU G.nodes := h.ents.mem_iff.1 (d5.mem_iff.2 List.mem_cons_self)
        obtain ⟨n, hn', rfl⟩ := mem_entsN.1 hmem
        have := h.nodes.uniq n _ hn' hi d3
        rw [this]
      rw [hee] at hE
      exact (List.perm_cons _).1 hE
theorem N12.rows {l : List Node} (h : N12 l) : ∀ x ∈ l, x.ty.length ≤ 12 ∧ x.plus.length ≤ l.length ∧ x.less.length ≤ l.length := by
  intro x hx
  obtain ⟨k, hk, rfl⟩ := List.mem_iff_getElem.1 hx
  cases hu : l[k].used with
  | false =>
    obtain ⟨a1, a2, a3⟩ := h.free k hk hu
    rw [a1, a2, a3]; simp
  | true =>
    have hn := isN_of hk hu
    have he := node_eq hk
    have hr := h.right _ hn
    have hs := h.sorted _ hn
    have hp := fun s => h.plus _ s hn
    have hq := fun s => h.less _ s hn
    rw [he] at hr hs hp hq
    have two : ∀ row : List Stp, (keys row).Pairwise (· < ·) → (∀ s ∈ row, isN l s.2 = true) → (∀ s ∈ row, ∀ u ∈ row, s.2 = u.2 → s.1 = u.1) → row.length ≤ l.length := by
      intro row hsr h1 h2
      have hnd : (row.map (·.2)).Nodup := by
        rw [List.nodup_iff_pairwise_ne, List.pairwise_map]
        have hks : row.Pairwise fun s u => s.1 < u.1 := by unfold keys at hsr; rwa [List.pairwise_map] at hsr
        exact hks.imp_of_mem fun hs hu hlt he => by have := h2 _ hs _ hu he; omega
      have := pigeon (l' := (List.range l.length).map fun i : Nat => (i : Int) + 1) hnd fun y hy => by
        obtain ⟨s, hs, rfl⟩ := List.mem_map.1 hy
        obtain ⟨j, hj, e, _, _⟩ := isN_node (h1 s hs)
        exact List.mem_map.2 ⟨j, List.mem_range.2 hj, e.symm⟩
      simpa using this
    refine ⟨(right2_iff.1 hr).2.2, two _ hs.1 (fun s hs => (hp s hs).1) fun s hs u hu' he' => ?_, two _ hs.2 (fun s hs => (hq s hs).1) fun s hs u hu' he' => ?_⟩
    · obtain ⟨_, b2, _, b4⟩ := hp s hs
      obtain ⟨_, c2, _, c4⟩ := hp u hu'
      rw [he', c4] at b4
      have : s.1 ∈ with3 (node l ((k : Int) + 1)).ty u.1 := by rw [b4]; exact with3_mem.2 (.inl rfl)
      rcases with3_mem.1 this with e | e
      · exact e
      · exact absurd e.1 b2
    · obtain ⟨_, b2, _, b4⟩ := hq s hs
      obtain ⟨_, c2, _, c4⟩ := hq u hu'
      rw [he', c4] at b4
      rcases Decidable.em (u.1 = s.1) with e | e
      · exact e.symm
      · have : u.1 ∈ without3 (node l ((k : Int) + 1)).ty s.1 := without3_mem.2 ⟨c2, e⟩
        rw [← b4] at this
        exact absurd rfl (without3_mem.1 this).2
theorem RG.small {G : PG} (h : RG G) (h1 : G.nodes.length ≤ 1000000) (h2 : G.slots.length ≤ 1000000) : SmallG G := by
  refine ⟨⟨h1, fun x hx => ?_⟩, h2, fun e he => ?_⟩
  · have := h.nodes.rows x hx; omega
  · have := checkL_all12 h.look e he; omega
end Go.Eng
namespace Go.Eng
open Go Go.RowKit Go.Proofs
set_option maxRecDepth 10000
/-- All but the blocks of a stretch is kept. -/
structure KeepOut (lo hi : Nat) (w w' : World) : Prop where
  os : w'.os = w.os
  tape : w'.tape = w.tape
  output : w'.output = w.output
  size : w.heap.size ≤ w'.heap.size
  block : ∀ b, b < w.heap.size → ¬ (lo ≤ b ∧ b < hi) → w'.heap[b]? = w.heap[b]?
theorem KeepOut.refl (lo hi : Nat) (w : World) : KeepOut lo hi w w := ⟨rfl, rfl, rfl, Nat.le_refl _, fun _ _ _ => rfl⟩
theorem KeepOut.trans {lo hi : Nat} {a b c : World} (h : KeepOut lo hi a b) (k : KeepOut lo hi b c) : KeepOut lo hi a c :=
  ⟨k.os.trans h.os, k.tape.trans h.tape, k.output.trans h.output, Nat.le_trans h.size k.size, fun x hx hn => (k.block x (by have := h.size; omega) hn).trans (h.block x hx hn)⟩
theorem KeepOut.of_below {lo hi : Nat} {w w' : World} (h : Below w.heap.size w w') : KeepOut lo hi w w' := ⟨h.os, h.tape, h.output, h.size, fun b hb _ => h.block b hb⟩
theorem KeepOut.set {lo hi g : Nat} (w : World) (h1 : lo ≤ g) (h2 : g < hi) (j : Nat) (v : Value) : KeepOut lo hi w (w.setCell ⟨g, j, none⟩ v) :=
  ⟨rfl, rfl, rfl, by simp, fun b hb hn => Below.heap_setCell _ _ _ _ (by rintro rfl; exact hn ⟨h1, h2⟩)⟩
theorem KeepOut.below {lo hi : Nat} {w w' : World} (h : KeepOut lo hi w w') (hlo : lo ≤ w.heap.size) : Below lo w w' := ⟨h.os, h.tape, h.output, h.size, fun b hb => h.block b (by omega) (by omega)⟩
/-- A row of so many cells lies in a stretch, whatever it holds. -/
def Lies (lo hi : Nat) (w : World) (t : TypeId) (k : Nat) (a : Option Addr) (n : Nat) : Prop := (a = none ∧ n = 0) ∨ ∃ g cs, a = some ⟨g, 0, none⟩ ∧ lo ≤ g ∧ g < hi ∧ w.heap[g]? = some (.cells cs t (0, 0)) ∧ n * k ≤ cs.size
theorem Own.lies {α : Type} {enc : α → List Value} {k : Nat} {e : TypeId} {lo hi : Nat} {w : World} {a : Option Addr} {n c : Nat} {l : List α} (h : Own enc k e lo w a n c l) (hh : w.heap.size ≤ hi) : Lies lo hi w e k a n := by
  obtain ⟨h1, h2, h3, h4⟩ := h
  rcases h4 with ⟨ha, hc⟩ | ⟨g, cs, ha, hlo, hg, hs, ht⟩
  · exact .inl ⟨ha, by omega⟩
  · exact .inr ⟨g, cs, ha, hlo, Nat.lt_of_lt_of_le (blk_lt hg) hh, hg, Nat.le_trans (Nat.mul_le_mul_right _ h2) hs⟩
theorem Lies.below {lo hi : Nat} {w w' : World} {t : TypeId} {k : Nat} {a : Option Addr} {n : Nat} (h : Lies lo hi w t k a n) (hB : Below w.heap.size w w') : Lies lo hi w' t k a n :=
  h.imp id fun ⟨g, cs, h1, h2, h3, h4, h5⟩ => ⟨g, cs, h1, h2, h3, blk_below h4 hB (blk_lt h4), h5⟩
theorem Lies.set {lo hi : Nat} {w : World} {t : TypeId} {k : Nat} {a : Option Addr} {n : Nat} (h : Lies lo hi w t k a n) {b j : Nat} (v : Value) : Lies lo hi (w.setCell ⟨b, j, none⟩ v) t k a n := by
  refine h.imp id fun ⟨g, cs, h1, h2, h3, h4, h5⟩ => ?_
  by_cases hb : g = b
  · subst hb
    exact ⟨g, _, h1, h2, h3, blk_set h4 j v, by simpa using h5⟩
  · exact ⟨g, cs, h1, h2, h3, blk_far h4 hb v, h5⟩
/-- A cell of it. -/
theorem Lies.cell {lo hi : Nat} {w : World} {t : TypeId} {k : Nat} {a : Option Addr} {n : Nat} (h : Lies lo hi w t k a n) {i j : Nat} (hi' : i < n) (hj : j < k) :
    ∃ g cs, a = some ⟨g, 0, none⟩ ∧ lo ≤ g ∧ g < hi ∧ w.heap[g]? = some (.cells cs t (0, 0)) ∧ (w.cell? ⟨g, i * k + j, none⟩).isSome = true ∧ w.frozen? ⟨g, i * k + j, none⟩ = false := by
  rcases h with ⟨_, h0⟩ | ⟨g, cs, h1, h2, h3, h4, h5⟩
  · omega
  · refine ⟨g, cs, h1, h2, h3, h4, blk_some h4 ?_, blk_free h4 _⟩
    have : (i + 1) * k ≤ n * k := Nat.mul_le_mul_right _ hi'
    rw [Nat.add_mul] at this; omega
/-- What holds while a graph is written over. -/
structure Spo (lo hi : Nat) (W0 : World) (b : Nat) (bv : Array Value) (na : Option Addr) (nn nc : Nat) (rs : List RNode) (sa : Option Addr) (sn : Nat) (W : World) : Prop where
  keep : KeepOut lo hi W0 W
  box : W.heap[b]? = some (.cells bv 27)
  row : Own encNode 4 56 lo W na nn nc rs
  ids : ∀ r ∈ rs, Lies lo hi W 32 1 r.ty.a r.ty.n
  plus : ∀ r ∈ rs, Lies lo hi W 71 2 r.plus.a r.plus.n
  less : ∀ r ∈ rs, Lies lo hi W 71 2 r.less.a r.less.n
  slots : Lies lo hi W 94 3 sa sn
theorem Spo.set {lo hi : Nat} {W0 : World} {b : Nat} {bv : Array Value} {na : Option Addr} {nn nc : Nat} {rs : List RNode} {sa : Option Addr} {sn : Nat} {W : World} (h : Spo lo hi W0 b bv na nn nc rs sa sn W) {g : Nat} {cs : Array Value} {t : TypeId} (hg : W.heap[g]? = some (.cells cs t (0, 0))) (h1 : lo ≤ g) (h2 : g < hi) (ht : t ≠ 56) (ht2 : 27 ≠ t) (j : Nat) (v : Value) :
    Spo lo hi W0 b bv na nn nc rs sa sn (W.setCell ⟨g, j, none⟩ v) where
  keep := h.keep.trans (KeepOut.set W h1 h2 j v)
  box := blk_far h.box (by rintro rfl; rw [h.box] at hg; cases hg; exact ht2 rfl) v
  row := h.row.far hg ht v
  ids r hr := (h.ids r hr).set v
  plus r hr := (h.plus r hr).set v
  less r hr := (h.less r hr).set v
  slots := h.slots.set v
end Go.Eng
namespace Go.Eng
open Go Go.RowKit Go.Proofs
set_option maxRecDepth 10000
/-- An id of a component, of a pair; the error. -/
def comE (n : Int) : Int × Int := if is1 n 1 24 = true then (packed2 4611686018427387904 0 n, 0) else (0, 2)
def pairE (r t : Int) : Int × Int := if is1 r 0 1048578 = true ∧ is1 t 0 1048578 = true then (packed2 9223372036854775808 r t, 0) else (0, 2)
theorem k_iComponent (n : Int) {w : World} : Cl Tryz.prog 44 #[.int .i64 n] w (Gives w (.tuple #[.int .u64 (comE n).1, .int .i64 (comE n).2])) := by
  refine c44 _ ?_
  rintro _ w1 rfl h1
  have B1 : Below w.heap.size w w1 := by rw [h1]; exact alloc_below _ _
  have r1 : Row encInt w1 (some ⟨w.heap.size, 0, none⟩) 1 1 [n] := by rw [h1]; exact row_new enInt w 3 [n] (by simp)
  refine (k_iwithin 1 24 r1).is ⟨_, rfl, cnd (fun g => ?_) fun g => ?_⟩
  · have : is1 n 1 24 = false := by simpa using g
    exact ⟨by simp [comE, this], B1⟩
  · have : is1 n 1 24 = true := by simpa using g
    exact (k_ipacked _ _ _).is ⟨_, rfl, by simp [comE, this], B1⟩
theorem k_iPair (r t : Int) {w : World} : Cl Tryz.prog 45 #[.int .i64 r, .int .i64 t] w (Gives w (.tuple #[.int .u64 (pairE r t).1, .int .i64 (pairE r t).2])) := by
  refine c45 _ _ ?_
  rintro _ w1 rfl h1
  have B1 : Below w.heap.size w w1 := by rw [h1]; exact alloc_below _ _
  have r1 : Row encInt w1 (some ⟨w.heap.size, 0, none⟩) 2 2 [r, t] := by rw [h1]; exact row_new enInt w 3 [r, t] (by simp)
  refine (k_iwithin 0 1048578 r1).is ⟨_, rfl, cnd (fun g => ?_) fun g => ?_⟩
  · have : ¬ (is1 r 0 1048578 = true ∧ is1 t 0 1048578 = true) := by
      rintro ⟨a, b⟩; simp [a, b] at g
    exact ⟨by simp [pairE, this], B1⟩
  · have : is1 r 0 1048578 = true ∧ is1 t 0 1048578 = true := by simpa using g
    exact (k_ipacked _ _ _).is ⟨_, rfl, by simp [pairE, this], B1⟩
/-- A graph in memory of its own. -/
def DG (lo : Nat) (w : World) (a : Option Addr) (n c : Nat) (sa : Option Addr) (sn sc : Nat) (G : PG) : Prop := DNodes lo w a n c G.nodes ∧ DEnts lo w sa sn sc G.slots
section
variable {lo : Nat} {w w' : World} {a sa : Option Addr} {n c sn sc : Nat} {G : PG}
theorem DG.below (h : DG lo w a n c sa sn sc G) (hB : Below w.heap.size w w') : DG lo w' a n c sa sn sc G := ⟨h.1.below hB, h.2.below hB⟩
theorem Grf.rng (h : Grf w a n c sa sn sc G) : RngG G := by
  constructor
  · obtain ⟨rs, _, h2⟩ := h.nodes
    intro x hx
    obtain ⟨i, hi, rfl⟩ := List.mem_iff_getElem.1 hx
    exact (h2.2 i (by have := h2.1; omega) hi).rng.1
  · obtain ⟨rs, _, h2⟩ := h.slots
    intro x hx
    obtain ⟨i, hi, rfl⟩ := List.mem_iff_getElem.1 hx
    exact (h2.2 i (by have := h2.1; omega) hi).rng.1
/-- A graph is put into a box of its own. -/
theorem box_grf {W : World} {e : TypeId} {K : Nat → World → Prop}
    (hK : ∀ w6 : World, w6.heap[W.heap.size]? = some (.cells #[.slice a n c, .slice sa sn sc] e (0, 0)) → Below W.heap.size W w6 → w6.heap.size = W.heap.size + 1 → K W.heap.size w6) :
    ∀ (b : Nat) (w5 : World), b = W.heap.size → w5 = W.alloc (.cells #[.slice none 0 0, .slice none 0 0] e) → ((w5.cell? (Addr.mk b 0 none)).isSome = true ∧ w5.frozen? (Addr.mk b 0 none) = false ∧ ((w5.cell? ((Addr.mk b 0 none).add 1)).isSome = true ∧ w5.frozen? ((Addr.mk b 0 none).add 1) = false ∧
    (∀ w6 : World, w6 = (w5.setCell (Addr.mk b 0 none) (.slice a n c)).setCell ((Addr.mk b 0 none).add 1) (.slice sa sn sc) → K b w6))) := by
  rintro b w5 hb h5
  have s5 : w5.heap[b]? = some (.cells #[.slice none 0 0, .slice none 0 0] e) := by rw [h5, hb]; exact blk_new _
  refine ⟨blk_some s5 (by simp), blk_free s5 _, blk_some s5 (j := 1) (by simp), blk_free s5 1, ?_⟩
  rintro w6 h6
  have s6 : w6.heap[b]? = some (.cells #[.slice a n c, .slice sa sn sc] e (0, 0)) := by rw [h6]; exact blk_set (blk_set s5 0 _) 1 _
  have B6 : Below W.heap.size W w6 := by
    subst h6; subst h5; subst hb
    exact ((alloc_below W _).setCell (Nat.le_refl _) _).setCell (Nat.le_refl _) _
  have z6 : w6.heap.size = W.heap.size + 1 := by rw [h6, size_set, size_set, h5, size_alloc]
  rw [hb]
  rw [hb] at s6
  exact hK w6 s6 B6 z6
end
theorem place_newL (t : List Int) : place newL t < 0 := by
  rcases place_lt (l := newL) (t := t) with h | ⟨k, hk, _, h, _⟩
  · exact h
  · rw [slot_eq hk] at h
    have : newL[k] = blankE := List.getElem_replicate _
    rw [this] at h; cases h
theorem all7_newL : all7 Entry.st Entry.ty newL = [] := by rfl
theorem newG_rg : RG newG := by
  obtain ⟨_, h2, h3⟩ := put_ok (l := newL) (t := []) (num := 1) new_ok.1 rfl (by decide) (place_newL []) (by rw [all7_newL]; decide)
  refine ⟨(nodes12_iff ?_).1 rfl, h2, ?_⟩
  · intro x hx; simp only [newG, List.mem_singleton] at hx; subst hx; intro y hy; cases hy
  · rw [new_ok.2] at h3; exact h3
theorem newG_len : newG.slots.length ≤ 16004 := by
  have e : putL newL [] 1 = (laidL (all7 Entry.st Entry.ty newL ++ [⟨1, [], 1⟩]) (manyOf ((all7 Entry.st Entry.ty newL).length + 1)), 0) := by
    have := place_newL []
    simp only [putL, new_ok.1, show right2 [] = true from rfl, Bool.true_eq_false, if_false, show ¬ (1 : Int) < 0 by decide, show ¬ 0 ≤ place newL [] by omega, all7_newL, List.length_nil, show ¬ (0 : Nat) = 4000 by decide]
  show (putL newL [] 1).1.length ≤ _
  rw [e]
  show (laidL _ _).length ≤ _
  rw [laidL_len, all7_newL]; decide
structure Known (G : PG) (A : List Node) : Prop where
  nodes : G.nodes = A
  rg : RG G
  slots : G.slots.length ≤ 16004
theorem Known.small {G : PG} {A : List Node} (h : Known G A) (hA : A.length ≤ 1000000) : SmallG G := h.rg.small (by rw [h.nodes]; exact hA) (by have := h.slots; omega)
theorem Known.go {G : PG} {A B : List Node} (h : Known G A) (hr : RngG G) {id : Int} (hid : 0 ≤ id ∧ id < 18446744073709551616) {n m : Int} {plus : Bool} (hB : go12 A n id plus = (B, m, 0)) :
    Known (goneG (turn2 plus) G n id plus).1 B ∧ (goneG (turn2 plus) G n id plus).2 = (m, 0) := by
  have hA := go_alike h.rg hr hid n plus
  have h1 := hA.nodes; have h2 := hA.rest; have h3 := hA.len
  rw [h.nodes, hB] at h1 h2
  have h4 := h.slots
  exact ⟨⟨h1, (hA.ok (by rw [h2])).1, by omega⟩, h2⟩
theorem Known.drop {G : PG} {A B : List Node} (h : Known G A) {m : Int} (hB : drop12 A m = (B, 0)) : Known (dropG G m).1 B ∧ (dropG G m).2 = 0 := by
  obtain ⟨h1, h2, h3, _, h5⟩ := drop_alike h.rg m
  rw [h.nodes, hB] at h1 h2
  have h4 := h.slots
  exact ⟨⟨h1, (h5 h2).1, by omega⟩, h2⟩
end Go.Eng
namespace Go.Eng
open Go Go.RowKit Go.Proofs
set_option maxRecDepth 10000
def c0 : Int := 4611686018427387907
def p0 : Int := 9223372054034644997
theorem com3 : comE 3 = (c0, 0) := by decide +kernel
theorem pair45 : pairE 4 5 = (p0, 0) := by decide +kernel
def A1 : List Node := [⟨true, [], [(c0, 2)], []⟩, ⟨true, [c0], [], [(c0, 1)]⟩]
def A2 : List Node := [⟨true, [], [(c0, 2)], []⟩, ⟨true, [c0], [(p0, 3)], [(c0, 1)]⟩, ⟨true, [c0, p0], [], [(p0, 2)]⟩]
def A3 : List Node := [⟨true, [], [(c0, 2)], []⟩, ⟨true, [c0], [(p0, 3)], [(c0, 1)]⟩, ⟨true, [c0, p0], [], [(c0, 4), (p0, 2)]⟩, ⟨true, [p0], [(c0, 3)], []⟩]
def A4 : List Node := [⟨true, [], [], []⟩, ⟨false, [], [], []⟩, ⟨true, [c0, p0], [], []⟩]
theorem goA1 : go12 [node1] 1 c0 true = (A1, 2, 0) := by decide +kernel
theorem goA2 : go12 A1 2 p0 true = (A2, 3, 0) := by decide +kernel
theorem goA3 : go12 A2 3 c0 false = (A3, 4, 0) := by decide +kernel
theorem dropA4 : drop12 A2 2 = (A4, 0) := by decide +kernel
theorem usedA4 : usedN A4 = [1, 3] := by decide +kernel
theorem usedA2 : usedN A2 = [1, 2, 3] := by decide +kernel
theorem c0_rng : 0 ≤ c0 ∧ c0 < 18446744073709551616 := by decide
theorem p0_rng : 0 ≤ p0 ∧ p0 < 18446744073709551616 := by decide
theorem k_wWakes {w : World} : Cl Tryz.prog 8 #[] w (Gives w (.bool true)) := by
  refine c8 ?_
  unfold V8
  refine (k_iComponent 3).gives fun w1 B1 => ⟨_, _, rfl, (k_iPair 4 5).gives fun w2 B2 => ⟨_, _, rfl, k_gNew.mono ?_⟩⟩
  rw [com3, pair45]
  dsimp only
  rintro _ w3 ⟨a, n, c, sa, sn, sc, rfl, hn0, he0, B3⟩
  have g0 : Grf w3 a n c sa sn sc newG := ⟨hn0.nodes, he0.ents⟩
  have K0 : Known newG [node1] := ⟨rfl, newG_rg, newG_len⟩
  have B03 : Below w.heap.size w w3 := (B1.trans (B2.mono B1.size)).trans (B3.mono (B1.trans (B2.mono B1.size)).size)
  refine ⟨_, _, _, _, _, _, rfl, (k_gPlus g0 (K0.small (by decide)) (by simp [I64]) c0_rng).mono ?_⟩
  obtain ⟨K1, e1⟩ := K0.go g0.rng c0_rng goA1
  rintro _ w4 ⟨a1, n1, c1, sa1, sn1, sc1, rfl, hn1, he1, B4⟩
  rw [show (goneG with2e newG 1 c0 true).2 = (2, 0) from e1]
  have g1 : Grf w4 a1 n1 c1 sa1 sn1 sc1 (goneG (turn2 true) newG 1 c0 true).1 := ⟨hn1.nodes, he1.ents⟩
  have B04 := B03.trans (B4.mono B03.size)
  clear hn1 he1 e1 g0 K0
  generalize (goneG (turn2 true) newG 1 c0 true).1 = G1 at *
  refine ⟨_, _, _, _, _, _, _, _, rfl, box_grf fun w6 q6 B6 z6 => ⟨_, _, _, _, _, _, blk_cell q6 0, blk_cell q6 1, ?_⟩⟩
  have g1' := g1.below B6
  have B06 := B04.trans (B6.mono B04.size)
  refine (k_gPlus g1' (K1.small (by decide)) (by simp [I64]) p0_rng).mono ?_
  obtain ⟨K2, e2⟩ := K1.go g1.rng p0_rng goA2
  rintro _ w7 ⟨a2, n2, c2, sa2, sn2, sc2, rfl, hn2, he2, B7⟩
  rw [show (goneG with2e G1 2 p0 true).2 = (3, 0) from e2]
  have g2 : Grf w7 a2 n2 c2 sa2 sn2 sc2 (goneG (turn2 true) G1 2 p0 true).1 := ⟨hn2.nodes, he2.ents⟩
  have B07 := B06.trans (B7.mono B06.size)
  clear hn2 he2 e2 g1 g1' K1 q6
  generalize (goneG (turn2 true) G1 2 p0 true).1 = G2 at *
  refine ⟨_, _, _, _, _, _, _, _, rfl, box_grf fun w9 q9 B9 z9 => ⟨_, _, _, _, _, _, blk_cell q9 0, blk_cell q9 1, ?_⟩⟩
  have g2 := g2.below B9
  have B09 := B07.trans (B9.mono B07.size)
  refine (k_gLess g2 (K2.small (by decide)) (by simp [I64]) c0_rng).mono ?_
  obtain ⟨K3, e3⟩ := K2.go (plus := false) g2.rng c0_rng goA3
  rintro _ w10 ⟨a3, n3, c3, sa3, sn3, sc3, rfl, hn3, he3, B10⟩
  rw [show (goneG without2e G2 3 c0 false).2 = (4, 0) from e3]
  have B010 := B09.trans (B10.mono B09.size)
  have q10 := blk_below q9 B10 (blk_lt q9)
  have g2 := g2.below B10
  clear hn3 he3 e3 K3 q9
  refine ⟨_, _, _, _, _, _, _, _, rfl, box_grf fun w12 q12 B12 z12 => ?_⟩
  have q10 := blk_below q10 B12 (blk_lt q10)
  have g2 := g2.below B12
  have B012 := B010.trans (B12.mono B010.size)
  refine ⟨_, _, _, _, _, _, blk_cell q10 0, blk_cell q10 1, (k_gDrop g2 (K2.small (by decide)) (by simp [I64])).mono ?_⟩
  obtain ⟨K4, e4⟩ := K2.drop dropA4
  rintro _ w13 ⟨a4, n4, c4, sa4, sn4, sc4, rfl, hn4, he4, B13⟩
  rw [e4]
  have g4 : Grf w13 a4 n4 c4 sa4 sn4 sc4 (dropG G2 2).1 := ⟨hn4.nodes, he4.ents⟩
  have q10 := blk_below q10 B13 (blk_lt q10)
  have g2 := g2.below B13
  have B013 := B012.trans (B13.mono B012.size)
  clear hn4 he4 e4 q12
  generalize (dropG G2 2).1 = G4 at *
  refine ⟨_, _, _, _, _, _, _, rfl, box_grf fun w15 q15 B15 z15 => ?_⟩
  have q10 := blk_below q10 B15 (blk_lt q10)
  have g2 := g2.below B15
  have g4 := g4.below B15
  have B015 := B013.trans (B15.mono B013.size)
  refine ⟨_, _, _, _, _, _, blk_cell q15 0, blk_cell q15 1, (k_gUsed g4 (K4.small (by decide))).mono ?_⟩
  rw [(checkG_rg.2 K4.rg), if_pos rfl, K4.nodes, usedA4]
  rintro _ w16 ⟨ua, un, uc, rfl, ho, B16⟩
  have B016 := B015.trans (B16.mono B015.size)
  have q10 := blk_below q10 B16 (blk_lt q10)
  have g2 := g2.below B16
  clear q15 g4
  refine ⟨_, _, _, rfl, ?_⟩
  rintro _ w17 rfl h17
  have B17 : Below w16.heap.size w16 w17 := by rw [h17]; exact alloc_below _ _
  have r17 : Row encInt w17 (some ⟨w16.heap.size, 0, none⟩) 2 2 [1, 3] := by rw [h17]; exact row_new enInt w16 3 [1, 3] (by simp)
  have B017 := B016.trans (B17.mono B016.size)
  have q10 := blk_below q10 B17 (blk_lt q10)
  have g2 := g2.below B17
  clear h17
  refine (k_EqInts (ho.row.below B17) r17).tells fun w18 Q18 => ⟨_, rfl, ?_⟩
  have B18 := Q18.below w17.heap.size
  have B018 := B017.trans (B18.mono B017.size)
  have q10 := blk_below q10 B18 (blk_lt q10)
  have g2 := g2.below B18
  refine ⟨_, _, _, _, _, _, blk_cell q10 0, blk_cell q10 1, (k_gUsed g2 (K2.small (by decide))).mono ?_⟩
  rw [(checkG_rg.2 K2.rg), if_pos rfl, K2.nodes, usedA2]
  rintro _ w19 ⟨ua2, un2, uc2, rfl, ho2, B19⟩
  have B019 := B018.trans (B19.mono B018.size)
  refine ⟨_, _, _, rfl, ?_⟩
  rintro _ w20 rfl h20
  have B20 : Below w19.heap.size w19 w20 := by rw [h20]; exact alloc_below _ _
  have r20 : Row encInt w20 (some ⟨w19.heap.size, 0, none⟩) 3 3 [1, 2, 3] := by rw [h20]; exact row_new enInt w19 3 [1, 2, 3] (by simp)
  have B020 := B019.trans (B20.mono B019.size)
  refine (k_EqInts (ho2.row.below B20) r20).tells fun w21 Q21 => ⟨_, rfl, rfl, ?_⟩
  exact B020.trans ((Q21.below w20.heap.size).mono B020.size)
end Go.Eng
namespace Go.Eng
open Go Go.RowKit Go.Proofs
set_option maxRecDepth 10000
structure Fits (G : PG) : Prop where
  n : G.nodes.length ≤ 30
  rows : ∀ x ∈ G.nodes, x.ty.length ≤ 14 ∧ x.plus.length ≤ 20 ∧ x.less.length ≤ 20
  s : G.slots.length ≤ 128
  ty : ∀ e ∈ G.slots, e.ty.length ≤ 14
theorem Fits.small {G : PG} (h : Fits G) : SmallG G := by
  refine ⟨⟨by have := h.n; omega, fun x hx => ?_⟩, by have := h.s; omega, fun e he => by have := h.ty e he; omega⟩
  have := h.rows x hx; omega
theorem fits_own (G : PG) : Fits (ownW G) := by
  refine ⟨by simp [ownW]; omega, fun x hx => ?_, by simp [ownW]; omega, fun e he => ?_⟩
  · simp only [ownW, List.mem_map] at hx
    obtain ⟨y, _, rfl⟩ := hx
    simp only [cutN, List.length_take]; omega
  · simp only [ownW, List.mem_map] at he
    obtain ⟨y, _, rfl⟩ := he
    simp only [cutE, List.length_take]; omega
theorem Fits.own {G : PG} (h : Fits G) : ownW G = G := by
  have e1 : (G.nodes.take 30).map cutN = G.nodes := by
    rw [List.take_of_length_le h.n]
    conv => rhs; rw [← List.map_id G.nodes]
    refine List.map_congr_left fun x hx => ?_
    obtain ⟨h1, h2, h3⟩ := h.rows x hx
    show cutN x = x
    unfold cutN
    rw [List.take_of_length_le h1, List.take_of_length_le h2, List.take_of_length_le h3]
  have e2 : (G.slots.take 128).map cutE = G.slots := by
    rw [List.take_of_length_le h.s]
    conv => rhs; rw [← List.map_id G.slots]
    refine List.map_congr_left fun e he => ?_
    show cutE e = e
    unfold cutE
    rw [List.take_of_length_le (h.ty e he)]
  unfold ownW; rw [e1, e2]
structure PTurn where
  kind : Int
  node : Int
  id : Int
  ty : List Int
deriving Inhabited
/-- Both cells of a box are put. -/
theorem put2 {W : World} {b : Nat} {v0 v1 : Value} {t : TypeId} {a a2 : Option Addr} {n c n2 c2 : Nat} (q : W.heap[b]? = some (.cells #[v0, v1] t (0, 0))) {K : World → Prop}
    (hK : ∀ W', W'.heap[b]? = some (.cells #[.slice a n c, .slice a2 n2 c2] t (0, 0)) → (∀ g, g ≠ b → W'.heap[g]? = W.heap[g]?) → Below b W W' → W'.heap.size = W.heap.size → W' = (W.setCell ⟨b, 0, none⟩ (.slice a n c)).setCell ⟨b, 1, none⟩ (.slice a2 n2 c2) → K W') :
    ((W.cell? (Addr.mk b 0 none)).isSome = true ∧ W.frozen? (Addr.mk b 0 none) = false ∧ ((W.cell? ((Addr.mk b 0 none).add 1)).isSome = true ∧ W.frozen? ((Addr.mk b 0 none).add 1) = false ∧
    (∀ w4 : World, w4 = (W.setCell (Addr.mk b 0 none) (.slice a n c)).setCell ((Addr.mk b 0 none).add 1) (.slice a2 n2 c2) → K w4))) := by
  refine ⟨blk_some q (by simp), blk_free q _, blk_some q (j := 1) (by simp), blk_free q 1, ?_⟩
  rintro w4 h4
  refine hK w4 (by rw [h4]; exact blk_set (blk_set q 0 _) 1 _) (fun g hg => ?_) ?_ ?_ h4
  · rw [h4]; exact (Below.heap_setCell _ _ _ _ hg).trans (Below.heap_setCell _ _ _ _ hg)
  · rw [h4]; exact ((Below.refl b W).setCell (Nat.le_refl _) _).setCell (Nat.le_refl _) _
  · rw [h4, size_set, size_set]
theorem DG.farB {lo : Nat} {w : World} {a sa : Option Addr} {n c sn sc : Nat} {G : PG} (h : DG lo w a n c sa sn sc G) {b : Nat} {cs : Array Value} {fr : Nat × Nat} (hb : w.heap[b]? = some (.cells cs 27 fr)) {j : Nat} (v : Value) : DG lo (w.setCell ⟨b, j, none⟩ v) a n c sa sn sc G :=
  ⟨h.1.farB hb (by decide) (by decide) (by decide) v, h.2.farB hb (by decide) (by decide) v⟩
theorem Alike.says {G : PG} {r : PG × Int × Int} {q : List Node × Int × Int} {t : List Int} (h : Alike G r q t) (hr : RngN r.1.nodes) (hl : G.slots.length ≤ 1000000) : SaysP r.1 q.1 ∧ (r.2.2 = 0 → Right12 r.1) ∧ r.1.slots.length ≤ 1000000 ∧ q.1.length ≤ G.nodes.length + 1 := by
  have h3 := h.len
  refine ⟨?_, fun he => ?_, by omega, by rw [← h.nodes]; exact h3.2⟩
  · rw [← h.nodes]
    by_cases he : r.2.2 = 0
    · exact (h.ok he).1.says hr (by omega)
    · rw [(h.err he).1]; exact says_nil
  · have hR := (h.ok he).1
    exact ⟨(nodes12_iff hr).2 hR.nodes, ((hR.says hr (by omega)).2.2 (by have := hR.nodes.pos; omega)).1, ((hR.says hr (by omega)).2.2 (by have := hR.nodes.pos; omega)).2⟩
end Go.Eng
namespace Go.Eng
open Go Go.RowKit Go.Proofs
set_option maxRecDepth 10000
end Go.Eng
namespace Go.Eng
open Go Go.RowKit Go.Proofs
theorem cells_get {w : World} {a : Addr} {n : Nat} {cs : List Value} (h : w.cells? 0 a n = some cs) : cs.length = n ∧ ∀ i, i < n → w.cell? (a.add i) = cs[i]? := by
  unfold World.cells? at h
  rw [if_pos (Nat.zero_le _)] at h
  have h1 := mapM_some_length h
  rw [List.length_range] at h1
  exact ⟨h1, fun i hi => mapM_some_get h i i (by simp [hi])⟩
theorem list_of {α : Type} (p : Nat → α → Prop) : ∀ n, (∀ i, i < n → ∃ r, p i r) → ∃ rs : List α, rs.length = n ∧ ∀ i (h : i < rs.length), p i rs[i]
  | 0, _ => ⟨[], rfl, fun i h => by simp at h⟩
  | n + 1, h => by
    obtain ⟨rs, h1, h2⟩ := list_of p n fun i hi => h i (by omega)
    obtain ⟨r, hr⟩ := h n (by omega)
    refine ⟨rs ++ [r], by simp [h1], fun i hi => ?_⟩
    by_cases hin : i < rs.length
    · rw [List.getElem_append_left hin]; exact h2 i hin
    · have : i = n := by simp at hi; omega
      subst this
      rw [List.getElem_append_right (by omega)]; simpa using hr
section
variable {P : Program} {H : Type} {enc : TypeId × Value → H} {w : World} {sp : Nat → Bool} {held : Bool}
/-- What is asked of a cell's reading. -/
def Opens (P : Program) (enc : TypeId × Value → H) (w : World) (sp : Nat → Bool) (held : Bool) (t : TypeId) (G : List Value → Prop) : Prop :=
  ∀ fuel cs x, DataW.trod enc P w 0 sp held fuel t cs = some x → G cs
theorem opens_int {t : TypeId} {k : IntKind} (ht : P.underlying t = some (.int k)) : Opens P enc w sp held t (fun cs => ∃ x : Int, cs = [.int k x] ∧ (Lit.int k x).wf = true) := by
  intro fuel cs x h
  obtain ⟨n, h1, _, h2⟩ := DataW.trod_int ht h
  exact ⟨n, h1, h2⟩
theorem opens_bool {t : TypeId} (ht : P.underlying t = some .bool) : Opens P enc w sp held t (fun cs => ∃ x : Bool, cs = [.bool x]) := by
  intro fuel cs x h
  obtain ⟨n, h1, _⟩ := DataW.trod_bool ht h
  exact ⟨n, h1⟩
theorem opens_slice {ρ : Type} {en : ρ → List Value} {k : Nat} {t e : TypeId} {Good : ρ → Prop} (ht : P.underlying t = some (.slice e)) (hk : P.cellsOf e = k) (E : En en k) (he : Opens P enc w sp held e (fun cs => ∃ r, cs = en r ∧ Good r)) :
    Opens P enc w sp held t (fun cs => ∃ h : Hd, cs = [h.v] ∧ ∃ rs, Row en w h.a h.n h.c rs ∧ ∀ r ∈ rs, Good r) := by
  intro fuel cs x h
  rcases DataW.trod_slice ht h with ⟨h1, _⟩ | ⟨a, len, cap, elems, rest, n, _, h1, _, _, hl, hc, hel, hget, _⟩
  · exact ⟨⟨none, 0, 0⟩, h1, [], Row.nil', by simp⟩
  · obtain ⟨rs, hrl, hr⟩ := list_of (fun i r => w.cells? 0 (a.add (i * k)) k = some (en r) ∧ Good r) len fun i hi => by
      have := hget i hi
      rw [hk, List.getElem?_eq_getElem (by omega)] at this
      obtain ⟨cs', hc1, hc2⟩ := Option.bind_eq_some_iff.1 this
      obtain ⟨r, rfl, hg⟩ := he _ _ _ hc2
      exact ⟨r, hc1, hg⟩
    refine ⟨⟨some a, len, cap⟩, h1, rs, ⟨⟨hrl.symm, .inr ⟨a, rfl, fun j hj => ?_⟩⟩, hl, (fun h => nomatch h), hc⟩, fun r hr' => ?_⟩
    · rw [length_flat E.len] at hj
      have hk0 : 0 < k := by
        rcases Nat.eq_zero_or_pos k with h0 | h0
        · rw [h0] at hj; omega
        · exact h0
      have hd : j / k < rs.length := (Nat.div_lt_iff_lt_mul hk0).2 hj
      have hm : j % k < k := Nat.mod_lt _ hk0
      have hj' : j / k * k + j % k = j := Nat.div_add_mod' j k
      obtain ⟨g1, _⟩ := hr _ hd
      have g2 := (cells_get g1).2 _ hm
      rw [add_add, hj'] at g2
      have g3 := flat_get E.len rs (j / k) (j % k) hd hm
      rw [hj'] at g3
      rw [g2, g3]
    · obtain ⟨i, hi, rfl⟩ := List.mem_iff_getElem.1 hr'
      exact (hr i hi).2
/-- A struct's fields: types and places. -/
def flds (P : Program) (t : TypeId) : Option (List (TypeId × Nat)) := match P.underlying t with | some (.struct fs) => some (fs.toList.map fun f => (f.type, f.offset)) | _ => none
theorem opens_struct {t : TypeId} {L : List (TypeId × Nat)} (h : flds P t = some L) : Opens P enc w sp held t (fun cs => cs.length = P.cellsOf t ∧ ∀ (i : Nat) (ty : TypeId) (off : Nat), L[i]? = some (ty, off) → ∃ fuel x, DataW.trod enc P w 0 sp held fuel ty ((cs.drop off).take (P.cellsOf ty)) = some x) := by
  intro fuel cs x hx
  unfold flds at h
  split at h
  · rename_i fs hfs
    obtain ⟨xs, n, _, _, hl, hlen, hget⟩ := DataW.trod_struct hfs hx
    refine ⟨hl, fun i ty off hi => ?_⟩
    simp only [Option.some.injEq] at h
    rw [← h, List.getElem?_map] at hi
    obtain ⟨f, hf, he⟩ := Option.map_eq_some_iff.1 hi
    simp only [Prod.mk.injEq] at he
    obtain ⟨rfl, rfl⟩ := he
    have hf' : fs[i]? = some f := by simpa using hf
    have := hget i f hf'
    have hil : i < xs.length := by rw [hlen]; exact (Array.getElem?_eq_some_iff.1 hf').1
    rw [List.getElem?_eq_getElem hil] at this
    exact ⟨_, _, this⟩
  · cases h
theorem struct_agg {r : Reach} {b0 : Nat} {t : TypeId} {v : Value} {L : List (TypeId × Nat)} (h : flds P t = some L) (hv : Value.okWide P w r b0 t v) : ∃ cs, v = .agg cs := by
  unfold flds at h
  split at h
  · rename_i fs hfs
    obtain ⟨cs, h1, _⟩ := WideShapes.okWide_struct hfs hv
    exact ⟨cs, h1⟩
  · cases h
end
theorem i64_wf {n : Int} (h : (Lit.int .i64 n).wf = true) : I64 n := by
  simp [Lit.wf, IntKind.min, IntKind.max, IntKind.signed, IntKind.bits] at h
  unfold I64; omega
theorem u64_wf {n : Int} (h : (Lit.int .u64 n).wf = true) : 0 ≤ n ∧ n < 18446744073709551616 := by
  simp [Lit.wf, IntKind.min, IntKind.max, IntKind.signed, IntKind.bits] at h
  omega
theorem len1 {α : Type} {l : List α} (h : l.length = 1) : ∃ a, l = [a] := by
  match l, h with
  | [a], _ => exact ⟨a, rfl⟩
theorem len2 {α : Type} {l : List α} (h : l.length = 2) : ∃ a b, l = [a, b] := by
  match l, h with
  | [a, b], _ => exact ⟨a, b, rfl⟩
theorem len3 {α : Type} {l : List α} (h : l.length = 3) : ∃ a b c, l = [a, b, c] := by
  match l, h with
  | [a, b, c], _ => exact ⟨a, b, c, rfl⟩
theorem len4 {α : Type} {l : List α} (h : l.length = 4) : ∃ a b c d, l = [a, b, c, d] := by
  match l, h with
  | [a, b, c, d], _ => exact ⟨a, b, c, d, rfl⟩
section
variable {H : Type} {enc : TypeId × Value → H} {w : World} {sp : Nat → Bool} {held : Bool}
theorem opens_id : Opens Tryz.prog enc w sp held 32 (fun cs => ∃ x : Int, cs = encId x ∧ 0 ≤ x ∧ x < 18446744073709551616) := by
  intro fuel cs x h
  obtain ⟨n, h1, h2⟩ := opens_int (by kernel_rfl) fuel cs x h
  exact ⟨n, h1, u64_wf h2⟩
theorem opens_i64 : Opens Tryz.prog enc w sp held 3 (fun cs => ∃ x : Int, cs = encInt x ∧ I64 x) := by
  intro fuel cs x h
  obtain ⟨n, h1, h2⟩ := opens_int (by kernel_rfl) fuel cs x h
  exact ⟨n, h1, i64_wf h2⟩
theorem opens_ids : Opens Tryz.prog enc w sp held 33 (fun cs => ∃ h : Hd, cs = [h.v] ∧ ∃ l, Row encId w h.a h.n h.c l ∧ Rng l) := opens_slice (by kernel_rfl) (by kernel_rfl) enId opens_id
theorem opens_ints : Opens Tryz.prog enc w sp held 64 (fun cs => ∃ h : Hd, cs = [h.v] ∧ ∃ l, Row encInt w h.a h.n h.c l ∧ ∀ x ∈ l, I64 x) := opens_slice (by kernel_rfl) (by kernel_rfl) enInt opens_i64
theorem opens_step : Opens Tryz.prog enc w sp held 71 (fun cs => ∃ x : Stp, cs = encStp x ∧ 0 ≤ x.1 ∧ x.1 < 18446744073709551616 ∧ I64 x.2) := by
  intro fuel cs x h
  obtain ⟨hl, hf⟩ := opens_struct (show flds Tryz.prog 71 = some [(32, 0), (3, 1)] by kernel_rfl) fuel cs x h
  obtain ⟨a, b, rfl⟩ := len2 (hl.trans (show Tryz.prog.cellsOf 71 = 2 by kernel_rfl))
  obtain ⟨f0, x0, h0⟩ := hf 0 _ _ rfl
  obtain ⟨f1, x1, h1⟩ := hf 1 _ _ rfl
  rw [show Tryz.prog.cellsOf 32 = 1 by kernel_rfl] at h0
  rw [show Tryz.prog.cellsOf 3 = 1 by kernel_rfl] at h1
  obtain ⟨y, e0, r0⟩ := opens_id _ _ _ h0
  obtain ⟨z, e1, r1⟩ := opens_i64 _ _ _ h1
  simp [encId] at e0
  simp [encInt] at e1
  exact ⟨(y, z), by rw [e0, e1]; rfl, r0.1, r0.2, r1⟩
theorem opens_steps : Opens Tryz.prog enc w sp held 54 (fun cs => ∃ h : Hd, cs = [h.v] ∧ ∃ l : List Stp, Row encStp w h.a h.n h.c l ∧ ∀ s ∈ l, 0 ≤ s.1 ∧ s.1 < 18446744073709551616 ∧ I64 s.2) := opens_slice (by kernel_rfl) (by kernel_rfl) enStp opens_step
theorem opens_node : Opens Tryz.prog enc w sp held 56 (fun cs => ∃ r : RNode, cs = encNode r ∧ ∃ x, IsNode w r x) := by
  intro fuel cs x h
  obtain ⟨hl, hf⟩ := opens_struct (show flds Tryz.prog 56 = some [(4, 0), (33, 1), (54, 2), (54, 3)] by kernel_rfl) fuel cs x h
  obtain ⟨a, b, c, d, rfl⟩ := len4 (hl.trans (show Tryz.prog.cellsOf 56 = 4 by kernel_rfl))
  obtain ⟨f0, x0, h0⟩ := hf 0 _ _ rfl
  obtain ⟨f1, x1, h1⟩ := hf 1 _ _ rfl
  obtain ⟨f2, x2, h2⟩ := hf 2 _ _ rfl
  obtain ⟨f3, x3, h3⟩ := hf 3 _ _ rfl
  rw [show Tryz.prog.cellsOf 4 = 1 by kernel_rfl] at h0
  rw [show Tryz.prog.cellsOf 33 = 1 by kernel_rfl] at h1
  rw [show Tryz.prog.cellsOf 54 = 1 by kernel_rfl] at h2 h3
  obtain ⟨u, e0⟩ := opens_bool (by kernel_rfl) _ _ _ h0
  obtain ⟨hd1, e1, l1, r1, g1⟩ := opens_ids _ _ _ h1
  obtain ⟨hd2, e2, l2, r2, g2⟩ := opens_steps _ _ _ h2
  obtain ⟨hd3, e3, l3, r3, g3⟩ := opens_steps _ _ _ h3
  simp at e0 e1 e2 e3
  refine ⟨⟨u, hd1, hd2, hd3⟩, by rw [e0, e1, e2, e3]; rfl, ⟨u, l1, l2, l3⟩, rfl, r1, r2, r3, g1, fun s hs => ?_⟩
  rcases List.mem_append.1 hs with hs | hs
  · exact g2 s hs
  · exact g3 s hs
theorem opens_ent : Opens Tryz.prog enc w sp held 94 (fun cs => ∃ r : REnt, cs = encEnt r ∧ ∃ x, IsEnt w r x) := by
  intro fuel cs x h
  obtain ⟨hl, hf⟩ := opens_struct (show flds Tryz.prog 94 = some [(3, 0), (33, 1), (3, 2)] by kernel_rfl) fuel cs x h
  obtain ⟨a, b, c, rfl⟩ := len3 (hl.trans (show Tryz.prog.cellsOf 94 = 3 by kernel_rfl))
  obtain ⟨f0, x0, h0⟩ := hf 0 _ _ rfl
  obtain ⟨f1, x1, h1⟩ := hf 1 _ _ rfl
  obtain ⟨f2, x2, h2⟩ := hf 2 _ _ rfl
  rw [show Tryz.prog.cellsOf 3 = 1 by kernel_rfl] at h0 h2
  rw [show Tryz.prog.cellsOf 33 = 1 by kernel_rfl] at h1
  obtain ⟨y, e0, r0⟩ := opens_i64 _ _ _ h0
  obtain ⟨hd1, e1, l1, r1, g1⟩ := opens_ids _ _ _ h1
  obtain ⟨z, e2, r2⟩ := opens_i64 _ _ _ h2
  simp [encInt] at e0 e1 e2
  exact ⟨⟨y, hd1, z⟩, by rw [e0, e1, e2]; rfl, ⟨y, l1, z⟩, rfl, rfl, r1, g1, r0, r2⟩
theorem all2_of {ρ β : Type} {R : ρ → β → Prop} {rs : List ρ} (h : ∀ r ∈ rs, ∃ x, R r x) : ∃ l, All2 R rs l := by
  obtain ⟨l, hl, hr⟩ := list_of (fun i x => ∀ h : i < rs.length, R rs[i] x) rs.length fun i hi => by
    obtain ⟨x, hx⟩ := h _ (List.getElem_mem hi)
    exact ⟨x, fun _ => hx⟩
  exact ⟨l, hl.symm, fun i h1 h2 => hr i h2 h1⟩
theorem opens_nodes : Opens Tryz.prog enc w sp held 22 (fun cs => ∃ h : Hd, cs = [h.v] ∧ ∃ l, Nodes w h.a h.n h.c l) := by
  intro fuel cs x h
  obtain ⟨hd, e, rs, hr, hg⟩ := opens_slice (by kernel_rfl) (by kernel_rfl) enNode opens_node fuel cs x h
  obtain ⟨l, hl⟩ := all2_of hg
  exact ⟨hd, e, l, rs, hr, hl⟩
theorem opens_ents : Opens Tryz.prog enc w sp held 23 (fun cs => ∃ h : Hd, cs = [h.v] ∧ ∃ l, Ents w h.a h.n h.c l) := by
  intro fuel cs x h
  obtain ⟨hd, e, rs, hr, hg⟩ := opens_slice (by kernel_rfl) (by kernel_rfl) enEnt opens_ent fuel cs x h
  obtain ⟨l, hl⟩ := all2_of hg
  exact ⟨hd, e, l, rs, hr, hl⟩
theorem opens_lookup : Opens Tryz.prog enc w sp held 25 (fun cs => ∃ h : Hd, cs = [h.v] ∧ ∃ l, Ents w h.a h.n h.c l) := by
  intro fuel cs x h
  obtain ⟨hl, hf⟩ := opens_struct (show flds Tryz.prog 25 = some [(23, 0)] by kernel_rfl) fuel cs x h
  obtain ⟨a, rfl⟩ := len1 (hl.trans (show Tryz.prog.cellsOf 25 = 1 by kernel_rfl))
  obtain ⟨f0, x0, h0⟩ := hf 0 _ _ rfl
  rw [show Tryz.prog.cellsOf 23 = 1 by kernel_rfl] at h0
  exact opens_ents _ _ _ h0
theorem opens_graph : Opens Tryz.prog enc w sp held 27 (fun cs => ∃ h s : Hd, cs = [h.v, s.v] ∧ ∃ G, Grf w h.a h.n h.c s.a s.n s.c G) := by
  intro fuel cs x h
  obtain ⟨hl, hf⟩ := opens_struct (show flds Tryz.prog 27 = some [(22, 0), (25, 1)] by kernel_rfl) fuel cs x h
  obtain ⟨a, b, rfl⟩ := len2 (hl.trans (show Tryz.prog.cellsOf 27 = 2 by kernel_rfl))
  obtain ⟨f0, x0, h0⟩ := hf 0 _ _ rfl
  obtain ⟨f1, x1, h1⟩ := hf 1 _ _ rfl
  rw [show Tryz.prog.cellsOf 22 = 1 by kernel_rfl] at h0
  rw [show Tryz.prog.cellsOf 25 = 1 by kernel_rfl] at h1
  obtain ⟨hd, e0, l, r0⟩ := opens_nodes _ _ _ h0
  obtain ⟨sd, e1, s, r1⟩ := opens_lookup _ _ _ h1
  simp at e0 e1
  exact ⟨hd, sd, by rw [e0, e1], ⟨l, s⟩, r0, r1⟩
theorem opens_rows : Opens Tryz.prog enc w sp held 73 (fun cs => ∃ h : Hd, cs = [h.v] ∧ ∃ hs : List Hd, Row encHd w h.a h.n h.c hs ∧ ∃ ls, All2 (fun (r : Hd) l => Row encId w r.a r.n r.c l ∧ Rng l) hs ls) := by
  intro fuel cs x h
  obtain ⟨hd, e, rs, hr, hg⟩ := opens_slice (en := encHd) (k := 1) (Good := fun r : Hd => ∃ l, Row encId w r.a r.n r.c l ∧ Rng l) (by kernel_rfl) (by kernel_rfl) enHd opens_ids fuel cs x h
  obtain ⟨l, hl⟩ := all2_of hg
  exact ⟨hd, e, rs, hr, l, hl⟩
end
end Go.Eng
namespace Go.Proofs.YtfcnkaignjdpgaaGreat
open Go.ChangeShapes Go.WideShapes Go.ChangeAt Go.RowKit Go.Eng
theorem own : ownKnob Tryz.prog.godebug = none := by kernel_rfl
theorem laidOut : laidOutB Tryz.prog = true := by kernel_rfl
section
variable {H : Type} {enc : TypeId × Value → H}
set_option maxRecDepth 100000 in
theorem arg_graph {W : World} {r : Reach} {b0 : Nat} {sp : Nat → Bool} {held : Bool} {v : Value} {d : DataW H} {ps : List MemPlace} (hv : Value.okWide Tryz.prog W r b0 27 v) (h : DataW.Trod enc Tryz.prog W 0 sp held 27 v d ps) :
    ∃ (h s : Hd) (G : PG), v = .agg #[h.v, s.v] ∧ Grf W h.a h.n h.c s.a s.n s.c G := by
  obtain ⟨cs, rfl⟩ := struct_agg (show flds Tryz.prog 27 = some [(22, 0), (25, 1)] by kernel_rfl) hv
  obtain ⟨fuel, hf⟩ := h
  obtain ⟨hd, sd, e, G, hG⟩ := opens_graph _ _ _ hf
  refine ⟨hd, sd, G, ?_, hG⟩
  have : cs = #[hd.v, sd.v] := by
    apply Array.ext'
    simpa [Value.cells] using e
  rw [this]
set_option maxRecDepth 100000 in
theorem arg_slice {W : World} {r : Reach} {b0 : Nat} {sp : Nat → Bool} {held : Bool} {v : Value} {d : DataW H} {ps : List MemPlace} {t e : TypeId} {G : Hd → Prop} (ht : Tryz.prog.underlying t = some (.slice e)) (ho : Opens Tryz.prog enc W sp held t (fun cs => ∃ h : Hd, cs = [h.v] ∧ G h))
    (hv : Value.okWide Tryz.prog W r b0 t v) (h : DataW.Trod enc Tryz.prog W 0 sp held t v d ps) : ∃ h : Hd, v = h.v ∧ G h := by
  obtain ⟨a, n, c, rfl⟩ := okWide_slice ht hv
  obtain ⟨fuel, hf⟩ := h
  obtain ⟨hd, e, hG⟩ := ho _ _ _ hf
  refine ⟨hd, ?_, hG⟩
  simpa [Value.cells] using e
end
end Go.Proofs.YtfcnkaignjdpgaaGreat
namespace Go.Eng
open Go Go.RowKit Go.Proofs
set_option maxRecDepth 10000
theorem Row.hdN {w : World} {a : Option Addr} {n c : Nat} {l : List Hd} (h : Row encHd w a n c l) {k : Nat} {K : Option Addr → Nat → Nat → Prop} (hk : k < n) (hK : ∀ hl : k < l.length, K l[k].a l[k].n l[k].c) :
    ∃ p : Addr, a = some p ∧ 0 ≤ (k : Int) ∧ (k : Int) < (n : Int) ∧ ∃ (xa : Option Addr) (xn xc : Nat), w.cell? (p.add ((k : Int).toNat * 1)) = some (.slice xa xn xc) ∧ K xa xn xc := by
  obtain ⟨p, hp, hc⟩ := h.ix1 (i := (k : Int)) (fun _ => rfl) (by omega) (by omega)
  exact ⟨p, hp, by omega, by omega, _, _, _, hc, hK _⟩
/-- What stands all the time. -/
structure MSt (w W : World) (b b2 : Nat) (a : Option Addr) (n c : Nat) (sa : Option Addr) (sn sc : Nat) (ga : Option Addr) (gn gc : Nat) (gsa : Option Addr) (gsn gsc : Nat) (H : PG) : Prop where
  B : Below w.heap.size w W
  qx : W.heap[b]? = some (.cells #[.slice a n c, .slice sa sn sc] 27)
  qg : W.heap[b2]? = some (.cells #[.slice ga gn gc, .slice gsa gsn gsc] 27)
  hg : Grf W ga gn gc gsa gsn gsc H
theorem MSt.next {w W W' : World} {b b2 : Nat} {a : Option Addr} {n c : Nat} {sa : Option Addr} {sn sc : Nat} {ga : Option Addr} {gn gc : Nat} {gsa : Option Addr} {gsn gsc : Nat} {H : PG} (h : MSt w W b b2 a n c sa sn sc ga gn gc gsa gsn gsc H) (hB : Below W.heap.size W W') : MSt w W' b b2 a n c sa sn sc ga gn gc gsa gsn gsc H :=
  ⟨h.B.trans (hB.mono h.B.size), blk_below h.qx hB (blk_lt h.qx), blk_below h.qg hB (blk_lt h.qg), h.hg.below hB⟩
section
variable {w W : World} {b b2 : Nat} {a sa ga gsa : Option Addr} {n c sn sc gn gc gsn gsc : Nat} {G H : PG}
theorem may_end (h : Grf w a n c sa sn sc G) (hS : MSt w W b b2 a n c sa sn sc ga gn gc gsa gsn gsc (ownW G)) :
    (∀ w24 : World, w24 = W.drew →
    (∃ (x36a : Option Addr) (x36n : Nat) (x36c : Nat) (x37a : Option Addr) (x37n : Nat) (x37c : Nat), w24.cell? (Addr.mk b2 0 none) = some (.slice x36a x36n x36c) ∧ w24.cell? ((Addr.mk b2 0 none).add 1) = some (.slice x37a x37n x37c) ∧
    (∃ (x38a : Option Addr) (x38n : Nat) (x38c : Nat) (x39a : Option Addr) (x39n : Nat) (x39c : Nat), w24.cell? (Addr.mk b 0 none) = some (.slice x38a x38n x38c) ∧ w24.cell? ((Addr.mk b 0 none).add 1) = some (.slice x39a x39n x39c) ∧
    (Cl Tryz.prog 9 #[.agg #[.slice x38a x38n x38c, .slice x39a x39n x39c]] w24 fun v14 w25 => ∃ (x40a : Option Addr) (x40n : Nat) (x40c : Nat) (x41a : Option Addr) (x41n : Nat) (x41c : Nat), v14 = .agg #[.slice x40a x40n x40c, .slice x41a x41n x41c] ∧ (w25.cell? (Addr.mk b2 0 none) = some (.slice x36a x36n x36c) ∧ w25.cell? ((Addr.mk b2 0 none).add 1) = some (.slice x37a x37n x37c) ∧
    (Cl Tryz.prog 20 #[.agg #[.slice x36a x36n x36c, .slice x37a x37n x37c], .agg #[.slice x40a x40n x40c, .slice x41a x41n x41c]] w25 fun v15 w26 => ∃ (x42 : Bool), v15 = .bool x42 ∧ (Gives w (.bool true) (.bool x42) w26))))))) := by
  rintro w24 rfl
  have hS := hS.next ((Below.refl W.heap.size W).drew)
  refine ⟨_, _, _, _, _, _, blk_cell hS.qg 0, blk_cell hS.qg 1, _, _, _, _, _, _, blk_cell hS.qx 0, blk_cell hS.qx 1, (k_wOwn (h.below hS.B)).mono ?_⟩
  rintro _ w1 ⟨oa, on, oc, osa, osn, osc, rfl, hd, he, B1⟩
  have hS := hS.next B1
  have hO : Grf w1 oa on oc osa osn osc (ownW G) := ⟨hd.nodes, he.ents⟩
  refine ⟨_, _, _, _, _, _, rfl, blk_cell hS.qg 0, blk_cell hS.qg 1, (k_wSame hS.hg hO).mono ?_⟩
  rintro _ w2 ⟨r, rfl, hr, B2⟩
  obtain rfl := hr.2 rfl
  exact ⟨_, rfl, rfl, (hS.next B2).B⟩
set_option maxHeartbeats 2000000
theorem may_rest {right : Bool} {useda numbersa rowsa : Option Addr} {usedn usedc numbersn numbersc rowsn rowsc : Nat} {ms : List Int} {hs : List Hd} {ls : List (List Int)} (h : Grf w a n c sa sn sc G) (hS : MSt w W b b2 a n c sa sn sc ga gn gc gsa gsn gsc (ownW G))
    (hright : checkG (ownW G) = right) (hU : Row encInt W useda usedn usedc (if right = true then usedN (ownW G).nodes else [])) (hm : Row encInt w numbersa numbersn numbersc ms) (hm64 : ∀ x ∈ ms, I64 x) (hr : Row encHd w rowsa rowsn rowsc hs) (hall : All2 (fun (r : Hd) l => Row encId w r.a r.n r.c l ∧ Rng l) hs ls) :
    (∃ (x16a : Option Addr) (x16n : Nat) (x16c : Nat) (x17a : Option Addr) (x17n : Nat) (x17c : Nat), W.cell? (Addr.mk b2 0 none) = some (.slice x16a x16n x16c) ∧ W.cell? ((Addr.mk b2 0 none).add 1) = some (.slice x17a x17n x17c) ∧
    (Cl Tryz.prog 29 #[.agg #[.slice x16a x16n x16c, .slice x17a x17n x17c]] W fun v6 w10 => ∃ (x18a : Option Addr) (x18n : Nat) (x18c : Nat), v6 = .slice x18a x18n x18c ∧
    (Cl Tryz.prog 28 #[.slice x18a x18n x18c, .slice useda usedn usedc] w10 fun v7 w11 => ∃ (x19 : Bool), v7 = .bool x19 ∧
    (cond (!x19) (Gives w (.bool true) (.bool false) w11)
    (Cl Tryz.prog 34 #[] w11 fun v8 w12 => ∃ (x20a : Option Addr) (x20n : Nat) (x20c : Nat) (x21a : Option Addr) (x21n : Nat) (x21c : Nat), v8 = .agg #[.slice x20a x20n x20c, .slice x21a x21n x21c] ∧
    (Cl Tryz.prog 35 #[] w12 fun v9 w13 => ∃ (x22a : Option Addr) (x22n : Nat) (x22c : Nat), v9 = .slice x22a x22n x22c ∧
    (Cl Tryz.prog 19 #[.agg #[.slice x20a x20n x20c, .slice x21a x21n x21c], .slice x22a x22n x22c] w13 fun v10 w14 => ∃ (x23 : Bool), v10 = .bool x23 ∧
    (cond (!x23) (Gives w (.bool true) (.bool false) w14) (∃ (Jm2 : Bool → Int → World → Prop), (∃ (Jv : Bool → Int → World → Prop) (mu : Bool → Int → World → Nat), Jv false 0 w14 ∧ ∀ (jk_3 : Nat → Value) (w15 : World), ∀ (s62 : Bool) (s622 : Int), Jv s62 s622 w15 →
    (cond (decide (s622 < (numbersn : Int))) (∃ p : Addr, numbersa = some p ∧ 0 ≤ s622 ∧ s622 < (numbersn : Int) ∧
    (∃ (x24 : Int), w15.cell? (p.add ((s622).toNat * 1)) = some (.int .i64 x24) ∧
    (cond (s622 == 8) (Jm2 s62 s622 w15) (∃ (x25a : Option Addr) (x25n : Nat) (x25c : Nat) (x26a : Option Addr) (x26n : Nat) (x26c : Nat), w15.cell? (Addr.mk b2 0 none) = some (.slice x25a x25n x25c) ∧ w15.cell? ((Addr.mk b2 0 none).add 1) = some (.slice x26a x26n x26c) ∧
    (Cl Tryz.prog 24 #[.agg #[.slice x25a x25n x25c, .slice x26a x26n x26c], .int .i64 x24] w15 fun v11 w16 => ∃ (x27a : Option Addr) (x27n : Nat) (x27c : Nat) (x28 : Int), v11 = .tuple #[.slice x27a x27n x27c, .int .i64 x28] ∧
    (∃ (Jm3 : Option Addr → Nat → Nat → Int → World → Prop), (cond right (∃ (x29a : Option Addr) (x29n : Nat) (x29c : Nat), w16.cell? (Addr.mk b2 0 none) = some (.slice x29a x29n x29c) ∧
    (Cl Tryz.prog 36 #[.slice x29a x29n x29c, .int .i64 x24] w16 fun v12 w17 => ∃ (x30 : Bool), v12 = .bool x30 ∧
    (cond x30 (∃ (x31a : Option Addr) (x31n : Nat) (x31c : Nat), w17.cell? (Addr.mk b2 0 none) = some (.slice x31a x31n x31c) ∧
    (∃ p2 : Addr, x31a = some p2 ∧ 0 ≤ (IntKind.i64.wrap (x24 - 1)) ∧ (IntKind.i64.wrap (x24 - 1)) < (x31n : Int) ∧
    (∃ (x32a : Option Addr) (x32n : Nat) (x32c : Nat), w17.cell? ((p2.add (((IntKind.i64.wrap (x24 - 1))).toNat * 4)).add 1) = some (.slice x32a x32n x32c) ∧ (Jm3 x32a x32n x32c 0 w17)))) (Jm3 none 0 0 2 w17)))) (Jm3 none 0 0 220 w16)) ∧ ∀ (jk_4 : Nat → Value) (w18 : World), ∀ (wanta : Option Addr) (wantn : Nat) (wantc : Nat) (no : Int), Jm3 wanta wantn wantc no w18 →
    (cond (x28 != no) (Gives w (.bool true) (.bool false) w18)
    (Cl Tryz.prog 22 #[.slice x27a x27n x27c, .slice wanta wantn wantc] w18 fun v13 w19 => ∃ (x33 : Bool), v13 = .bool x33 ∧
    (cond (!x33) (Gives w (.bool true) (.bool false) w19) (∃ (Jv2 : Int → World → Prop) (mu2 : Int → World → Nat), Jv2 0 w19 ∧ ∀ (jk_5 : Nat → Value) (w20 : World), ∀ (s98 : Int), Jv2 s98 w20 →
    (cond (decide (s98 < (x27n : Int))) (∃ p3 : Addr, x27a = some p3 ∧ 0 ≤ s98 ∧ s98 < (x27n : Int) ∧
    (∃ (x34 : Int), w20.cell? (p3.add ((s98).toNat * 1)) = some (.int .u64 x34) ∧
    (∃ p4 : Addr, x27a = some p4 ∧ 0 ≤ s98 ∧ s98 < (x27n : Int) ∧ ((w20.cell? (p4.add ((s98).toNat * 1))).isSome = true ∧ w20.frozen? (p4.add ((s98).toNat * 1)) = false ∧
    (∀ w21 : World, w21 = w20.setCell (p4.add ((s98).toNat * 1)) (.int .u64 (IntKind.u64.wrap (x34 + 1))) → (Jv2 (IntKind.i64.wrap (s98 + 1)) w21 ∧ mu2 (IntKind.i64.wrap (s98 + 1)) w21 < mu2 s98 w20)))))) (Jv s62 (IntKind.i64.wrap (s622 + 1)) w20 ∧ mu s62 (IntKind.i64.wrap (s622 + 1)) w20 < mu s62 s622 w15)))))))))))) (Jm2 s62 s622 w15))) ∧ ∀ (jk_2 : Nat → Value) (w22 : World), ∀ (s6 : Bool) (s62 : Int), Jm2 s6 s62 w22 →
    (∃ (Jv3 : Bool → Int → World → Prop) (mu3 : Bool → Int → World → Nat), Jv3 s6 0 w22 ∧ ∀ (jk_6 : Nat → Value) (w23 : World), ∀ (s63 : Bool) (s111 : Int), Jv3 s63 s111 w23 →
    (cond (decide (s111 < (rowsn : Int))) (∃ p5 : Addr, rowsa = some p5 ∧ 0 ≤ s111 ∧ s111 < (rowsn : Int) ∧
    (∃ (x35a : Option Addr) (x35n : Nat) (x35c : Nat), w23.cell? (p5.add ((s111).toNat * 1)) = some (.slice x35a x35n x35c) ∧
    (cond (s111 == 8) (∀ w24 : World, w24 = w23.drew →
    (∃ (x36a : Option Addr) (x36n : Nat) (x36c : Nat) (x37a : Option Addr) (x37n : Nat) (x37c : Nat), w24.cell? (Addr.mk b2 0 none) = some (.slice x36a x36n x36c) ∧ w24.cell? ((Addr.mk b2 0 none).add 1) = some (.slice x37a x37n x37c) ∧
    (∃ (x38a : Option Addr) (x38n : Nat) (x38c : Nat) (x39a : Option Addr) (x39n : Nat) (x39c : Nat), w24.cell? (Addr.mk b 0 none) = some (.slice x38a x38n x38c) ∧ w24.cell? ((Addr.mk b 0 none).add 1) = some (.slice x39a x39n x39c) ∧
    (Cl Tryz.prog 9 #[.agg #[.slice x38a x38n x38c, .slice x39a x39n x39c]] w24 fun v14 w25 => ∃ (x40a : Option Addr) (x40n : Nat) (x40c : Nat) (x41a : Option Addr) (x41n : Nat) (x41c : Nat), v14 = .agg #[.slice x40a x40n x40c, .slice x41a x41n x41c] ∧ (w25.cell? (Addr.mk b2 0 none) = some (.slice x36a x36n x36c) ∧ w25.cell? ((Addr.mk b2 0 none).add 1) = some (.slice x37a x37n x37c) ∧
    (Cl Tryz.prog 20 #[.agg #[.slice x36a x36n x36c, .slice x37a x37n x37c], .agg #[.slice x40a x40n x40c, .slice x41a x41n x41c]] w25 fun v15 w26 => ∃ (x42 : Bool), v15 = .bool x42 ∧ (Gives w (.bool true) (.bool x42) w26))))))) (0 ≤ (if 14 < (x35n : Int) then 14 else (x35n : Int)) ∧ (if 14 < (x35n : Int) then 14 else (x35n : Int)) ≤ (x35c : Int) ∧
    (Cl Tryz.prog 10 #[.slice x35a ((if 14 < (x35n : Int) then 14 else (x35n : Int)).toNat) (((x35c : Int)).toNat)] w23 fun v16 w27 => ∃ (x43a : Option Addr) (x43n : Nat) (x43c : Nat), v16 = .slice x43a x43n x43c ∧
    (∃ (x44a : Option Addr) (x44n : Nat) (x44c : Nat) (x45a : Option Addr) (x45n : Nat) (x45c : Nat), w27.cell? (Addr.mk b2 0 none) = some (.slice x44a x44n x44c) ∧ w27.cell? ((Addr.mk b2 0 none).add 1) = some (.slice x45a x45n x45c) ∧
    (Cl Tryz.prog 31 #[.agg #[.slice x44a x44n x44c, .slice x45a x45n x45c], .slice x43a x43n x43c] w27 fun v17 w28 => ∃ (x46 : Int) (x47 : Bool), v17 = .tuple #[.int .i64 x46, .bool x47] ∧
    (cond right (∃ (x48a : Option Addr) (x48n : Nat) (x48c : Nat), w28.cell? (Addr.mk b2 0 none) = some (.slice x48a x48n x48c) ∧
    (Cl Tryz.prog 37 #[.slice x48a x48n x48c, .slice x43a x43n x43c] w28 fun v18 w29 => ∃ (x49 : Int), v18 = .int .i64 x49 ∧
    (cond (x46 != x49) (Gives w (.bool true) (.bool false) w29)
    (cond (!(x47 == (decide (0 < x49)))) (Gives w (.bool true) (.bool false) w29) (Jv3 s63 (IntKind.i64.wrap (s111 + 1)) w29 ∧ mu3 s63 (IntKind.i64.wrap (s111 + 1)) w29 < mu3 s63 s111 w23)))))
    (cond (x46 != 0) (Gives w (.bool true) (.bool false) w28)
    (cond (!(x47 == false)) (Gives w (.bool true) (.bool false) w28) (Jv3 s63 (IntKind.i64.wrap (s111 + 1)) w28 ∧ mu3 s63 (IntKind.i64.wrap (s111 + 1)) w28 < mu3 s63 s111 w23))))))))))) (∀ w30 : World, w30 = w23.drew →
    (∃ (x50a : Option Addr) (x50n : Nat) (x50c : Nat) (x51a : Option Addr) (x51n : Nat) (x51c : Nat), w30.cell? (Addr.mk b2 0 none) = some (.slice x50a x50n x50c) ∧ w30.cell? ((Addr.mk b2 0 none).add 1) = some (.slice x51a x51n x51c) ∧
    (∃ (x52a : Option Addr) (x52n : Nat) (x52c : Nat) (x53a : Option Addr) (x53n : Nat) (x53c : Nat), w30.cell? (Addr.mk b 0 none) = some (.slice x52a x52n x52c) ∧ w30.cell? ((Addr.mk b 0 none).add 1) = some (.slice x53a x53n x53c) ∧
    (Cl Tryz.prog 9 #[.agg #[.slice x52a x52n x52c, .slice x53a x53n x53c]] w30 fun v19 w31 => ∃ (x54a : Option Addr) (x54n : Nat) (x54c : Nat) (x55a : Option Addr) (x55n : Nat) (x55c : Nat), v19 = .agg #[.slice x54a x54n x54c, .slice x55a x55n x55c] ∧ (w31.cell? (Addr.mk b2 0 none) = some (.slice x50a x50n x50c) ∧ w31.cell? ((Addr.mk b2 0 none).add 1) = some (.slice x51a x51n x51c) ∧
    (Cl Tryz.prog 20 #[.agg #[.slice x50a x50n x50c, .slice x51a x51n x51c], .agg #[.slice x54a x54n x54c, .slice x55a x55n x55c]] w31 fun v20 w32 => ∃ (x56 : Bool), v20 = .bool x56 ∧ (Gives w (.bool true) (.bool x56) w32)))))))))))))))))) := by
  have hf := fits_own G
  have m63 := hm.n63; have r63 := hr.n63
  refine ⟨_, _, _, _, _, _, blk_cell hS.qg 0, blk_cell hS.qg 1, (k_gUsed hS.hg hf.small).mono ?_⟩
  rw [hright]
  rintro _ w10 ⟨ua, un, uc, rfl, ho, B10⟩
  have hS := hS.next B10
  refine ⟨_, _, _, rfl, (k_EqInts ho.row (hU.below B10)).tells fun w11 Q11 => ⟨_, rfl, cnd (fun hh => absurd hh (by simp)) fun _ => ?_⟩⟩
  have hS := hS.next (Q11.below _)
  clear ho hU
  refine k_gNew.mono ?_
  rintro _ w12 ⟨na, nn, nc, nsa, nsn, nsc, rfl, hnd, hne, B12⟩
  have hS := hS.next B12
  have hN : Grf w12 na nn nc nsa nsn nsc newG := ⟨hnd.nodes, hne.ents⟩
  refine ⟨_, _, _, _, _, _, rfl, k_r12New.mono ?_⟩
  rintro _ w13 ⟨pa, pn, pc, rfl, ⟨prs, hp1, hp2⟩, B13⟩
  have hS := hS.next B13
  have hP : Nodes w13 pa pn pc [node1] := ⟨prs, hp1.row, hp2⟩
  have hNl := newG_len
  refine ⟨_, _, _, rfl, (k_wSays (hN.below B13) hP (by omega) (by simp)).mono ?_⟩
  rintro _ w14 ⟨sb, rfl, hsb, B14⟩
  obtain rfl := hsb.2 (newG_rg.says hN.rng.nodes (by omega))
  have hS := hS.next B14
  clear hN hP hnd hne hp1 hp2
  refine ⟨_, rfl, fun _ _ W => MSt w W b b2 a n c sa sn sc ga gn gc gsa gsn gsc (ownW G), ⟨fun _ i W => MSt w W b b2 a n c sa sn sc ga gn gc gsa gsn gsc (ownW G) ∧ ∃ k : Nat, i = k ∧ k ≤ numbersn, fun _ i _ => numbersn - i.toNat, ⟨hS, 0, rfl, by omega⟩, ?_⟩, ?_⟩
  · clear hS
    rintro _ W _ _ ⟨hS, k, rfl, hk⟩
    refine cnd (fun hc => ?_) fun hc => hS
    have hkn : k < numbersn := by simpa using hc
    refine (hm.below hS.B).intN hkn fun hl => cnd (fun _ => hS) fun _ => ?_
    have h64 := hm64 _ (List.getElem_mem hl)
    generalize ms[k] = m at h64
    refine ⟨_, _, _, _, _, _, blk_cell hS.qg 0, blk_cell hS.qg 1, (k_gType hS.hg hf.small m h64).mono ?_⟩
    rintro _ w16 ⟨ta, tn, tc, rfl, hto, B16⟩
    have hS16 := hS.next B16
    refine ⟨_, _, _, _, rfl, fun xa xn xc no W' => Row encId W' xa xn xc (typeG (ownW G) m).1 ∧ no = (typeG (ownW G) m).2 ∧ Below w16.heap.size w16 W', ?_, ?_⟩
    · refine cnd (fun hR => ?_) fun hR => ?_
      · refine ⟨_, _, _, blk_cell hS16.qg 0, (k_r12Is hS16.hg.nodes m h64).is ⟨_, rfl, cnd (fun hi => ?_) fun hi => ?_⟩⟩
        · obtain ⟨j, hj, rfl, hu, he⟩ := isN_node hi
          refine ⟨_, _, _, blk_cell hS16.qg 0, ?_⟩
          have hfn := hf.n
          obtain ⟨rs, hrow, hall2⟩ := hS16.hg.nodes
          have e1 := hrow.len; have e2 := hall2.1
          rw [pre2 (by omega)]
          refine hrow.nodeTy (by omega) fun hl0 => ?_
          have hx := hall2.2 j hl0 hj
          have et : typeG (ownW G) ((j : Int) + 1) = ((ownW G).nodes[j].ty, 0) := by simp [typeG, hright, hR, hi, he]
          rw [et]; exact ⟨hx.ty, rfl, Below.refl _ _⟩
        · have hi' : isN (ownW G).nodes m = false := by simpa using hi
          have et : typeG (ownW G) m = ([], 2) := by simp [typeG, hright, hR, hi']
          rw [et]; exact ⟨Row.nil', rfl, Below.refl _ _⟩
      · have et : typeG (ownW G) m = ([], 220) := by
          have : right = false := by simpa using hR
          simp [typeG, hright, this]
        rw [et]; exact ⟨Row.nil', rfl, Below.refl _ _⟩
    · rintro _ w18 xa xn xc no ⟨hx, rfl, B18⟩
      have hS18 := hS16.next B18
      refine cnd (fun hh => absurd hh (by simp)) fun _ => ?_
      refine (k_EqIds (hto.row.below B18) hx).tells fun w19 Q19 => ⟨_, rfl, cnd (fun hh => absurd hh (by simp)) fun _ => ?_⟩
      have B19 := Q19.below w18.heap.size
      have hto19 := (hto.below B18).below B19
      have hW19 : Below W.heap.size W w19 := (B16.trans (B18.mono B16.size)).trans (B19.mono (Nat.le_trans B16.size B18.size))
      have tn63 := hto19.row.n63
      clear hS16 hS18 hx B18 B19 Q19 hto
      refine ⟨fun i W' => Below W.heap.size W W' ∧ ∃ (k : Nat) (l' : List Int), i = k ∧ k ≤ tn ∧ Own encId 1 32 W.heap.size W' ta tn tc l', fun i _ => tn - i.toNat, ⟨hW19, 0, _, rfl, by omega, hto19⟩, ?_⟩
      rintro _ w20 _ ⟨B20, k2, l2, rfl, hk2, ho2⟩
      refine cnd (fun hc2 => ?_) fun hc2 => ?_
      · have hk2n : k2 < tn := by simpa using hc2
        refine ho2.row.idN hk2n fun hl2 => ?_
        obtain ⟨g, ha, hlo, h1, h2, h3, h4, cs, hcs⟩ := ho2.put1 enId (i := k2) (j := 0) hk2n (by decide) (.int .u64 (IntKind.u64.wrap (l2[k2] + 1))) (IntKind.u64.wrap (l2[k2] + 1)) fun _ => rfl
        rw [Addr.add_zero'] at h1 h2 h3 h4
        refine ⟨_, ha, by omega, by omega, h1, h2, ?_⟩
        rintro w21 rfl
        rw [nx (by omega)]
        refine ⟨⟨B20.trans ?_, k2 + 1, _, rfl, by omega, h3⟩, dec hk2n⟩
        exact (Below.refl _ _).setCell (by simpa [add_block] using hlo) _
      · rw [nx (by omega)]
        exact ⟨⟨hS.next B20, k + 1, rfl, by omega⟩, dec hkn⟩
  · clear hS
    rintro _ W s6 _ hS
    refine ⟨fun _ i W => MSt w W b b2 a n c sa sn sc ga gn gc gsa gsn gsc (ownW G) ∧ ∃ k : Nat, i = k ∧ k ≤ rowsn, fun _ i _ => rowsn - i.toNat, ⟨hS, 0, rfl, by omega⟩, ?_⟩
    clear hS
    rintro _ W _ _ ⟨hS, k, rfl, hk⟩
    refine cnd (fun hc => ?_) fun hc => may_end h hS
    have hkn : k < rowsn := by simpa using hc
    refine (hr.below hS.B).hdN hkn fun hl => cnd (fun _ => may_end h hS) fun _ => ?_
    have hhl := hall.1
    obtain ⟨hrow, hrng⟩ := hall.2 k hl (by omega)
    generalize ls[k]'(by omega) = t at hrow hrng
    generalize hs[k] = hd at hrow
    have hc14 := (hrow.below hS.B).cut 14
    have hle := hrow.le
    have hrng14 : Rng (t.take 14) := fun x hx => hrng x (List.mem_of_mem_take hx)
    rw [min14]
    simp only [Int.toNat_natCast]
    refine ⟨by omega, by omega, (k_CloneIds hc14 (by omega)).mono ?_⟩
    rintro _ w27 ⟨ra, rn, rc, rfl, hro, B27⟩
    have hS := hS.next B27
    refine ⟨_, _, _, rfl, _, _, _, _, _, _, blk_cell hS.qg 0, blk_cell hS.qg 1, (k_gFind hS.hg hf.small hro.row hrng14).gives fun w28 B28 => ⟨_, _, rfl, ?_⟩⟩
    have hS := hS.next B28
    rw [hright]
    refine cnd (fun hR => ?_) fun hR => ?_
    · have hRG : RG (ownW G) := checkG_rg.1 (hright.trans hR)
      refine ⟨_, _, _, blk_cell hS.qg 0, (k_r12Find hS.hg.nodes (hro.row.below B28)).gives fun w29 B29 => ⟨_, rfl, ?_⟩⟩
      have hS := hS.next B29
      rw [hR, if_pos rfl, find_alike hRG]
      refine cnd (fun hh => absurd hh (by simp)) fun _ => cnd (fun hh => absurd hh (by simp)) fun _ => ?_
      rw [nx (by omega)]
      exact ⟨⟨hS, k + 1, rfl, by omega⟩, dec hkn⟩
    · have : right = false := by simpa using hR
      rw [this]
      refine cnd (fun hh => absurd hh (by simp)) fun _ => cnd (fun hh => absurd hh (by simp)) fun _ => ?_
      rw [nx (by omega)]
      exact ⟨⟨hS, k + 1, rfl, by omega⟩, dec hkn⟩
theorem k_GraphMay {numbersa rowsa : Option Addr} {numbersn numbersc rowsn rowsc : Nat} {ms : List Int} {hs : List Hd} {ls : List (List Int)} (h : Grf w a n c sa sn sc G)
    (hm : Row encInt w numbersa numbersn numbersc ms) (hm64 : ∀ x ∈ ms, I64 x) (hr : Row encHd w rowsa rowsn rowsc hs) (hall : All2 (fun (r : Hd) l => Row encId w r.a r.n r.c l ∧ Rng l) hs ls) :
    Cl Tryz.prog 6 #[.agg #[.slice a n c, .slice sa sn sc], .slice numbersa numbersn numbersc, .slice rowsa rowsn rowsc] w (Gives w (.bool true)) := by
  refine c6 _ _ _ _ _ _ _ _ _ _ _ _ ?_
  unfold V6
  have hf := fits_own G
  rintro _ w1 rfl h1
  have qx : w1.heap[w.heap.size]? = some (.cells #[.slice a n c, .slice sa sn sc] 27) := by rw [h1]; exact blk_new _
  have B1 : Below w.heap.size w w1 := by rw [h1]; exact alloc_below _ _
  clear h1
  refine k_wWakes.gives fun w2 B2 => ⟨_, rfl, ?_⟩
  have B02 := B1.trans (B2.mono B1.size)
  have qx := blk_below qx B2 (blk_lt qx)
  refine ⟨_, _, _, _, _, _, blk_cell qx 0, blk_cell qx 1, (k_wOwn (h.below B02)).mono ?_⟩
  rintro _ w3 ⟨ga, gn, gc, gsa, gsn, gsc, rfl, hgd, hge, B3⟩
  have B03 := B02.trans (B3.mono B02.size)
  have qx := blk_below qx B3 (blk_lt qx)
  refine ⟨_, _, _, _, _, _, rfl, box_grf fun w5 qg B5 z5 => ?_⟩
  have hS : MSt w w5 w.heap.size w3.heap.size a n c sa sn sc ga gn gc gsa gsn gsc (ownW G) :=
    ⟨B03.trans (B5.mono B03.size), blk_below qx B5 (blk_lt qx), qg, (⟨hgd.nodes, hge.ents⟩ : Grf w3 ga gn gc gsa gsn gsc (ownW G)).below B5⟩
  clear qx qg B5 z5 B3 B03 hgd hge B2 B02 B1
  refine ⟨_, _, _, _, _, _, blk_cell hS.qg 0, blk_cell hS.qg 1, (k_r12Right hS.hg.nodes hS.hg.slots hf.small).mono ?_⟩
  rintro _ w6 ⟨right, rfl, hright, B6⟩
  have hS := hS.next B6
  have hcr : checkG (ownW G) = right := by
    have := checkG_12 hS.hg.rng (by have := hf.s; omega)
    cases right with
    | true => exact this.2 (hright.1 rfl)
    | false =>
      cases hcg : checkG (ownW G) with
      | false => rfl
      | true => exact absurd (hright.2 (this.1 hcg)) (by simp)
  refine ⟨_, rfl, fun ua un uc W => MSt w W w.heap.size w3.heap.size a n c sa sn sc ga gn gc gsa gsn gsc (ownW G) ∧ Row encInt W ua un uc (if right = true then usedN (ownW G).nodes else []), ?_, ?_⟩
  · refine cnd (fun hR => ?_) fun hR => ?_
    · have hn : gn ≤ 30 := by have := hS.hg.nodes.len; have := hf.n; omega
      refine ⟨_, _, _, blk_cell hS.qg 0, (k_r12Used hS.hg.nodes (by omega)).mono ?_⟩
      rintro _ w7 ⟨ua, un, uc, rfl, ho, B7⟩
      refine ⟨_, _, _, rfl, hS.next B7, ?_⟩
      rw [hR]; exact ho.row
    · have : right = false := by simpa using hR
      refine ⟨hS, ?_⟩
      rw [this]; exact Row.nil'
  · clear hS
    rintro _ w8 ua un uc ⟨hS, hU⟩
    refine ⟨_, _, _, _, _, _, blk_cell hS.qg 0, blk_cell hS.qg 1, (k_gCheck hS.hg hf.small).gives fun w9 B9 => ⟨_, rfl, ?_⟩⟩
    have hS := hS.next B9
    have hU := hU.below B9
    rw [hcr]
    cases right with
    | true => exact may_rest h hS hcr hU hm hm64 hr hall
    | false => exact may_rest h hS hcr hU hm hm64 hr hall
end
end Go.Eng
namespace Go.Proofs.YtfcnkaignjdpgaaGreat
open Go.ChangeShapes Go.WideShapes Go.ChangeAt Go.RowKit Go.Eng
set_option maxRecDepth 100000 in
theorem graphMay_lifted (os : Os) (started : os.Started) (H : Type) (enc : TypeId × Value → H) :
    ReturnsInHanded {} Tryz.checked os 6 .any (Rows.graphMaySpec.pre6 enc Tryz.prog Tryz.f6 Rows.graphMayRow.domain false) (Rows.graphMaySpec.post enc Tryz.prog Tryz.f6 false true false false) := by
  refine returnsInHanded_of_change (C := Tryz.checked) own started (by kernel_rfl) Tryz.func6
    (ChangeSpec.witness6 (enc := enc) (C := Tryz.checked) false ⟨#[], #[.agg #[.slice none 0 0, .slice none 0 0], .slice none 0 0, .slice none 0 0], []⟩ 8 (by kernel_rfl) (by kernel_rfl) (by kernel_rfl) (by kernel_rfl)) ?_
  intro W base args ds gs before hval0 hW hcnd _
  have hval : ∀ (j : Nat) t v, Tryz.f6.params[j]? = some t → args[j]? = some v → Value.okWide Tryz.prog W .any base t v := hval0
  have hW' := hW
  obtain ⟨p, q, hA0, hV, rfl, hfz, hnd⟩ := hW
  have hA : DataW.TrodAll enc Tryz.prog W 0 (fun _ => true) true Tryz.f6.params.toList args.toList ds p := hA0
  rw [Tryz.params6] at hA hval
  obtain ⟨v0, v1, v2, d0, d1, d2, p0, p1, p2, rfl, rfl, rfl, h0, h1, h2⟩ := trodAll_three hA
  obtain ⟨rfl, rfl⟩ := trodVars_none hV
  clear hA0 hval0
  simp only [List.append_nil] at hW'
  have hlt : ∀ x ∈ p0 ++ p1 ++ p2, x.block < W.heap.size := fun x hx => by simpa using hW'.lt x (by simpa using hx)
  obtain ⟨hd, sd, G, e0, hG⟩ := arg_graph (hval 0 27 v0 rfl rfl) h0
  obtain ⟨md, e1, ms, hms, hm64⟩ := arg_slice (e := 3) (by kernel_rfl) opens_ints (hval 1 64 v1 rfl rfl) h1
  obtain ⟨rd, e2, hs, hr, ls, hall⟩ := arg_slice (e := 33) (by kernel_rfl) opens_rows (hval 2 73 v2 rfl rfl) h2
  subst e0; subst e1; subst e2
  refine (k_GraphMay hG hms hm64 hr hall).2.mono fun e W' ⟨v, he, hv, hB⟩ => ?_
  subst he; subst hv
  refine ⟨_, rfl, _, _, _, [], p0 ++ (p1 ++ p2), [], hW', trodAll_mk1 (shut_bool (by kernel_rfl) true), trodAll_mk3 (Below.trod laidOut (by kernel_rfl) (of_decide_eq_true (by kernel_rfl)) h0 hB fun x hx => hlt x (by simp [hx])) (Below.trod laidOut (by kernel_rfl) (of_decide_eq_true (by kernel_rfl)) h1 hB fun x hx => hlt x (by simp [hx])) (Below.trod laidOut (by kernel_rfl) (of_decide_eq_true (by kernel_rfl)) h2 hB fun x hx => hlt x (by simp [hx])), rfl, hB.frame _, fun h => by cases h⟩
theorem graphMay_holds : Rows.GraphMaySaid :=
  OpenClaim.holds_of_wide 6 Tryz.f6 rfl rfl rfl rfl rfl rfl rfl ⟨rfl, rfl, rfl, rfl, rfl⟩ rfl rfl rfl rfl rfl (by kernel_rfl) Tryz.func6 (by kernel_rfl)
    (of_decide_eq_true (by kernel_rfl)) (by unfold Func.isWrapper; rw [if_neg (of_decide_eq_false (by kernel_rfl))]; exact ⟨rfl, rfl⟩)
    (fun os started H enc _ => graphMay_lifted os started H enc)
end Go.Proofs.YtfcnkaignjdpgaaGreat
