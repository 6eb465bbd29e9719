/- The given statement GraphOrderSaid is proved here: for every input the law answers true and the input reads as it did. Conditions: none. -/
import Derived.Test.YtfcnkaignjdpgaaGreatA6
import Derived.ProofKit
import Derived.Test.YtfcnkaignjdpgaaGreatRows
import Derived.Shelf.SlSortCmp.Whole1
import Derived.Shelf.SlGeneric
import Derived.Ground.SlsfProg
import Derived.Test.YtfcnkaignjdpgaaGreatProg
import Derived.Lib.AppendZerosOnto
set_option linter.unusedVariables false
set_option linter.unusedSimpArgs false
set_option linter.unusedSectionVars false
namespace Go.Eng
open Go Go.Proofs
set_option exponentiation.threshold 300
theorem perm_of_mem {α : Type} [DecidableEq α] {l l' : List α} (h : l.Nodup) (h' : l'.Nodup) (he : ∀ x, x ∈ l ↔ x ∈ l') : l.Perm l' :=
  (pigeon_perm h (fun x hx => (he x).1 hx) (pigeon h' fun x hx => (he x).2 hx)).symm
theorem mem_entsN {l : List Node} {e : Entry} : e ∈ entsU l ↔ ∃ n, isN l n = true ∧ e = ⟨1, (node l n).ty, n⟩ := by
  rw [mem_entsU]
  constructor
  · rintro ⟨k, hk, hu, rfl⟩; exact ⟨(k : Int) + 1, isN_of hk hu, by rw [node_eq hk]⟩
  · rintro ⟨n, hn, rfl⟩
    obtain ⟨k, hk, rfl, hu, he⟩ := isN_node hn
    exact ⟨k, hk, hu, by rw [he]⟩
theorem entsU_nodup (l : List Node) : (entsU l).Nodup := by
  unfold entsU
  rw [List.nodup_iff_pairwise_ne, List.pairwise_map]
  refine (usedIx_nodup l).imp fun hab he => hab ?_
  have := congrArg Entry.num he
  simp only [entN] at this; omega
theorem find_alike {G : PG} (h : RG G) (t : List Int) : findL G.slots t = (findN G.nodes t, decide (0 < findN G.nodes t)) := by
  by_cases hf : 0 < findN G.nodes t
  · obtain ⟨k, hk, hkl, hu, ht⟩ := findN_pos hf
    have := findL_used h.look (h.usedN hkl hu) rfl
    simp only [ht] at this
    rw [this, hk, decide_eq_true (by omega : 0 < ((k : Nat) : Int) + 1)]
  · have h0 : findN G.nodes t = 0 := by
      unfold findN at hf ⊢
      split <;> rename_i hi
      · rw [hi] at hf; simp only at hf; omega
      · rfl
    have hno : (findL G.slots t).2 = false := by
      cases h2 : (findL G.slots t).2 with
      | false => rfl
      | true =>
        exfalso
        obtain ⟨i, hi, _, hu, ht⟩ := h.chg.find h2
        obtain ⟨j, e, _⟩ := findN_self hi hu
        rw [ht] at e; omega
    rw [h0]
    unfold findL at hno ⊢
    rw [h.look] at hno ⊢
    simp only [Bool.true_eq_false, if_false] at hno ⊢
    split
    · simp
    · rename_i hp; rw [if_neg hp] at hno; simp at hno
theorem findN_none {l : List Node} {t : List Int} (h : ¬ 0 < findN l t) {n : Int} (hn : isN l n = true) : (node l n).ty ≠ t := by
  intro ht
  obtain ⟨k, hk, rfl, hu, he⟩ := isN_node hn
  obtain ⟨j, e, _⟩ := findN_self hk hu
  rw [he] at ht
  rw [ht] at e; omega
theorem setNode_length {l : List Node} {k : Nat} (hk : k ≤ l.length) (x : Node) : (setNode l k x).length = max l.length (k + 1) := by
  unfold setNode; split
  · rw [List.length_set]; omega
  · simp; omega
theorem node_setNode {l : List Node} {k : Nat} (hk : k ≤ l.length) (x : Node) {n : Int} (hn : 1 ≤ n) : node (setNode l k x) n = if n = (k : Int) + 1 then x else node l n := by
  obtain ⟨j, rfl⟩ : ∃ j : Nat, n = (j : Int) + 1 := ⟨(n - 1).toNat, by omega⟩
  have e1 : ((j : Int) + 1 - 1).toNat = j := by omega
  have e2 : ((j : Int) + 1 = (k : Int) + 1) ↔ j = k := by omega
  simp only [node, e1, e2, List.getD_eq_getElem?_getD]
  unfold setNode
  split
  · rw [List.getElem?_set]
    by_cases hjk : k = j
    · subst hjk; simp [*]
    · rw [if_neg hjk, if_neg (Ne.symm hjk)]
  · have : k = l.length := by omega
    subst this
    by_cases hjk : j = l.length
    · subst hjk; simp
    · rw [if_neg hjk]
      rcases Nat.lt_or_ge j l.length with hl | hl
      · rw [List.getElem?_append_left hl]
      · rw [List.getElem?_append_right hl, List.getElem?_eq_none hl, List.getElem?_eq_none (by simp; omega)]
theorem isN_setNode {l : List Node} {k : Nat} (hk : k ≤ l.length) (x : Node) (n : Int) : isN (setNode l k x) n = if n = (k : Int) + 1 then x.used else isN l n := by
  by_cases hn : 1 ≤ n
  · unfold isN
    rw [node_setNode hk x hn, setNode_length hk]
    by_cases he : n = (k : Int) + 1
    · simp only [if_pos he]
      have h2 : n ≤ ((max l.length (k + 1) : Nat) : Int) := by omega
      simp [hn, h2]
    · simp only [if_neg he]
      by_cases hl : n ≤ (l.length : Int)
      · have h2 : n ≤ ((max l.length (k + 1) : Nat) : Int) := by omega
        simp [hl, h2]
      · have h2 : ¬ n ≤ ((max l.length (k + 1) : Nat) : Int) := by omega
        simp [hl, h2]
  · have he : ¬ n = (k : Int) + 1 := by omega
    simp [isN, hn, he]
theorem isN_freeIx (l : List Node) : isN l ((freeIx l : Int) + 1) = false := by rw [isN_free (Nat.le_refl _)]; simp
theorem StpP.keep {l l' : List Node} {n : Int} {s : Stp} (h : StpP l n s) (h1 : node l' n = node l n) (h2 : node l' s.2 = node l s.2) (h3 : isN l' s.2 = isN l s.2) : StpP l' n s := by
  unfold StpP at h ⊢; rw [h1, h2, h3]; exact h
theorem StpL.keep {l l' : List Node} {n : Int} {s : Stp} (h : StpL l n s) (h1 : node l' n = node l n) (h2 : node l' s.2 = node l s.2) (h3 : isN l' s.2 = isN l s.2) : StpL l' n s := by
  unfold StpL at h ⊢; rw [h1, h2, h3]; exact h
theorem isN_ge {l : List Node} {n : Int} (h : isN l n = true) : 1 ≤ n := by
  simp only [isN, Bool.and_eq_true, decide_eq_true_eq] at h; exact h.1.1
theorem entsU_setNode {l : List Node} {k : Nat} (hk : k ≤ l.length) (hfree : isN l ((k : Int) + 1) = false) {t : List Int} {p q : List Stp} : (entsU (setNode l k ⟨true, t, p, q⟩)).Perm (⟨1, t, (k : Int) + 1⟩ :: entsU l) := by
  refine perm_of_mem (entsU_nodup _) (List.nodup_cons.2 ⟨fun hm => ?_, entsU_nodup _⟩) fun e => ?_
  · obtain ⟨n, hn, he⟩ := mem_entsN.1 hm
    have := congrArg Entry.num he
    simp only at this
    rw [← this, hfree] at hn; cases hn
  · rw [List.mem_cons, mem_entsN, mem_entsN]
    constructor
    · rintro ⟨n, hn, rfl⟩
      rw [node_setNode hk _ (isN_ge hn)]
      rw [isN_setNode hk] at hn
      by_cases he : n = (k : Int) + 1
      · left; simp [he]
      · right; rw [if_neg he] at hn; exact ⟨n, hn, by rw [if_neg he]⟩
    · rintro (rfl | ⟨n, hn, rfl⟩)
      · refine ⟨(k : Int) + 1, by rw [isN_setNode hk, if_pos rfl], ?_⟩
        rw [node_setNode hk _ (by omega), if_pos rfl]
      · have he : n ≠ (k : Int) + 1 := by rintro rfl; rw [hfree] at hn; cases hn
        exact ⟨n, by rw [isN_setNode hk, if_neg he]; exact hn, by rw [node_setNode hk _ (isN_ge hn), if_neg he]⟩
theorem manyN_entsU (l : List Node) : manyN l = (entsU l).length := by rw [entsU, List.length_map, usedIx_len]
theorem N12.put {l : List Node} (h : N12 l) {t : List Int} (ht : right2 t = true) (hf : ¬ 0 < findN l t) (hm : manyN l ≠ 4000) : N12 (setNode l (freeIx l) ⟨true, t, [], []⟩) := by
  have hk := freeIx_le l
  have hfree := isN_freeIx l
  generalize freeIx l = k at *
  have hne : ∀ n, isN l n = true → n ≠ (k : Int) + 1 := by rintro n hn rfl; rw [hfree] at hn; cases hn
  have hnode : ∀ n, isN l n = true → node (setNode l k ⟨true, t, [], []⟩) n = node l n := fun n hn => by rw [node_setNode hk _ (isN_ge hn), if_neg (hne n hn)]
  have his : ∀ n, isN l n = true → isN (setNode l k ⟨true, t, [], []⟩) n = true := fun n hn => by rw [isN_setNode hk, if_neg (hne n hn)]; exact hn
  have hnew : node (setNode l k ⟨true, t, [], []⟩) ((k : Int) + 1) = ⟨true, t, [], []⟩ := by rw [node_setNode hk _ (by omega), if_pos rfl]
  have hor : ∀ n, isN (setNode l k ⟨true, t, [], []⟩) n = true → n = (k : Int) + 1 ∨ isN l n = true := by
    intro n hn
    rw [isN_setNode hk] at hn
    by_cases he : n = (k : Int) + 1
    · exact .inl he
    · rw [if_neg he] at hn; exact .inr hn
  have hlen := setNode_length hk (⟨true, t, [], []⟩ : Node)
  have hpos := h.pos
  refine ⟨by omega, ?_, his 1 h.one, by rw [hnode 1 h.one]; exact h.ty1, fun n hn => ?_, fun n m hn hm' he => ?_, fun i hi hu => ?_, fun n hn => ?_, fun n s hn hs => ?_, fun n s hn hs => ?_, ?_⟩
  · rw [hlen, isN_setNode hk]
    by_cases he : ((max l.length (k + 1) : Nat) : Int) = (k : Int) + 1
    · rw [if_pos he]
    · rw [if_neg he, show max l.length (k + 1) = l.length by omega]; exact h.last
  · rcases hor n hn with rfl | hn
    · rw [hnew]; exact ht
    · rw [hnode n hn]; exact h.right n hn
  · rcases hor n hn with rfl | hn
    · rcases hor m hm' with rfl | hm'
      · rfl
      · rw [hnew, hnode m hm'] at he
        exact absurd he.symm (findN_none hf hm')
    · rcases hor m hm' with rfl | hm'
      · rw [hnew, hnode n hn] at he
        exact absurd he (findN_none hf hn)
      · rw [hnode n hn, hnode m hm'] at he
        exact h.uniq n m hn hm' he
  · have e1 : node (setNode l k ⟨true, t, [], []⟩) ((i : Int) + 1) = (setNode l k ⟨true, t, [], []⟩)[i] := node_eq hi
    rw [node_setNode hk _ (by omega)] at e1
    by_cases he : (i : Int) + 1 = (k : Int) + 1
    · rw [if_pos he] at e1; rw [← e1] at hu; cases hu
    · rw [if_neg he] at e1
      have hil : i < l.length := by omega
      rw [node_eq hil] at e1
      rw [← e1] at hu ⊢
      exact h.free i hil hu
  · rcases hor n hn with rfl | hn
    · rw [hnew]; exact ⟨.nil, .nil⟩
    · rw [hnode n hn]; exact h.sorted n hn
  · rcases hor n hn with rfl | hn
    · rw [hnew] at hs; cases hs
    · rw [hnode n hn] at hs
      have := h.plus n s hn hs
      exact this.keep (hnode n hn) (hnode _ this.1) (by rw [his _ this.1, this.1])
  · rcases hor n hn with rfl | hn
    · rw [hnew] at hs; cases hs
    · rw [hnode n hn] at hs
      have := h.less n s hn hs
      exact this.keep (hnode n hn) (hnode _ this.1) (by rw [his _ this.1, this.1])
  · have := (entsU_setNode hk hfree (t := t) (p := []) (q := [])).length_eq
    have h2 := h.many
    rw [manyN_entsU, this, List.length_cons, ← manyN_entsU]; omega
theorem all7_many {G : PG} (h : RG G) : (all7 Entry.st Entry.ty G.slots).length = manyN G.nodes := by
  rw [all7_perm'.length_eq, h.ents.length_eq, ← manyN_entsU]
/-- A graph of which a node has a type: by the code and by the document. -/
theorem of_alike {G : PG} (h : RG G) {t : List Int} (hr : Rng t) :
    (ofG G t).1.nodes = (of12 G.nodes t).1 ∧ (ofG G t).2 = (of12 G.nodes t).2 ∧ ((ofG G t).1.slots.length ≤ max G.slots.length 16004 ∧ (ofG G t).1.nodes.length ≤ G.nodes.length + 1) ∧ ((ofG G t).2.2 ≠ 0 → (ofG G t).1 = ⟨[], []⟩) ∧
    ((ofG G t).2.2 = 0 → RG (ofG G t).1 ∧ isN (ofG G t).1.nodes (ofG G t).2.1 = true ∧ (node (ofG G t).1.nodes (ofG G t).2.1).ty = t ∧ ∀ n, isN G.nodes n = true → isN (ofG G t).1.nodes n = true ∧ node (ofG G t).1.nodes n = node G.nodes n) := by
  have hra := right_alike hr
  have hfa := find_alike h t
  unfold ofG of12
  rw [← hra, hfa, ents12_len]
  cases h2 : right2 t with
  | false => simp
  | true =>
    by_cases hf : 0 < findN G.nodes t
    · simp only [hf, decide_true, Bool.true_eq_false, if_true, if_false]
      obtain ⟨k, hk, hkl, hu, ht⟩ := findN_pos hf
      refine ⟨trivial, trivial, ⟨by omega, by omega⟩, fun h => absurd rfl h, fun _ => ⟨h, ?_, ?_, fun n hn => ⟨hn, trivial⟩⟩⟩
      · rw [hk]; exact isN_of hkl hu
      · rw [hk, node_eq hkl]; exact ht
    · have hpl : place G.slots t < 0 := by
        rcases Int.lt_or_le (place G.slots t) 0 with h0 | h0
        · exact h0
        · exfalso
          have h3 : (findL G.slots t).2 = true := by simp [findL, h.look, show ¬ place G.slots t < 0 by omega]
          rw [hfa] at h3; simp [hf] at h3
      have hk := freeIx_le G.nodes
      by_cases hm : manyN G.nodes = 4000
      · have hpe : putL G.slots t ((freeIx G.nodes : Int) + 1) = ([], 6) := by
          simp only [putL, h.look, h2, Bool.true_eq_false, if_false, show ¬ ((freeIx G.nodes : Int) + 1) < 0 by omega, show ¬ 0 ≤ place G.slots t by omega, all7_many h, hm, if_true]
        simp [hf, hm, hpe]
      · obtain ⟨p1, p2, p3⟩ := put_ok (num := (freeIx G.nodes : Int) + 1) h.look h2 (by omega) hpl (by rw [all7_many h]; exact hm)
        have hlen : (putL G.slots t ((freeIx G.nodes : Int) + 1)).1.length ≤ max G.slots.length 16004 := by
          have e : putL G.slots t ((freeIx G.nodes : Int) + 1) = (laidL (all7 Entry.st Entry.ty G.slots ++ [⟨1, t, (freeIx G.nodes : Int) + 1⟩]) (manyOf ((all7 Entry.st Entry.ty G.slots).length + 1)), 0) := by
            simp only [putL, h.look, h2, Bool.true_eq_false, if_false, show ¬ ((freeIx G.nodes : Int) + 1) < 0 by omega, show ¬ 0 ≤ place G.slots t by omega, all7_many h, hm]
          rw [e]
          show (laidL _ _).length ≤ _
          rw [laidL_len]
          have := all7_4000 h.look
          have h2 := manyOf_le ((all7 Entry.st Entry.ty G.slots).length + 1)
          have := all7_many h
          omega
        have hnl : (setNode G.nodes (freeIx G.nodes) ⟨true, t, [], []⟩).length ≤ G.nodes.length + 1 := by rw [setNode_length hk]; omega
        simp only [hf, hm, p1, decide_false, Bool.true_eq_false, Bool.false_eq_true, if_false, ne_eq, not_true_eq_false]
        refine ⟨trivial, trivial, ⟨hlen, hnl⟩, False.elim, fun _ => ⟨⟨h.nodes.put h2 hf hm, p2, ?_⟩, ?_, ?_, fun n hn => ?_⟩⟩
        · refine p3.trans ((h.ents.cons _).trans (entsU_setNode hk (isN_freeIx _)).symm)
        · rw [isN_setNode hk, if_pos rfl]
        · rw [node_setNode hk _ (by omega), if_pos rfl]
        · have he : n ≠ (freeIx G.nodes : Int) + 1 := by rintro rfl; rw [isN_freeIx] at hn; cases hn
          exact ⟨by rw [isN_setNode hk, if_neg he]; exact hn, by rw [node_setNode hk _ (isN_ge hn), if_neg he]⟩
/-- A graph that may be says its nodes. -/
theorem RG.says {G : PG} (h : RG G) (hr : RngN G.nodes) (hn : G.slots.length < 2 ^ 62) : SaysP G G.nodes := by
  refine ⟨rfl, fun h0 => by have := h.nodes.pos; omega, fun _ => ⟨(right7_iff (fun e he hs => ?_) hn).2 h.look, (all7_ents h.look).2 h.ents⟩⟩
  have hm : e ∈ usedE G.slots := List.mem_filter.2 ⟨he, by simp [hs]⟩
  obtain ⟨n, _, rfl⟩ := mem_entsN.1 (h.ents.mem_iff.1 hm)
  exact hr.node n
theorem says_nil : SaysP ⟨[], []⟩ [] := ⟨rfl, fun _ => rfl, fun h => absurd rfl h⟩
end Go.Eng
namespace Go.Eng
open Go Go.Proofs
set_option exponentiation.threshold 300
theorem keys_mem {l : List Stp} {x : Int} : x ∈ keys l ↔ ∃ y, (x, y) ∈ l := by
  simp only [keys, List.mem_map]
  constructor
  · rintro ⟨⟨a, b⟩, h, rfl⟩; exact ⟨b, h⟩
  · rintro ⟨y, h⟩; exact ⟨_, h, rfl⟩
theorem withS_mem {l : List Stp} {s x : Stp} : x ∈ withS l s ↔ x = s ∨ (x ∈ l ∧ x.1 ≠ s.1) := by
  simp only [withS, List.mem_append, List.mem_cons, List.mem_filter, decide_eq_true_eq]
  constructor
  · rintro (⟨h1, h2⟩ | rfl | ⟨h1, h2⟩)
    · exact .inr ⟨h1, by omega⟩
    · exact .inl rfl
    · exact .inr ⟨h1, by omega⟩
  · rintro (rfl | ⟨h1, h2⟩)
    · exact .inr (.inl rfl)
    · rcases Int.lt_or_gt_of_ne h2 with h | h
      · exact .inl ⟨h1, h⟩
      · exact .inr (.inr ⟨h1, h⟩)
theorem keys_withS (l : List Stp) (s : Stp) : keys (withS l s) = with3 (keys l) s.1 := by
  simp only [keys, withS, with3, List.map_append, List.map_cons, List.filter_map]
  rfl
theorem at2_cons_lt {y x : Int} {l : List Int} (h : y < x) : at2 (y :: l) x = at2 l x + 1 := by simp [at2, h]
theorem at2_cons_ge {y x : Int} {l : List Int} (h : ¬ y < x) : at2 (y :: l) x = 0 := by simp [at2, h]
theorem putS_withS : ∀ {l : List Stp}, (keys l).Pairwise (· < ·) → ∀ {id to : Int}, (id ∈ keys l → (id, to) ∈ l) → putS l id to = withS l (id, to)
  | [], _, id, to, _ => by simp [putS, withS, keys, at2]
  | (a, b) :: l, h, id, to, hin => by
    have hk : keys ((a, b) :: l) = a :: keys l := rfl
    rw [hk] at h
    obtain ⟨h1, h2⟩ := List.pairwise_cons.1 h
    by_cases hlt : a < id
    · have hin' : id ∈ keys l → (id, to) ∈ l := by
        intro hm
        have := hin (by rw [hk]; exact List.mem_cons_of_mem _ hm)
        rcases List.mem_cons.1 this with he | he
        · have := congrArg Prod.fst he; simp only at this; omega
        · exact he
      have ih := putS_withS h2 hin'
      have hid : (id ∈ keys ((a, b) :: l)) ↔ id ∈ keys l := by rw [hk, List.mem_cons]; constructor
                                                               · rintro (rfl | h); · omega
                                                                 · exact h
                                                               · exact .inr
      have e1 : putS ((a, b) :: l) id to = (a, b) :: putS l id to := by
        unfold putS
        by_cases hm : id ∈ keys l
        · rw [if_pos (hid.2 hm), if_pos hm]
        · rw [if_neg (fun h => hm (hid.1 h)), if_neg hm, hk, at2_cons_lt hlt]; rfl
      have e2 : withS ((a, b) :: l) (id, to) = (a, b) :: withS l (id, to) := by
        have hn : ¬ id < a := by omega
        simp only [withS, List.filter_cons, hlt, hn, decide_true, decide_false, if_true, Bool.false_eq_true, if_false, List.cons_append]
      rw [e1, e2, ih]
    · have f1 : l.filter (fun x => decide (x.1 < id)) = [] := by
        rw [List.filter_eq_nil_iff]; intro z hz
        have := h1 z.1 (keys_mem.2 ⟨z.2, hz⟩); simp; omega
      have f2 : l.filter (fun x => decide (id < x.1)) = l := by
        rw [List.filter_eq_self]; intro z hz
        have := h1 z.1 (keys_mem.2 ⟨z.2, hz⟩); simp; omega
      by_cases he : a = id
      · subst he
        have hm : (a, to) ∈ (a, b) :: l := hin (by rw [hk]; exact List.mem_cons_self)
        have hb : to = b := by
          rcases List.mem_cons.1 hm with he | he
          · exact congrArg Prod.snd he
          · have := h1 a (keys_mem.2 ⟨to, he⟩); omega
        subst hb
        have : a ∈ keys ((a, to) :: l) := by rw [hk]; exact List.mem_cons_self
        unfold putS; rw [if_pos this]
        simp [withS, List.filter_cons, f1, f2]
      · have hgt : id < a := by omega
        have hno : id ∉ keys ((a, b) :: l) := by
          rw [hk, List.mem_cons]; rintro (rfl | hm)
          · exact he rfl
          · have := h1 id hm; omega
        unfold putS; rw [if_neg hno, hk, at2_cons_ge hlt]
        simp [withS, List.filter_cons, f1, f2, hlt, hgt]
theorem node_set {l : List Node} {n : Int} {x : Node} {m : Int} (h1 : 1 ≤ n) (h2 : n ≤ (l.length : Int)) (hm : 1 ≤ m) : node (l.set (n - 1).toNat x) m = if m = n then x else node l m := by
  unfold node
  simp only [List.getD_eq_getElem?_getD]
  rw [List.getElem?_set]
  by_cases h : m = n
  · subst h
    have : (m - 1).toNat < l.length := by omega
    rw [if_pos rfl, if_pos this, if_pos rfl]; rfl
  · have : ¬ (n - 1).toNat = (m - 1).toNat := by omega
    rw [if_neg this, if_neg h]
theorem nodes_ext {l l' : List Node} (h : l.length = l'.length) (hn : ∀ k : Nat, k < l.length → node l ((k : Int) + 1) = node l' ((k : Int) + 1)) : l = l' := by
  refine List.ext_getElem h fun k h1 h2 => ?_
  have := hn k h1
  rwa [node_eq h1, node_eq h2] at this
/-- A step by one id more leads from lo to hi. -/
def lnk (l : List Node) (lo hi id : Int) : List Node := setPlus12 (setLess12 l hi (id, lo)) lo (id, hi)
theorem lnk_length (l : List Node) (lo hi id : Int) : (lnk l lo hi id).length = l.length := by simp [lnk, setPlus12, setLess12]
theorem isN_le {l : List Node} {n : Int} (h : isN l n = true) : 1 ≤ n ∧ n ≤ (l.length : Int) := by
  simp only [isN, Bool.and_eq_true, decide_eq_true_eq] at h; exact h.1
section
variable {l : List Node} {lo hi id : Int}
theorem node_lnk (h1 : isN l lo = true) (h2 : isN l hi = true) (hne : lo ≠ hi) {m : Int} (hm : 1 ≤ m) : node (lnk l lo hi id) m =
    if m = lo then ⟨(node l lo).used, (node l lo).ty, withS (node l lo).plus (id, hi), (node l lo).less⟩
    else if m = hi then ⟨(node l hi).used, (node l hi).ty, (node l hi).plus, withS (node l hi).less (id, lo)⟩ else node l m := by
  have b1 := isN_le h1; have b2 := isN_le h2
  unfold lnk setPlus12 setLess12
  rw [node_set b1.1 (by rw [List.length_set]; exact b1.2) hm]
  by_cases e1 : m = lo
  · rw [if_pos e1, if_pos e1, node_set b2.1 b2.2 b1.1, if_neg hne]
  · rw [if_neg e1, if_neg e1, node_set b2.1 b2.2 hm]
theorem lnk_used (h1 : isN l lo = true) (h2 : isN l hi = true) (hne : lo ≠ hi) {m : Int} (hm : 1 ≤ m) : (node (lnk l lo hi id) m).used = (node l m).used ∧ (node (lnk l lo hi id) m).ty = (node l m).ty := by
  rw [node_lnk h1 h2 hne hm]
  split
  · rename_i e; subst e; exact ⟨rfl, rfl⟩
  · split
    · rename_i e; subst e; exact ⟨rfl, rfl⟩
    · exact ⟨rfl, rfl⟩
theorem isN_lnk (h1 : isN l lo = true) (h2 : isN l hi = true) (hne : lo ≠ hi) (m : Int) : isN (lnk l lo hi id) m = isN l m := by
  unfold isN
  rw [lnk_length]
  by_cases hm : 1 ≤ m
  · rw [(lnk_used h1 h2 hne hm).1]
  · simp [hm]
theorem entsU_lnk (h1 : isN l lo = true) (h2 : isN l hi = true) (hne : lo ≠ hi) : entsU (lnk l lo hi id) = entsU l := by
  unfold entsU usedIx
  rw [lnk_length]
  have e : (fun i : Nat => (node (lnk l lo hi id) ((i : Int) + 1)).used) = fun i : Nat => (node l ((i : Int) + 1)).used := funext fun i => (lnk_used h1 h2 hne (by omega)).1
  rw [e]
  refine List.map_congr_left fun i _ => ?_
  simp only [entN, (lnk_used (m := (i : Int) + 1) h1 h2 hne (by omega)).2]
/-- Where two nodes' types differ by an id, each's row has no step by it elsewhere. -/
theorem N12.plusKey (h : N12 l) (h1 : isN l lo = true) (h2 : isN l hi = true) (ht : (node l hi).ty = with3 (node l lo).ty id) (hk : id ∈ keys (node l lo).plus) : (id, hi) ∈ (node l lo).plus := by
  obtain ⟨y, hy⟩ := keys_mem.1 hk
  have := h.plus lo _ h1 hy
  have e := h.uniq y hi this.1 h2 (by rw [ht]; exact this.2.2.2)
  rw [← e]; exact hy
theorem N12.lessKey (h : N12 l) (h1 : isN l lo = true) (h2 : isN l hi = true) (ht : (node l lo).ty = without3 (node l hi).ty id) (hk : id ∈ keys (node l hi).less) : (id, lo) ∈ (node l hi).less := by
  obtain ⟨y, hy⟩ := keys_mem.1 hk
  have := h.less hi _ h2 hy
  have e := h.uniq y lo this.1 h1 (by rw [ht]; exact this.2.2.2)
  rw [← e]; exact hy
theorem key_one {r : List Stp} (h : (keys r).Pairwise (· < ·)) {x y z : Int} (h1 : (x, y) ∈ r) (h2 : (x, z) ∈ r) : y = z := by
  have hnd : (r.map (·.1)).Nodup := (show (keys r).Nodup from h.imp fun hab => by omega)
  exact congrArg Prod.snd (nodup_map_inj hnd h1 h2 rfl)
theorem withS_old {r : List Stp} (h : (keys r).Pairwise (· < ·)) {s : Stp} (hk : s.1 ∈ keys r → s ∈ r) {x : Stp} (hx : x ∈ r) : x ∈ withS r s := by
  rw [withS_mem]
  by_cases he : x.1 = s.1
  · left
    have hs := hk (keys_mem.2 ⟨x.2, by rw [← he]; exact hx⟩)
    refine Prod.ext he (key_one h (x := s.1) (y := x.2) (z := s.2) ?_ hs)
    rw [← he]; exact hx
  · exact .inr ⟨hx, he⟩
theorem N12.link (h : N12 l) (h1 : isN l lo = true) (h2 : isN l hi = true) (hid : id ∉ (node l lo).ty) (ht : (node l hi).ty = with3 (node l lo).ty id) : N12 (lnk l lo hi id) := by
  have hne : lo ≠ hi := by
    rintro rfl
    exact hid (by rw [ht]; exact with3_mem.2 (.inl rfl))
  have hsrt : (node l lo).ty.Pairwise (· < ·) := (right2_iff.1 (h.right lo h1)).1
  have ht' : (node l lo).ty = without3 (node l hi).ty id := by rw [ht, without_with hsrt hid]
  have his := fun m => isN_lnk (id := id) h1 h2 hne m
  have hty : ∀ m, isN l m = true → (node (lnk l lo hi id) m).ty = (node l m).ty := fun m hm => (lnk_used h1 h2 hne (isN_ge hm)).2
  have hkp := h.plusKey h1 h2 ht
  have hkl := h.lessKey h1 h2 ht'
  have hP : ∀ m s, isN l m = true → (s ∈ (node (lnk l lo hi id) m).plus ↔ s ∈ (node l m).plus ∨ (m = lo ∧ s = (id, hi))) := by
    intro m s hm
    rw [node_lnk h1 h2 hne (isN_ge hm)]
    by_cases e : m = lo
    · rw [if_pos e]; subst e
      constructor
      · intro hs
        rcases withS_mem.1 hs with rfl | hs
        · exact .inr ⟨rfl, rfl⟩
        · exact .inl hs.1
      · rintro (hs | ⟨_, rfl⟩)
        · exact withS_old (h.sorted _ h1).1 hkp hs
        · exact withS_mem.2 (.inl rfl)
    · rw [if_neg e]
      have : ∀ x : Node, x.plus = (node l m).plus → (s ∈ x.plus ↔ s ∈ (node l m).plus ∨ m = lo ∧ s = (id, hi)) := by
        intro x hx; rw [hx]
        exact ⟨.inl, fun h => h.elim (fun h => h) fun h => absurd h.1 e⟩
      apply this
      split
      · rename_i e2; subst e2; rfl
      · rfl
  have hL : ∀ m s, isN l m = true → (s ∈ (node (lnk l lo hi id) m).less ↔ s ∈ (node l m).less ∨ (m = hi ∧ s = (id, lo))) := by
    intro m s hm
    rw [node_lnk h1 h2 hne (isN_ge hm)]
    by_cases e : m = lo
    · rw [if_pos e]; subst e
      exact ⟨.inl, fun h => h.elim (fun h => h) fun h => absurd h.1 hne⟩
    · rw [if_neg e]
      by_cases e2 : m = hi
      · rw [if_pos e2]; subst e2
        constructor
        · intro hs
          rcases withS_mem.1 hs with rfl | hs
          · exact .inr ⟨rfl, rfl⟩
          · exact .inl hs.1
        · rintro (hs | ⟨_, rfl⟩)
          · exact withS_old (h.sorted _ h2).2 hkl hs
          · exact withS_mem.2 (.inl rfl)
      · rw [if_neg e2]
        exact ⟨.inl, fun h => h.elim (fun h => h) fun h => absurd h.1 e2⟩
  have hlen := lnk_length l lo hi id
  refine ⟨by rw [hlen]; exact h.pos, by rw [hlen, his]; exact h.last, by rw [his]; exact h.one, by rw [hty 1 h.one]; exact h.ty1, fun n hn => ?_, fun n m hn hm he => ?_, fun i hi' hu => ?_, fun n hn => ?_, fun n s hn hs => ?_, fun n s hn hs => ?_, ?_⟩
  · rw [his] at hn; rw [hty n hn]; exact h.right n hn
  · rw [his] at hn hm; rw [hty n hn, hty m hm] at he; exact h.uniq n m hn hm he
  · have hil : i < l.length := by omega
    have e1 : node (lnk l lo hi id) ((i : Int) + 1) = (lnk l lo hi id)[i] := node_eq hi'
    have hnu : isN l ((i : Int) + 1) = false := by
      rw [← his, isN_eq hi']; exact hu
    rw [node_lnk h1 h2 hne (by omega), if_neg (by rintro e; rw [e, h1] at hnu; cases hnu), if_neg (by rintro e; rw [e, h2] at hnu; cases hnu), node_eq hil] at e1
    rw [← e1] at hu ⊢
    exact h.free i hil hu
  · rw [his] at hn
    rw [node_lnk h1 h2 hne (isN_ge hn)]
    have hs := h.sorted n hn
    split
    · rename_i e; subst e
      exact ⟨by rw [keys_withS]; exact with3_sorted hs.1 _, hs.2⟩
    · split
      · rename_i e; subst e
        exact ⟨hs.1, by rw [keys_withS]; exact with3_sorted hs.2 _⟩
      · exact hs
  · rw [his] at hn
    rcases (hP n s hn).1 hs with hs | ⟨rfl, rfl⟩
    · obtain ⟨a1, a2, a3, a4⟩ := h.plus n s hn hs
      exact ⟨by rw [his]; exact a1, by rw [hty n hn]; exact a2, (hL s.2 _ a1).2 (.inl a3), by rw [hty n hn, hty _ a1]; exact a4⟩
    · exact ⟨by rw [his]; exact h2, by rw [hty _ h1]; exact hid, (hL hi _ h2).2 (.inr ⟨rfl, rfl⟩), by rw [hty _ h1, hty _ h2]; exact ht⟩
  · rw [his] at hn
    rcases (hL n s hn).1 hs with hs | ⟨rfl, rfl⟩
    · obtain ⟨a1, a2, a3, a4⟩ := h.less n s hn hs
      exact ⟨by rw [his]; exact a1, by rw [hty n hn]; exact a2, (hP s.2 _ a1).2 (.inl a3), by rw [hty n hn, hty _ a1]; exact a4⟩
    · exact ⟨by rw [his]; exact h1, by rw [hty _ h2, ht]; exact with3_mem.2 (.inl rfl), (hP lo _ h1).2 (.inr ⟨rfl, rfl⟩), by rw [hty _ h1, hty _ h2]; exact ht'⟩
  · rw [manyN_entsU, entsU_lnk h1 h2 hne, ← manyN_entsU]; exact h.many
/-- What the code does, both ways. -/
theorem addPL_lnk (h : N12 l) (h1 : isN l lo = true) (h2 : isN l hi = true) (hid : id ∉ (node l lo).ty) (ht : (node l hi).ty = with3 (node l lo).ty id) :
    addLess (addPlus l lo id hi) hi id lo = lnk l lo hi id ∧ addPlus (addLess l hi id lo) lo id hi = lnk l lo hi id := by
  have hne : lo ≠ hi := by
    rintro rfl
    exact hid (by rw [ht]; exact with3_mem.2 (.inl rfl))
  have hsrt : (node l lo).ty.Pairwise (· < ·) := (right2_iff.1 (h.right lo h1)).1
  have ht' : (node l lo).ty = without3 (node l hi).ty id := by rw [ht, without_with hsrt hid]
  have hp := putS_withS (h.sorted _ h1).1 (h.plusKey h1 h2 ht)
  have hl := putS_withS (h.sorted _ h2).2 (h.lessKey h1 h2 ht')
  have b1 := isN_le h1; have b2 := isN_le h2
  constructor
  · refine nodes_ext (by simp [addLess, addPlus, lnk_length]) fun k hk => ?_
    have k1 : (1 : Int) ≤ (k : Int) + 1 := by omega
    rw [node_lnk h1 h2 hne k1]
    unfold addLess
    rw [node_set b2.1 (by simp [addPlus]; exact b2.2) k1]
    unfold addPlus
    rw [node_set b1.1 b1.2 k1, node_set b1.1 b1.2 b2.1, if_neg (Ne.symm hne), hp, hl]
    by_cases e : (k : Int) + 1 = hi
    · rw [if_pos e, if_neg (by omega), if_pos e]
    · rw [if_neg e, if_neg e]
  · refine nodes_ext (by simp [addLess, addPlus, lnk_length]) fun k hk => ?_
    have k1 : (1 : Int) ≤ (k : Int) + 1 := by omega
    rw [node_lnk h1 h2 hne k1]
    unfold addPlus
    rw [node_set b1.1 (by simp [addLess]; exact b1.2) k1]
    unfold addLess
    rw [node_set b2.1 b2.2 k1, node_set b2.1 b2.2 b1.1, if_neg hne, hp, hl]
end
end Go.Eng
namespace Go.Eng
open Go Go.Proofs
set_option exponentiation.threshold 300
def turn2 (plus : Bool) : List Int → Int → List Int × Int := if plus = true then with2e else without2e
/-- What the answers have in common. -/
structure Alike (G : PG) (r : PG × Int × Int) (q : List Node × Int × Int) (t : List Int) : Prop where
  nodes : r.1.nodes = q.1
  rest : r.2 = q.2
  len : r.1.slots.length ≤ max G.slots.length 16004 ∧ r.1.nodes.length ≤ G.nodes.length + 1
  err : r.2.2 ≠ 0 → r.1 = ⟨[], []⟩ ∧ r.2.1 = 0
  ok : r.2.2 = 0 → RG r.1 ∧ isN r.1.nodes r.2.1 = true ∧ (node r.1.nodes r.2.1).ty = t ∧ ∀ n, isN G.nodes n = true → isN r.1.nodes n = true ∧ (node r.1.nodes n).ty = (node G.nodes n).ty
theorem alike_err {G : PG} {t : List Int} {e : Int} (h : e ≠ 0) : Alike G (⟨[], []⟩, 0, e) ([], 0, e) t := ⟨rfl, rfl, ⟨Nat.zero_le _, Nat.zero_le _⟩, fun _ => ⟨rfl, rfl⟩, fun h' => absurd h' h⟩
theorem alike_same {G : PG} {n : Int} (h : RG G) (hi : isN G.nodes n = true) : Alike G (G, n, 0) (G.nodes, n, 0) (node G.nodes n).ty := ⟨rfl, rfl, ⟨by dsimp only; omega, by dsimp only; omega⟩, fun h => absurd rfl h, fun _ => ⟨h, hi, rfl, fun n h => ⟨h, rfl⟩⟩⟩
theorem of_alike' {G : PG} (h : RG G) {t : List Int} (hr : Rng t) : Alike G (ofG G t) (of12 G.nodes t) t := by
  obtain ⟨h1, h2, h3, h4, h5⟩ := of_alike h hr
  refine ⟨h1, h2, h3, fun he => ⟨h4 he, ?_⟩, fun he => ?_⟩
  · unfold ofG at he ⊢
    split
    · rfl
    · rename_i c1; rw [if_neg c1] at he
      split
      · rename_i c2; rw [if_pos c2] at he; exact absurd rfl he
      · rename_i c2; rw [if_neg c2] at he
        split
        · rfl
        · rename_i c3; rw [if_neg c3] at he; exact absurd rfl he
  · obtain ⟨a1, a2, a3, a4⟩ := h5 he
    exact ⟨a1, a2, a3, fun n hn => ⟨(a4 n hn).1, by rw [(a4 n hn).2]⟩⟩
theorem with3_id {l : List Int} (h : l.Pairwise (· < ·)) {x : Int} (hx : x ∈ l) : with3 l x = l := by
  rw [← with_alike h, with2, if_pos hx]
theorem RG.link {G : PG} (h : RG G) {lo hi id : Int} (h1 : isN G.nodes lo = true) (h2 : isN G.nodes hi = true) (hid : id ∉ (node G.nodes lo).ty) (ht : (node G.nodes hi).ty = with3 (node G.nodes lo).ty id) : RG ⟨lnk G.nodes lo hi id, G.slots⟩ := by
  have hne : lo ≠ hi := by
    rintro rfl
    exact hid (by rw [ht]; exact with3_mem.2 (.inl rfl))
  exact ⟨h.nodes.link h1 h2 hid ht, h.look, by show (usedE G.slots).Perm (entsU (lnk G.nodes lo hi id)); rw [entsU_lnk h1 h2 hne]; exact h.ents⟩
/-- What comes of a step, once the type of where it leads is there. -/
theorem go_end {G : PG} (h : RG G) {t : List Int} {id n : Int} {plus : Bool} (hr : Rng t) (hi : isN G.nodes n = true)
    (ht : if plus = true then id ∉ (node G.nodes n).ty ∧ t = with3 (node G.nodes n).ty id else id ∈ (node G.nodes n).ty ∧ t = without3 (node G.nodes n).ty id) :
    Alike G (if (ofG G t).2.2 ≠ 0 then (⟨[], []⟩, 0, (ofG G t).2.2) else (⟨if plus = true then addLess (addPlus (ofG G t).1.nodes n id (ofG G t).2.1) (ofG G t).2.1 id n
      else addPlus (addLess (ofG G t).1.nodes n id (ofG G t).2.1) (ofG G t).2.1 id n, (ofG G t).1.slots⟩, (ofG G t).2.1, 0))
      (if (of12 G.nodes t).2.2 ≠ 0 then ([], 0, (of12 G.nodes t).2.2) else (if plus = true then setPlus12 (setLess12 (of12 G.nodes t).1 (of12 G.nodes t).2.1 (id, n)) n (id, (of12 G.nodes t).2.1)
      else setPlus12 (setLess12 (of12 G.nodes t).1 n (id, (of12 G.nodes t).2.1)) (of12 G.nodes t).2.1 (id, n), (of12 G.nodes t).2.1, 0)) t := by
  have hA := of_alike' h hr
  have e2 := hA.rest
  have e1 := hA.nodes
  rw [← e2, ← e1]
  by_cases he : (ofG G t).2.2 = 0
  · simp only [he, ne_eq, not_true_eq_false, if_false]
    obtain ⟨hR, hm, hmt, hold⟩ := hA.ok he
    have hl := hA.len
    clear hA e1 e2 he
    generalize (ofG G t).1 = H at *
    generalize (ofG G t).2.1 = m at *
    obtain ⟨hn1, hn2⟩ := hold n hi
    cases plus with
    | true =>
      simp only [if_true] at ht ⊢
      obtain ⟨ht1, ht2⟩ := ht
      have hid' : id ∉ (node H.nodes n).ty := by rw [hn2]; exact ht1
      have ht' : (node H.nodes m).ty = with3 (node H.nodes n).ty id := by rw [hmt, hn2, ht2]
      have hne : n ≠ m := by rintro rfl; exact hid' (by rw [ht']; exact with3_mem.2 (.inl rfl))
      obtain ⟨a1, a2⟩ := addPL_lnk hR.nodes hn1 hm hid' ht'
      rw [a1]
      refine ⟨rfl, rfl, ⟨hl.1, by show (lnk _ _ _ _).length ≤ _; rw [lnk_length]; exact hl.2⟩, fun h => absurd rfl h, fun _ => ⟨hR.link hn1 hm hid' ht', ?_, ?_, fun k hk => ?_⟩⟩
      · show isN (lnk H.nodes n m id) m = true
        rw [isN_lnk hn1 hm hne]; exact hm
      · show (node (lnk H.nodes n m id) m).ty = t
        rw [(lnk_used hn1 hm hne (isN_ge hm)).2, hmt]
      · show isN (lnk H.nodes n m id) k = true ∧ (node (lnk H.nodes n m id) k).ty = _
        rw [isN_lnk hn1 hm hne, (lnk_used hn1 hm hne (isN_ge hk)).2]; exact hold k hk
    | false =>
      simp only [Bool.false_eq_true, if_false] at ht ⊢
      obtain ⟨ht1, ht2⟩ := ht
      have hs : (node G.nodes n).ty.Pairwise (· < ·) := (right2_iff.1 (h.nodes.right n hi)).1
      have hid' : id ∉ (node H.nodes m).ty := by rw [hmt, ht2, without3_mem]; exact fun h => h.2 rfl
      have ht' : (node H.nodes n).ty = with3 (node H.nodes m).ty id := by rw [hmt, hn2, ht2, with_without hs ht1]
      have hne : m ≠ n := by rintro rfl; exact hid' (by rw [ht']; exact with3_mem.2 (.inl rfl))
      obtain ⟨a1, a2⟩ := addPL_lnk hR.nodes hm hn1 hid' ht'
      rw [a2]
      refine ⟨rfl, rfl, ⟨hl.1, by show (lnk _ _ _ _).length ≤ _; rw [lnk_length]; exact hl.2⟩, fun h => absurd rfl h, fun _ => ⟨hR.link hm hn1 hid' ht', ?_, ?_, fun k hk => ?_⟩⟩
      · show isN (lnk H.nodes m n id) m = true
        rw [isN_lnk hm hn1 hne]; exact hm
      · show (node (lnk H.nodes m n id) m).ty = t
        rw [(lnk_used hm hn1 hne (isN_ge hm)).2, hmt]
      · show isN (lnk H.nodes m n id) k = true ∧ (node (lnk H.nodes m n id) k).ty = _
        rw [isN_lnk hm hn1 hne, (lnk_used hm hn1 hne (isN_ge hk)).2]; exact hold k hk
  · simp only [he, ne_eq, not_false_eq_true, if_true]; exact alike_err he
theorem go_alike {G : PG} (h : RG G) (hr : RngG G) {id : Int} (hid : 0 ≤ id ∧ id < 18446744073709551616) (n : Int) (plus : Bool) :
    Alike G (goneG (turn2 plus) G n id plus) (go12 G.nodes n id plus) (to12 (node G.nodes n).ty id plus) := by
  have hc := checkG_rg.2 h
  unfold goneG go12
  rw [if_neg (by rw [hc]; simp)]
  cases hi : isN G.nodes n with
  | false => simp only [if_true]; exact alike_err (by decide)
  | true =>
    simp only [Bool.true_eq_false, if_false]
    have h2 := h.nodes.right n hi
    have hs := (right2_iff.1 h2).1
    have h12 := (right2_iff.1 h2).2.2
    have hrng := hr.nodes.node n
    cases plus with
    | true =>
      simp only [turn2, to12, true_and, if_true, Bool.true_eq_false, false_and, if_false]
      rw [← may_alike hid]
      cases hm : may2 id with
      | false =>
        have e : with2e (node G.nodes n).ty id = ([], 2) := by simp [with2e, h2, hm]
        simp only [e, if_true, ne_eq, show ¬ ((2 : Int) = 0) by decide, not_false_eq_true]; exact alike_err (by decide)
      | true =>
        simp only [Bool.true_eq_false, if_false]
        by_cases hin : id ∈ (node G.nodes n).ty
        · rw [if_pos hin]
          have e : with2e (node G.nodes n).ty id = ((node G.nodes n).ty, 0) := by
            have : ¬ 12 < (node G.nodes n).ty.length := by omega
            simp [with2e, h2, hm, with2, hin, this]
          simp only [e, ne_eq, not_true_eq_false, if_false, if_true, with3_id hs hin]; exact alike_same h hi
        · rw [if_neg hin]
          have hlen := with3_len hs id
          rw [if_neg hin] at hlen
          by_cases h12' : (node G.nodes n).ty.length = 12
          · rw [if_pos h12']
            have e : with2e (node G.nodes n).ty id = ([], 6) := by
              have : 12 < (with3 (node G.nodes n).ty id).length := by omega
              simp [with2e, h2, hm, with_alike hs, this]
            simp only [e, ne_eq, show ¬ ((6 : Int) = 0) by decide, not_false_eq_true, if_true]; exact alike_err (by decide)
          · rw [if_neg h12']
            have e : with2e (node G.nodes n).ty id = (with3 (node G.nodes n).ty id, 0) := by
              have : ¬ 12 < (with3 (node G.nodes n).ty id).length := by omega
              simp [with2e, h2, hm, with_alike hs, this]
            have hne : ¬ with3 (node G.nodes n).ty id = (node G.nodes n).ty := fun he => hin (by rw [← he]; exact with3_mem.2 (.inl rfl))
            simp only [e, ne_eq, not_true_eq_false, if_false, hne]
            have := go_end (plus := true) (t := with3 (node G.nodes n).ty id) (id := id) h (rng_with3 hrng hid) hi ⟨hin, rfl⟩
            simpa only [if_true, ne_eq] using this
    | false =>
      simp only [turn2, to12, true_and, if_true, Bool.false_eq_true, false_and, if_false]
      by_cases hin : id ∈ (node G.nodes n).ty
      · have hnn : ¬ id ∉ (node G.nodes n).ty := fun h => h hin
        have e : without2e (node G.nodes n).ty id = (without3 (node G.nodes n).ty id, 0) := by simp [without2e, h2, hin, without_alike hs hin]
        have hne : ¬ without3 (node G.nodes n).ty id = (node G.nodes n).ty := fun he => by rw [← he] at hin; exact (without3_mem.1 hin).2 rfl
        simp only [e, hnn, ne_eq, not_true_eq_false, if_false, hne]
        have := go_end (plus := false) (t := without3 (node G.nodes n).ty id) (id := id) h (rng_without3 hrng) hi ⟨hin, rfl⟩
        simpa only [Bool.false_eq_true, if_false, ne_eq] using this
      · simp only [hin, not_false_eq_true, if_true]
        have e : without2e (node G.nodes n).ty id = ([], 4) := by simp [without2e, h2, hin]
        simp only [e, ne_eq, show ¬ ((4 : Int) = 0) by decide, not_false_eq_true, if_true]; exact alike_err (by decide)
end Go.Eng
namespace Go.Eng
open Go Go.Proofs
set_option exponentiation.threshold 300
theorem last_used : ∀ (l : List Node), (∃ i, ∃ h : i < l.length, l[i].used = true) → ∃ k, 0 < k ∧ ∃ h : k ≤ l.length, (∃ h' : k - 1 < l.length, l[k - 1].used = true) ∧ ∀ j (hj : j < l.length), k ≤ j → l[j].used = false := by
  intro l
  have : ∀ m, m ≤ l.length → (∃ i, ∃ h : i < l.length, i < m ∧ l[i].used = true) → ∃ k, 0 < k ∧ k ≤ m ∧ (∃ h' : k - 1 < l.length, l[k - 1].used = true) ∧ ∀ j (hj : j < l.length), k ≤ j → j < m → l[j].used = false := by
    intro m
    induction m with
    | zero => rintro _ ⟨i, _, h, _⟩; omega
    | succ m ih =>
      rintro hm ⟨i, hi, him, hu⟩
      cases hl : l[m].used with
      | true => exact ⟨m + 1, by omega, by omega, ⟨by omega, by simpa using hl⟩, fun j hj h1 h2 => by omega⟩
      | false =>
        have hne : i ≠ m := by rintro rfl; rw [hl] at hu; cases hu
        obtain ⟨k, h1, h2, h3, h4⟩ := ih (by omega) ⟨i, hi, by omega, hu⟩
        refine ⟨k, h1, by omega, h3, fun j hj a b => ?_⟩
        by_cases hjm : j = m
        · subst hjm; exact hl
        · exact h4 j hj a (by omega)
  rintro ⟨i, hi, hu⟩
  obtain ⟨k, h1, h2, h3, h4⟩ := this l.length (Nat.le_refl _) ⟨i, hi, hi, hu⟩
  exact ⟨k, h1, h2, h3, fun j hj hk => h4 j hj hk hj⟩
/-- Nodes without one. -/
def lessN (l : List Node) (m : Int) : List Node := trimN ((l.set (m - 1).toNat blankN).map (awayN m))
theorem node_take {l : List Node} {k : Nat} {n : Int} (hn : 1 ≤ n) (hk : n ≤ (k : Int)) : node (l.take k) n = node l n := by
  unfold node
  simp only [List.getD_eq_getElem?_getD]
  rw [List.getElem?_take, if_pos (by omega)]
theorem node_map {l : List Node} {f : Node → Node} {n : Int} (hn : 1 ≤ n) (hl : n ≤ (l.length : Int)) : node (l.map f) n = f (node l n) := by
  obtain ⟨k, rfl⟩ : ∃ k : Nat, n = (k : Int) + 1 := ⟨(n - 1).toNat, by omega⟩
  rw [node_eq (by simp; omega), node_eq (by omega), List.getElem_map]
section
variable {l : List Node} {m : Int}
theorem lessN_facts (h : N12 l) (hm : isN l m = true) (h1 : m ≠ 1) : isN (lessN l m) ((lessN l m).length : Int) = true ∧ 0 < (lessN l m).length ∧ (lessN l m).length ≤ l.length ∧ (∀ n, isN (lessN l m) n = (isN l n && n != m)) ∧
    (∀ n, isN l n = true → n ≠ m → node (lessN l m) n = awayN m (node l n)) ∧ (∀ i (hi : i < (lessN l m).length) (hi' : i < l.length), (i : Int) + 1 ≠ m → (lessN l m)[i] = awayN m l[i]) ∧ ∀ i (hi : i < (lessN l m).length), (i : Int) + 1 = m → (lessN l m)[i] = awayN m blankN := by
  have b := isN_le hm
  have hnode : ∀ n, 1 ≤ n → n ≤ (l.length : Int) → node ((l.set (m - 1).toNat blankN).map (awayN m)) n = if n = m then awayN m blankN else awayN m (node l n) := by
    intro n a1 a2
    rw [node_map a1 (by rw [List.length_set]; exact a2), node_set b.1 b.2 a1]
    split <;> rfl
  have hL : ((l.set (m - 1).toNat blankN).map (awayN m)).length = l.length := by simp
  have hisL : ∀ n, isN ((l.set (m - 1).toNat blankN).map (awayN m)) n = (isN l n && n != m) := by
    intro n
    unfold isN
    rw [hL]
    by_cases a1 : 1 ≤ n
    · by_cases a2 : n ≤ (l.length : Int)
      · rw [hnode n a1 a2]
        by_cases e : n = m
        · subst e; simp [awayN, blankN]
        · simp [e, awayN]
      · simp [a2]
    · simp [a1]
  unfold lessN
  generalize (l.set (m - 1).toNat blankN).map (awayN m) = L at *
  obtain ⟨k1, hk1, e1, hu1, _⟩ := isN_node (show isN L 1 = true by rw [hisL, h.one]; simp; omega)
  obtain ⟨k, h0, hk, ⟨hk', hu⟩, hno⟩ := last_used L ⟨k1, hk1, hu1⟩
  rw [trimN_eq h0 hk hu hno]
  have hlen : (L.take k).length = k := by rw [List.length_take]; omega
  have his : ∀ n, isN (L.take k) n = isN L n := by
    intro n
    by_cases a1 : 1 ≤ n
    · obtain ⟨j, rfl⟩ : ∃ j : Nat, n = (j : Int) + 1 := ⟨(n - 1).toNat, by omega⟩
      rcases Nat.lt_or_ge j L.length with hj | hj
      · rcases Nat.lt_or_ge j k with hjk | hjk
        · rw [isN_eq (by omega), isN_eq hj, List.getElem_take]
        · rw [isN_eq hj, hno j hj hjk]
          have : ¬ (j : Int) + 1 ≤ ((L.take k).length : Int) := by omega
          simp [isN, this]; intro _ h'; omega
      · have n1 : ¬ (j : Int) + 1 ≤ ((L.take k).length : Int) := by omega
        have n2 : ¬ (j : Int) + 1 ≤ (L.length : Int) := by omega
        unfold isN
        simp only [n1, n2, decide_false, Bool.and_false, Bool.false_and]
    · simp [isN, a1]
  refine ⟨?_, by omega, by omega, fun n => by rw [his, hisL], fun n hn hne => ?_, fun i hi hi' hne => ?_, fun i hi he => ?_⟩
  · rw [his, hlen]
    have := isN_of hk' hu
    rwa [show ((k - 1 : Nat) : Int) + 1 = (k : Int) by omega] at this
  · have hn' := isN_le hn
    have : isN (L.take k) n = true := by rw [his, hisL, hn]; simpa using hne
    have h2 := isN_le this
    rw [node_take h2.1 (by omega), hnode n hn'.1 hn'.2, if_neg hne]
  · have e1 := hnode ((i : Int) + 1) (by omega) (by omega)
    rw [if_neg hne, node_eq (by omega), node_eq hi'] at e1
    rw [List.getElem_take]; exact e1
  · have e1 := hnode ((i : Int) + 1) (by omega) (by omega)
    rw [if_pos he, node_eq (by omega)] at e1
    rw [List.getElem_take]; exact e1
theorem awayS_mem {r : List Stp} {x : Int} {s : Stp} : s ∈ awayS r x ↔ s ∈ r ∧ s.2 ≠ x := by simp [awayS]
theorem awayS_sorted {r : List Stp} (h : (keys r).Pairwise (· < ·)) (x : Int) : (keys (awayS r x)).Pairwise (· < ·) := by
  unfold keys at h ⊢
  rw [List.pairwise_map] at h ⊢
  exact h.filter _
theorem entsU_lessN (h : N12 l) (hm : isN l m = true) (h1 : m ≠ 1) : (entsU l).Perm (⟨1, (node l m).ty, m⟩ :: entsU (lessN l m)) := by
  obtain ⟨_, _, _, f3, f4, _, _⟩ := lessN_facts h hm h1
  have hty : ∀ n, isN l n = true → n ≠ m → (node (lessN l m) n).ty = (node l n).ty := fun n hn hne => by rw [f4 n hn hne]; rfl
  refine perm_of_mem (entsU_nodup _) (List.nodup_cons.2 ⟨fun hx => ?_, entsU_nodup _⟩) fun e => ?_
  · obtain ⟨n, hn, he⟩ := mem_entsN.1 hx
    have := congrArg Entry.num he
    simp only at this
    rw [f3, ← this] at hn; simp at hn
  · rw [List.mem_cons, mem_entsN, mem_entsN]
    constructor
    · rintro ⟨n, hn, rfl⟩
      by_cases e : n = m
      · subst e; exact .inl rfl
      · exact .inr ⟨n, by rw [f3, hn]; simpa using e, by rw [hty n hn e]⟩
    · rintro (rfl | ⟨n, hn, rfl⟩)
      · exact ⟨m, hm, rfl⟩
      · rw [f3] at hn
        simp only [Bool.and_eq_true, bne_iff_ne, ne_eq] at hn
        exact ⟨n, hn.1, by rw [hty n hn.1 hn.2]⟩
theorem N12.away (h : N12 l) (hm : isN l m = true) (h1 : m ≠ 1) : N12 (lessN l m) := by
  obtain ⟨f0, f1, f2, f3, f4, f5, f6⟩ := lessN_facts h hm h1
  have hor : ∀ n, isN (lessN l m) n = true → isN l n = true ∧ n ≠ m := by
    intro n hn; rw [f3] at hn; simpa using hn
  have hof : ∀ n, isN l n = true → n ≠ m → isN (lessN l m) n = true := by intro n hn hne; rw [f3, hn]; simpa using hne
  have hty : ∀ n, isN l n = true → n ≠ m → (node (lessN l m) n).ty = (node l n).ty := fun n hn hne => by rw [f4 n hn hne]; rfl
  refine ⟨f1, f0, hof 1 h.one (Ne.symm h1), by rw [hty 1 h.one (Ne.symm h1)]; exact h.ty1, fun n hn => ?_, fun n k hn hk he => ?_, fun i hi hu => ?_, fun n hn => ?_, fun n s hn hs => ?_, fun n s hn hs => ?_, ?_⟩
  · obtain ⟨a, b⟩ := hor n hn; rw [hty n a b]; exact h.right n a
  · obtain ⟨a, b⟩ := hor n hn
    obtain ⟨c, d⟩ := hor k hk
    rw [hty n a b, hty k c d] at he; exact h.uniq n k a c he
  · by_cases e : (i : Int) + 1 = m
    · rw [f6 i hi e]; exact ⟨rfl, rfl, rfl⟩
    · have e1 := f5 i hi (by omega) e
      rw [e1] at hu ⊢
      obtain ⟨a1, a2, a3⟩ := h.free i (by omega) hu
      exact ⟨a1, by simp [awayN, awayS, a2], by simp [awayN, awayS, a3]⟩
  · obtain ⟨a, b⟩ := hor n hn
    rw [f4 n a b]
    exact ⟨awayS_sorted (h.sorted n a).1 m, awayS_sorted (h.sorted n a).2 m⟩
  · obtain ⟨a, b⟩ := hor n hn
    rw [f4 n a b] at hs
    obtain ⟨hs1, hs2⟩ := awayS_mem.1 hs
    obtain ⟨a1, a2, a3, a4⟩ := h.plus n s a hs1
    refine ⟨hof _ a1 hs2, by rw [hty n a b]; exact a2, ?_, by rw [hty n a b, hty _ a1 hs2]; exact a4⟩
    rw [f4 _ a1 hs2]; exact awayS_mem.2 ⟨a3, b⟩
  · obtain ⟨a, b⟩ := hor n hn
    rw [f4 n a b] at hs
    obtain ⟨hs1, hs2⟩ := awayS_mem.1 hs
    obtain ⟨a1, a2, a3, a4⟩ := h.less n s a hs1
    refine ⟨hof _ a1 hs2, by rw [hty n a b]; exact a2, ?_, by rw [hty n a b, hty _ a1 hs2]; exact a4⟩
    rw [f4 _ a1 hs2]; exact awayS_mem.2 ⟨a3, b⟩
  · have := (entsU_lessN h hm h1).length_eq
    have h2 := h.many
    rw [manyN_entsU] at h2 ⊢
    rw [this, List.length_cons] at h2; omega
end
theorem drop_alike {G : PG} (h : RG G) (m : Int) :
    (dropG G m).1.nodes = (drop12 G.nodes m).1 ∧ (dropG G m).2 = (drop12 G.nodes m).2 ∧ ((dropG G m).1.slots.length ≤ G.slots.length ∧ (dropG G m).1.nodes.length ≤ G.nodes.length) ∧ ((dropG G m).2 ≠ 0 → (dropG G m).1 = ⟨[], []⟩ ∧ (isN G.nodes m = false ∨ m = 1)) ∧
    ((dropG G m).2 = 0 → RG (dropG G m).1 ∧ isN G.nodes m = true ∧ m ≠ 1 ∧ (dropG G m).1.nodes = lessN G.nodes m) := by
  have hc := checkG_rg.2 h
  unfold dropG drop12
  simp only [hc, Bool.true_eq_false, if_false]
  cases hi : isN G.nodes m with
  | false => simp
  | true =>
    simp only [Bool.true_eq_false, if_false]
    by_cases h1 : m = 1
    · simp [h1]
    · simp only [h1, if_false]
      obtain ⟨k, hk, rfl, hu, he⟩ := isN_node hi
      have hpl : ¬ place G.slots (node G.nodes ((k : Int) + 1)).ty < 0 := by
        intro hp
        have := place_none h.look hp _ (h.usedN hk hu) rfl
        rw [he] at this; exact this rfl
      obtain ⟨d1, d2, e, d3, d4, d5⟩ := drop_ok h.look hpl
      simp only [d1, ne_eq, not_true_eq_false, if_false]
      have hlen : (dropL G.slots (node G.nodes ((k : Int) + 1)).ty).1.length ≤ G.slots.length := by
        simp only [dropL, h.look, hpl, Bool.true_eq_false, if_false, List.length_set]; exact Nat.le_refl _
      refine ⟨trivial, trivial, ⟨hlen, (lessN_facts h.nodes hi h1).2.2.1⟩, False.elim, fun _ => ⟨⟨h.nodes.away hi h1, d2, ?_⟩, trivial, h1, rfl⟩⟩
      have hE := (d5.symm.trans h.ents).trans (entsU_lessN h.nodes hi h1)
      have hee : e = ⟨1, (node G.nodes ((k : Int) + 1)).ty, (k : Int) + 1⟩ := by
        have hmem : e ∈ entsU G.nodes := h.ents.mem_iff.1 (d5.mem_iff.2 List.mem_cons_self)
        obtain ⟨n, hn', rfl⟩ := mem_entsN.1 hmem
        have := h.nodes.uniq n _ hn' hi d3
        rw [this]
      rw [hee] at hE
      exact (List.perm_cons _).1 hE
theorem N12.rows {l : List Node} (h : N12 l) : ∀ x ∈ l, x.ty.length ≤ 12 ∧ x.plus.length ≤ l.length ∧ x.less.length ≤ l.length := by
  intro x hx
  obtain ⟨k, hk, rfl⟩ := List.mem_iff_getElem.1 hx
  cases hu : l[k].used with
  | false =>
    obtain ⟨a1, a2, a3⟩ := h.free k hk hu
    rw [a1, a2, a3]; simp
  | true =>
    have hn := isN_of hk hu
    have he := node_eq hk
    have hr := h.right _ hn
    have hs := h.sorted _ hn
    have hp := fun s => h.plus _ s hn
    have hq := fun s => h.less _ s hn
    rw [he] at hr hs hp hq
    have two : ∀ row : List Stp, (keys row).Pairwise (· < ·) → (∀ s ∈ row, isN l s.2 = true) → (∀ s ∈ row, ∀ u ∈ row, s.2 = u.2 → s.1 = u.1) → row.length ≤ l.length := by
      intro row hsr h1 h2
      have hnd : (row.map (·.2)).Nodup := by
        rw [List.nodup_iff_pairwise_ne, List.pairwise_map]
        have hks : row.Pairwise fun s u => s.1 < u.1 := by unfold keys at hsr; rwa [List.pairwise_map] at hsr
        exact hks.imp_of_mem fun hs hu hlt he => by have := h2 _ hs _ hu he; omega
      have := pigeon (l' := (List.range l.length).map fun i : Nat => (i : Int) + 1) hnd fun y hy => by
        obtain ⟨s, hs, rfl⟩ := List.mem_map.1 hy
        obtain ⟨j, hj, e, _, _⟩ := isN_node (h1 s hs)
        exact List.mem_map.2 ⟨j, List.mem_range.2 hj, e.symm⟩
      simpa using this
    refine ⟨(right2_iff.1 hr).2.2, two _ hs.1 (fun s hs => (hp s hs).1) fun s hs u hu' he' => ?_, two _ hs.2 (fun s hs => (hq s hs).1) fun s hs u hu' he' => ?_⟩
    · obtain ⟨_, b2, _, b4⟩ := hp s hs
      obtain ⟨_, c2, _, c4⟩ := hp u hu'
      rw [he', c4] at b4
      have : s.1 ∈ with3 (node l ((k : Int) + 1)).ty u.1 := by rw [b4]; exact with3_mem.2 (.inl rfl)
      rcases with3_mem.1 this with e | e
      · exact e
      · exact absurd e.1 b2
    · obtain ⟨_, b2, _, b4⟩ := hq s hs
      obtain ⟨_, c2, _, c4⟩ := hq u hu'
      rw [he', c4] at b4
      rcases Decidable.em (u.1 = s.1) with e | e
      · exact e.symm
      · have : u.1 ∈ without3 (node l ((k : Int) + 1)).ty s.1 := without3_mem.2 ⟨c2, e⟩
        rw [← b4] at this
        exact absurd rfl (without3_mem.1 this).2
theorem RG.small {G : PG} (h : RG G) (h1 : G.nodes.length ≤ 1000000) (h2 : G.slots.length ≤ 1000000) : SmallG G := by
  refine ⟨⟨h1, fun x hx => ?_⟩, h2, fun e he => ?_⟩
  · have := h.nodes.rows x hx; omega
  · have := checkL_all12 h.look e he; omega
end Go.Eng
namespace Go.Eng
open Go Go.RowKit Go.Proofs
set_option maxRecDepth 10000
/-- All but the blocks of a stretch is kept. -/
structure KeepOut (lo hi : Nat) (w w' : World) : Prop where
  os : w'.os = w.os
  tape : w'.tape = w.tape
  output : w'.output = w.output
  size : w.heap.size ≤ w'.heap.size
  block : ∀ b, b < w.heap.size → ¬ (lo ≤ b ∧ b < hi) → w'.heap[b]? = w.heap[b]?
theorem KeepOut.refl (lo hi : Nat) (w : World) : KeepOut lo hi w w := ⟨rfl, rfl, rfl, Nat.le_refl _, fun _ _ _ => rfl⟩
theorem KeepOut.trans {lo hi : Nat} {a b c : World} (h : KeepOut lo hi a b) (k : KeepOut lo hi b c) : KeepOut lo hi a c :=
  ⟨k.os.trans h.os, k.tape.trans h.tape, k.output.trans h.output, Nat.le_trans h.size k.size, fun x hx hn => (k.block x (by have := h.size; omega) hn).trans (h.block x hx hn)⟩
theorem KeepOut.of_below {lo hi : Nat} {w w' : World} (h : Below w.heap.size w w') : KeepOut lo hi w w' := ⟨h.os, h.tape, h.output, h.size, fun b hb _ => h.block b hb⟩
theorem KeepOut.set {lo hi g : Nat} (w : World) (h1 : lo ≤ g) (h2 : g < hi) (j : Nat) (v : Value) : KeepOut lo hi w (w.setCell ⟨g, j, none⟩ v) :=
  ⟨rfl, rfl, rfl, by simp, fun b hb hn => Below.heap_setCell _ _ _ _ (by rintro rfl; exact hn ⟨h1, h2⟩)⟩
theorem KeepOut.below {lo hi : Nat} {w w' : World} (h : KeepOut lo hi w w') (hlo : lo ≤ w.heap.size) : Below lo w w' := ⟨h.os, h.tape, h.output, h.size, fun b hb => h.block b (by omega) (by omega)⟩
/-- A row of so many cells lies in a stretch, whatever it holds. -/
def Lies (lo hi : Nat) (w : World) (t : TypeId) (k : Nat) (a : Option Addr) (n : Nat) : Prop := (a = none ∧ n = 0) ∨ ∃ g cs, a = some ⟨g, 0, none⟩ ∧ lo ≤ g ∧ g < hi ∧ w.heap[g]? = some (.cells cs t (0, 0)) ∧ n * k ≤ cs.size
theorem Own.lies {α : Type} {enc : α → List Value} {k : Nat} {e : TypeId} {lo hi : Nat} {w : World} {a : Option Addr} {n c : Nat} {l : List α} (h : Own enc k e lo w a n c l) (hh : w.heap.size ≤ hi) : Lies lo hi w e k a n := by
  obtain ⟨h1, h2, h3, h4⟩ := h
  rcases h4 with ⟨ha, hc⟩ | ⟨g, cs, ha, hlo, hg, hs, ht⟩
  · exact .inl ⟨ha, by omega⟩
  · exact .inr ⟨g, cs, ha, hlo, Nat.lt_of_lt_of_le (blk_lt hg) hh, hg, Nat.le_trans (Nat.mul_le_mul_right _ h2) hs⟩
theorem Lies.below {lo hi : Nat} {w w' : World} {t : TypeId} {k : Nat} {a : Option Addr} {n : Nat} (h : Lies lo hi w t k a n) (hB : Below w.heap.size w w') : Lies lo hi w' t k a n :=
  h.imp id fun ⟨g, cs, h1, h2, h3, h4, h5⟩ => ⟨g, cs, h1, h2, h3, blk_below h4 hB (blk_lt h4), h5⟩
theorem Lies.set {lo hi : Nat} {w : World} {t : TypeId} {k : Nat} {a : Option Addr} {n : Nat} (h : Lies lo hi w t k a n) {b j : Nat} (v : Value) : Lies lo hi (w.setCell ⟨b, j, none⟩ v) t k a n := by
  refine h.imp id fun ⟨g, cs, h1, h2, h3, h4, h5⟩ => ?_
  by_cases hb : g = b
  · subst hb
    exact ⟨g, _, h1, h2, h3, blk_set h4 j v, by simpa using h5⟩
  · exact ⟨g, cs, h1, h2, h3, blk_far h4 hb v, h5⟩
/-- A cell of it. -/
theorem Lies.cell {lo hi : Nat} {w : World} {t : TypeId} {k : Nat} {a : Option Addr} {n : Nat} (h : Lies lo hi w t k a n) {i j : Nat} (hi' : i < n) (hj : j < k) :
    ∃ g cs, a = some ⟨g, 0, none⟩ ∧ lo ≤ g ∧ g < hi ∧ w.heap[g]? = some (.cells cs t (0, 0)) ∧ (w.cell? ⟨g, i * k + j, none⟩).isSome = true ∧ w.frozen? ⟨g, i * k + j, none⟩ = false := by
  rcases h with ⟨_, h0⟩ | ⟨g, cs, h1, h2, h3, h4, h5⟩
  · omega
  · refine ⟨g, cs, h1, h2, h3, h4, blk_some h4 ?_, blk_free h4 _⟩
    have : (i + 1) * k ≤ n * k := Nat.mul_le_mul_right _ hi'
    rw [Nat.add_mul] at this; omega
/-- What holds while a graph is written over. -/
structure Spo (lo hi : Nat) (W0 : World) (b : Nat) (bv : Array Value) (na : Option Addr) (nn nc : Nat) (rs : List RNode) (sa : Option Addr) (sn : Nat) (W : World) : Prop where
  keep : KeepOut lo hi W0 W
  box : W.heap[b]? = some (.cells bv 27)
  row : Own encNode 4 56 lo W na nn nc rs
  ids : ∀ r ∈ rs, Lies lo hi W 32 1 r.ty.a r.ty.n
  plus : ∀ r ∈ rs, Lies lo hi W 71 2 r.plus.a r.plus.n
  less : ∀ r ∈ rs, Lies lo hi W 71 2 r.less.a r.less.n
  slots : Lies lo hi W 94 3 sa sn
theorem Spo.set {lo hi : Nat} {W0 : World} {b : Nat} {bv : Array Value} {na : Option Addr} {nn nc : Nat} {rs : List RNode} {sa : Option Addr} {sn : Nat} {W : World} (h : Spo lo hi W0 b bv na nn nc rs sa sn W) {g : Nat} {cs : Array Value} {t : TypeId} (hg : W.heap[g]? = some (.cells cs t (0, 0))) (h1 : lo ≤ g) (h2 : g < hi) (ht : t ≠ 56) (ht2 : 27 ≠ t) (j : Nat) (v : Value) :
    Spo lo hi W0 b bv na nn nc rs sa sn (W.setCell ⟨g, j, none⟩ v) where
  keep := h.keep.trans (KeepOut.set W h1 h2 j v)
  box := blk_far h.box (by rintro rfl; rw [h.box] at hg; cases hg; exact ht2 rfl) v
  row := h.row.far hg ht v
  ids r hr := (h.ids r hr).set v
  plus r hr := (h.plus r hr).set v
  less r hr := (h.less r hr).set v
  slots := h.slots.set v
end Go.Eng
namespace Go.Eng
open Go Go.RowKit Go.Proofs
set_option maxRecDepth 10000
/-- An id of a component, of a pair; the error. -/
def comE (n : Int) : Int × Int := if is1 n 1 24 = true then (packed2 4611686018427387904 0 n, 0) else (0, 2)
def pairE (r t : Int) : Int × Int := if is1 r 0 1048578 = true ∧ is1 t 0 1048578 = true then (packed2 9223372036854775808 r t, 0) else (0, 2)
theorem k_iComponent (n : Int) {w : World} : Cl Tryz.prog 44 #[.int .i64 n] w (Gives w (.tuple #[.int .u64 (comE n).1, .int .i64 (comE n).2])) := by
  refine c44 _ ?_
  rintro _ w1 rfl h1
  have B1 : Below w.heap.size w w1 := by rw [h1]; exact alloc_below _ _
  have r1 : Row encInt w1 (some ⟨w.heap.size, 0, none⟩) 1 1 [n] := by rw [h1]; exact row_new enInt w 3 [n] (by simp)
  refine (k_iwithin 1 24 r1).is ⟨_, rfl, cnd (fun g => ?_) fun g => ?_⟩
  · have : is1 n 1 24 = false := by simpa using g
    exact ⟨by simp [comE, this], B1⟩
  · have : is1 n 1 24 = true := by simpa using g
    exact (k_ipacked _ _ _).is ⟨_, rfl, by simp [comE, this], B1⟩
theorem k_iPair (r t : Int) {w : World} : Cl Tryz.prog 45 #[.int .i64 r, .int .i64 t] w (Gives w (.tuple #[.int .u64 (pairE r t).1, .int .i64 (pairE r t).2])) := by
  refine c45 _ _ ?_
  rintro _ w1 rfl h1
  have B1 : Below w.heap.size w w1 := by rw [h1]; exact alloc_below _ _
  have r1 : Row encInt w1 (some ⟨w.heap.size, 0, none⟩) 2 2 [r, t] := by rw [h1]; exact row_new enInt w 3 [r, t] (by simp)
  refine (k_iwithin 0 1048578 r1).is ⟨_, rfl, cnd (fun g => ?_) fun g => ?_⟩
  · have : ¬ (is1 r 0 1048578 = true ∧ is1 t 0 1048578 = true) := by
      rintro ⟨a, b⟩; simp [a, b] at g
    exact ⟨by simp [pairE, this], B1⟩
  · have : is1 r 0 1048578 = true ∧ is1 t 0 1048578 = true := by simpa using g
    exact (k_ipacked _ _ _).is ⟨_, rfl, by simp [pairE, this], B1⟩
/-- A graph in memory of its own. -/
def DG (lo : Nat) (w : World) (a : Option Addr) (n c : Nat) (sa : Option Addr) (sn sc : Nat) (G : PG) : Prop := DNodes lo w a n c G.nodes ∧ DEnts lo w sa sn sc G.slots
section
variable {lo : Nat} {w w' : World} {a sa : Option Addr} {n c sn sc : Nat} {G : PG}
theorem DG.grf (h : DG lo w a n c sa sn sc G) : Grf w a n c sa sn sc G := ⟨h.1.nodes, h.2.ents⟩
theorem DG.below (h : DG lo w a n c sa sn sc G) (hB : Below w.heap.size w w') : DG lo w' a n c sa sn sc G := ⟨h.1.below hB, h.2.below hB⟩
theorem Grf.rng (h : Grf w a n c sa sn sc G) : RngG G := by
  constructor
  · obtain ⟨rs, _, h2⟩ := h.nodes
    intro x hx
    obtain ⟨i, hi, rfl⟩ := List.mem_iff_getElem.1 hx
    exact (h2.2 i (by have := h2.1; omega) hi).rng.1
  · obtain ⟨rs, _, h2⟩ := h.slots
    intro x hx
    obtain ⟨i, hi, rfl⟩ := List.mem_iff_getElem.1 hx
    exact (h2.2 i (by have := h2.1; omega) hi).rng.1
/-- A graph is put into a box of its own. -/
theorem box_grf {W : World} {e : TypeId} {K : Nat → World → Prop}
    (hK : ∀ w6 : World, w6.heap[W.heap.size]? = some (.cells #[.slice a n c, .slice sa sn sc] e (0, 0)) → Below W.heap.size W w6 → w6.heap.size = W.heap.size + 1 → K W.heap.size w6) :
    ∀ (b : Nat) (w5 : World), b = W.heap.size → w5 = W.alloc (.cells #[.slice none 0 0, .slice none 0 0] e) → ((w5.cell? (Addr.mk b 0 none)).isSome = true ∧ w5.frozen? (Addr.mk b 0 none) = false ∧ ((w5.cell? ((Addr.mk b 0 none).add 1)).isSome = true ∧ w5.frozen? ((Addr.mk b 0 none).add 1) = false ∧
    (∀ w6 : World, w6 = (w5.setCell (Addr.mk b 0 none) (.slice a n c)).setCell ((Addr.mk b 0 none).add 1) (.slice sa sn sc) → K b w6))) := by
  rintro b w5 hb h5
  have s5 : w5.heap[b]? = some (.cells #[.slice none 0 0, .slice none 0 0] e) := by rw [h5, hb]; exact blk_new _
  refine ⟨blk_some s5 (by simp), blk_free s5 _, blk_some s5 (j := 1) (by simp), blk_free s5 1, ?_⟩
  rintro w6 h6
  have s6 : w6.heap[b]? = some (.cells #[.slice a n c, .slice sa sn sc] e (0, 0)) := by rw [h6]; exact blk_set (blk_set s5 0 _) 1 _
  have B6 : Below W.heap.size W w6 := by
    subst h6; subst h5; subst hb
    exact ((alloc_below W _).setCell (Nat.le_refl _) _).setCell (Nat.le_refl _) _
  have z6 : w6.heap.size = W.heap.size + 1 := by rw [h6, size_set, size_set, h5, size_alloc]
  rw [hb]
  rw [hb] at s6
  exact hK w6 s6 B6 z6
end
theorem place_newL (t : List Int) : place newL t < 0 := by
  rcases place_lt (l := newL) (t := t) with h | ⟨k, hk, _, h, _⟩
  · exact h
  · rw [slot_eq hk] at h
    have : newL[k] = blankE := List.getElem_replicate _
    rw [this] at h; cases h
theorem all7_newL : all7 Entry.st Entry.ty newL = [] := by rfl
theorem newG_rg : RG newG := by
  obtain ⟨_, h2, h3⟩ := put_ok (l := newL) (t := []) (num := 1) new_ok.1 rfl (by decide) (place_newL []) (by rw [all7_newL]; decide)
  refine ⟨(nodes12_iff ?_).1 rfl, h2, ?_⟩
  · intro x hx; simp only [newG, List.mem_singleton] at hx; subst hx; intro y hy; cases hy
  · rw [new_ok.2] at h3; exact h3
theorem newG_len : newG.slots.length ≤ 16004 := by
  have e : putL newL [] 1 = (laidL (all7 Entry.st Entry.ty newL ++ [⟨1, [], 1⟩]) (manyOf ((all7 Entry.st Entry.ty newL).length + 1)), 0) := by
    have := place_newL []
    simp only [putL, new_ok.1, show right2 [] = true from rfl, Bool.true_eq_false, if_false, show ¬ (1 : Int) < 0 by decide, show ¬ 0 ≤ place newL [] by omega, all7_newL, List.length_nil, show ¬ (0 : Nat) = 4000 by decide]
  show (putL newL [] 1).1.length ≤ _
  rw [e]
  show (laidL _ _).length ≤ _
  rw [laidL_len, all7_newL]; decide
structure Known (G : PG) (A : List Node) : Prop where
  nodes : G.nodes = A
  rg : RG G
  slots : G.slots.length ≤ 16004
theorem Known.small {G : PG} {A : List Node} (h : Known G A) (hA : A.length ≤ 1000000) : SmallG G := h.rg.small (by rw [h.nodes]; exact hA) (by have := h.slots; omega)
theorem Known.go {G : PG} {A B : List Node} (h : Known G A) (hr : RngG G) {id : Int} (hid : 0 ≤ id ∧ id < 18446744073709551616) {n m : Int} {plus : Bool} (hB : go12 A n id plus = (B, m, 0)) :
    Known (goneG (turn2 plus) G n id plus).1 B ∧ (goneG (turn2 plus) G n id plus).2 = (m, 0) := by
  have hA := go_alike h.rg hr hid n plus
  have h1 := hA.nodes; have h2 := hA.rest; have h3 := hA.len
  rw [h.nodes, hB] at h1 h2
  have h4 := h.slots
  exact ⟨⟨h1, (hA.ok (by rw [h2])).1, by omega⟩, h2⟩
theorem Known.drop {G : PG} {A B : List Node} (h : Known G A) {m : Int} (hB : drop12 A m = (B, 0)) : Known (dropG G m).1 B ∧ (dropG G m).2 = 0 := by
  obtain ⟨h1, h2, h3, _, h5⟩ := drop_alike h.rg m
  rw [h.nodes, hB] at h1 h2
  have h4 := h.slots
  exact ⟨⟨h1, (h5 h2).1, by omega⟩, h2⟩
end Go.Eng
namespace Go.Eng
open Go Go.RowKit Go.Proofs
set_option maxRecDepth 10000
def c0 : Int := 4611686018427387907
def p0 : Int := 9223372054034644997
theorem com3 : comE 3 = (c0, 0) := by decide +kernel
theorem pair45 : pairE 4 5 = (p0, 0) := by decide +kernel
def A1 : List Node := [⟨true, [], [(c0, 2)], []⟩, ⟨true, [c0], [], [(c0, 1)]⟩]
def A2 : List Node := [⟨true, [], [(c0, 2)], []⟩, ⟨true, [c0], [(p0, 3)], [(c0, 1)]⟩, ⟨true, [c0, p0], [], [(p0, 2)]⟩]
def A3 : List Node := [⟨true, [], [(c0, 2)], []⟩, ⟨true, [c0], [(p0, 3)], [(c0, 1)]⟩, ⟨true, [c0, p0], [], [(c0, 4), (p0, 2)]⟩, ⟨true, [p0], [(c0, 3)], []⟩]
def A4 : List Node := [⟨true, [], [], []⟩, ⟨false, [], [], []⟩, ⟨true, [c0, p0], [], []⟩]
theorem goA1 : go12 [node1] 1 c0 true = (A1, 2, 0) := by decide +kernel
theorem goA2 : go12 A1 2 p0 true = (A2, 3, 0) := by decide +kernel
theorem goA3 : go12 A2 3 c0 false = (A3, 4, 0) := by decide +kernel
theorem dropA4 : drop12 A2 2 = (A4, 0) := by decide +kernel
theorem usedA4 : usedN A4 = [1, 3] := by decide +kernel
theorem usedA2 : usedN A2 = [1, 2, 3] := by decide +kernel
theorem c0_rng : 0 ≤ c0 ∧ c0 < 18446744073709551616 := by decide
theorem p0_rng : 0 ≤ p0 ∧ p0 < 18446744073709551616 := by decide
theorem k_wWakes {w : World} : Cl Tryz.prog 8 #[] w (Gives w (.bool true)) := by
  refine c8 ?_
  unfold V8
  refine (k_iComponent 3).gives fun w1 B1 => ⟨_, _, rfl, (k_iPair 4 5).gives fun w2 B2 => ⟨_, _, rfl, k_gNew.mono ?_⟩⟩
  rw [com3, pair45]
  dsimp only
  rintro _ w3 ⟨a, n, c, sa, sn, sc, rfl, hn0, he0, B3⟩
  have g0 : Grf w3 a n c sa sn sc newG := ⟨hn0.nodes, he0.ents⟩
  have K0 : Known newG [node1] := ⟨rfl, newG_rg, newG_len⟩
  have B03 : Below w.heap.size w w3 := (B1.trans (B2.mono B1.size)).trans (B3.mono (B1.trans (B2.mono B1.size)).size)
  refine ⟨_, _, _, _, _, _, rfl, (k_gPlus g0 (K0.small (by decide)) (by simp [I64]) c0_rng).mono ?_⟩
  obtain ⟨K1, e1⟩ := K0.go g0.rng c0_rng goA1
  rintro _ w4 ⟨a1, n1, c1, sa1, sn1, sc1, rfl, hn1, he1, B4⟩
  rw [show (goneG with2e newG 1 c0 true).2 = (2, 0) from e1]
  have g1 : Grf w4 a1 n1 c1 sa1 sn1 sc1 (goneG (turn2 true) newG 1 c0 true).1 := ⟨hn1.nodes, he1.ents⟩
  have B04 := B03.trans (B4.mono B03.size)
  clear hn1 he1 e1 g0 K0
  generalize (goneG (turn2 true) newG 1 c0 true).1 = G1 at *
  refine ⟨_, _, _, _, _, _, _, _, rfl, box_grf fun w6 q6 B6 z6 => ⟨_, _, _, _, _, _, blk_cell q6 0, blk_cell q6 1, ?_⟩⟩
  have g1' := g1.below B6
  have B06 := B04.trans (B6.mono B04.size)
  refine (k_gPlus g1' (K1.small (by decide)) (by simp [I64]) p0_rng).mono ?_
  obtain ⟨K2, e2⟩ := K1.go g1.rng p0_rng goA2
  rintro _ w7 ⟨a2, n2, c2, sa2, sn2, sc2, rfl, hn2, he2, B7⟩
  rw [show (goneG with2e G1 2 p0 true).2 = (3, 0) from e2]
  have g2 : Grf w7 a2 n2 c2 sa2 sn2 sc2 (goneG (turn2 true) G1 2 p0 true).1 := ⟨hn2.nodes, he2.ents⟩
  have B07 := B06.trans (B7.mono B06.size)
  clear hn2 he2 e2 g1 g1' K1 q6
  generalize (goneG (turn2 true) G1 2 p0 true).1 = G2 at *
  refine ⟨_, _, _, _, _, _, _, _, rfl, box_grf fun w9 q9 B9 z9 => ⟨_, _, _, _, _, _, blk_cell q9 0, blk_cell q9 1, ?_⟩⟩
  have g2 := g2.below B9
  have B09 := B07.trans (B9.mono B07.size)
  refine (k_gLess g2 (K2.small (by decide)) (by simp [I64]) c0_rng).mono ?_
  obtain ⟨K3, e3⟩ := K2.go (plus := false) g2.rng c0_rng goA3
  rintro _ w10 ⟨a3, n3, c3, sa3, sn3, sc3, rfl, hn3, he3, B10⟩
  rw [show (goneG without2e G2 3 c0 false).2 = (4, 0) from e3]
  have B010 := B09.trans (B10.mono B09.size)
  have q10 := blk_below q9 B10 (blk_lt q9)
  have g2 := g2.below B10
  clear hn3 he3 e3 K3 q9
  refine ⟨_, _, _, _, _, _, _, _, rfl, box_grf fun w12 q12 B12 z12 => ?_⟩
  have q10 := blk_below q10 B12 (blk_lt q10)
  have g2 := g2.below B12
  have B012 := B010.trans (B12.mono B010.size)
  refine ⟨_, _, _, _, _, _, blk_cell q10 0, blk_cell q10 1, (k_gDrop g2 (K2.small (by decide)) (by simp [I64])).mono ?_⟩
  obtain ⟨K4, e4⟩ := K2.drop dropA4
  rintro _ w13 ⟨a4, n4, c4, sa4, sn4, sc4, rfl, hn4, he4, B13⟩
  rw [e4]
  have g4 : Grf w13 a4 n4 c4 sa4 sn4 sc4 (dropG G2 2).1 := ⟨hn4.nodes, he4.ents⟩
  have q10 := blk_below q10 B13 (blk_lt q10)
  have g2 := g2.below B13
  have B013 := B012.trans (B13.mono B012.size)
  clear hn4 he4 e4 q12
  generalize (dropG G2 2).1 = G4 at *
  refine ⟨_, _, _, _, _, _, _, rfl, box_grf fun w15 q15 B15 z15 => ?_⟩
  have q10 := blk_below q10 B15 (blk_lt q10)
  have g2 := g2.below B15
  have g4 := g4.below B15
  have B015 := B013.trans (B15.mono B013.size)
  refine ⟨_, _, _, _, _, _, blk_cell q15 0, blk_cell q15 1, (k_gUsed g4 (K4.small (by decide))).mono ?_⟩
  rw [(checkG_rg.2 K4.rg), if_pos rfl, K4.nodes, usedA4]
  rintro _ w16 ⟨ua, un, uc, rfl, ho, B16⟩
  have B016 := B015.trans (B16.mono B015.size)
  have q10 := blk_below q10 B16 (blk_lt q10)
  have g2 := g2.below B16
  clear q15 g4
  refine ⟨_, _, _, rfl, ?_⟩
  rintro _ w17 rfl h17
  have B17 : Below w16.heap.size w16 w17 := by rw [h17]; exact alloc_below _ _
  have r17 : Row encInt w17 (some ⟨w16.heap.size, 0, none⟩) 2 2 [1, 3] := by rw [h17]; exact row_new enInt w16 3 [1, 3] (by simp)
  have B017 := B016.trans (B17.mono B016.size)
  have q10 := blk_below q10 B17 (blk_lt q10)
  have g2 := g2.below B17
  clear h17
  refine (k_EqInts (ho.row.below B17) r17).tells fun w18 Q18 => ⟨_, rfl, ?_⟩
  have B18 := Q18.below w17.heap.size
  have B018 := B017.trans (B18.mono B017.size)
  have q10 := blk_below q10 B18 (blk_lt q10)
  have g2 := g2.below B18
  refine ⟨_, _, _, _, _, _, blk_cell q10 0, blk_cell q10 1, (k_gUsed g2 (K2.small (by decide))).mono ?_⟩
  rw [(checkG_rg.2 K2.rg), if_pos rfl, K2.nodes, usedA2]
  rintro _ w19 ⟨ua2, un2, uc2, rfl, ho2, B19⟩
  have B019 := B018.trans (B19.mono B018.size)
  refine ⟨_, _, _, rfl, ?_⟩
  rintro _ w20 rfl h20
  have B20 : Below w19.heap.size w19 w20 := by rw [h20]; exact alloc_below _ _
  have r20 : Row encInt w20 (some ⟨w19.heap.size, 0, none⟩) 3 3 [1, 2, 3] := by rw [h20]; exact row_new enInt w19 3 [1, 2, 3] (by simp)
  have B020 := B019.trans (B20.mono B019.size)
  refine (k_EqInts (ho2.row.below B20) r20).tells fun w21 Q21 => ⟨_, rfl, rfl, ?_⟩
  exact B020.trans ((Q21.below w20.heap.size).mono B020.size)
end Go.Eng
namespace Go.Eng
open Go Go.RowKit Go.Proofs
set_option maxRecDepth 10000
structure Fits (G : PG) : Prop where
  n : G.nodes.length ≤ 30
  rows : ∀ x ∈ G.nodes, x.ty.length ≤ 14 ∧ x.plus.length ≤ 20 ∧ x.less.length ≤ 20
  s : G.slots.length ≤ 128
  ty : ∀ e ∈ G.slots, e.ty.length ≤ 14
theorem Fits.small {G : PG} (h : Fits G) : SmallG G := by
  refine ⟨⟨by have := h.n; omega, fun x hx => ?_⟩, by have := h.s; omega, fun e he => by have := h.ty e he; omega⟩
  have := h.rows x hx; omega
theorem Fits.own {G : PG} (h : Fits G) : ownW G = G := by
  have e1 : (G.nodes.take 30).map cutN = G.nodes := by
    rw [List.take_of_length_le h.n]
    conv => rhs; rw [← List.map_id G.nodes]
    refine List.map_congr_left fun x hx => ?_
    obtain ⟨h1, h2, h3⟩ := h.rows x hx
    show cutN x = x
    unfold cutN
    rw [List.take_of_length_le h1, List.take_of_length_le h2, List.take_of_length_le h3]
  have e2 : (G.slots.take 128).map cutE = G.slots := by
    rw [List.take_of_length_le h.s]
    conv => rhs; rw [← List.map_id G.slots]
    refine List.map_congr_left fun e he => ?_
    show cutE e = e
    unfold cutE
    rw [List.take_of_length_le (h.ty e he)]
  unfold ownW; rw [e1, e2]
structure PTurn where
  kind : Int
  node : Int
  id : Int
  ty : List Int
deriving Inhabited
/-- Both cells of a box are put. -/
theorem put2 {W : World} {b : Nat} {v0 v1 : Value} {t : TypeId} {a a2 : Option Addr} {n c n2 c2 : Nat} (q : W.heap[b]? = some (.cells #[v0, v1] t (0, 0))) {K : World → Prop}
    (hK : ∀ W', W'.heap[b]? = some (.cells #[.slice a n c, .slice a2 n2 c2] t (0, 0)) → (∀ g, g ≠ b → W'.heap[g]? = W.heap[g]?) → Below b W W' → W'.heap.size = W.heap.size → W' = (W.setCell ⟨b, 0, none⟩ (.slice a n c)).setCell ⟨b, 1, none⟩ (.slice a2 n2 c2) → K W') :
    ((W.cell? (Addr.mk b 0 none)).isSome = true ∧ W.frozen? (Addr.mk b 0 none) = false ∧ ((W.cell? ((Addr.mk b 0 none).add 1)).isSome = true ∧ W.frozen? ((Addr.mk b 0 none).add 1) = false ∧
    (∀ w4 : World, w4 = (W.setCell (Addr.mk b 0 none) (.slice a n c)).setCell ((Addr.mk b 0 none).add 1) (.slice a2 n2 c2) → K w4))) := by
  refine ⟨blk_some q (by simp), blk_free q _, blk_some q (j := 1) (by simp), blk_free q 1, ?_⟩
  rintro w4 h4
  refine hK w4 (by rw [h4]; exact blk_set (blk_set q 0 _) 1 _) (fun g hg => ?_) ?_ ?_ h4
  · rw [h4]; exact (Below.heap_setCell _ _ _ _ hg).trans (Below.heap_setCell _ _ _ _ hg)
  · rw [h4]; exact ((Below.refl b W).setCell (Nat.le_refl _) _).setCell (Nat.le_refl _) _
  · rw [h4, size_set, size_set]
theorem Row.hdN {w : World} {a : Option Addr} {n c : Nat} {l : List Hd} (h : Row encHd w a n c l) {k : Nat} {K : Option Addr → Nat → Nat → Prop} (hk : k < n) (hK : ∀ hl : k < l.length, K l[k].a l[k].n l[k].c) :
    ∃ p : Addr, a = some p ∧ 0 ≤ (k : Int) ∧ (k : Int) < (n : Int) ∧ ∃ (xa : Option Addr) (xn xc : Nat), w.cell? (p.add ((k : Int).toNat * 1)) = some (.slice xa xn xc) ∧ K xa xn xc := by
  obtain ⟨p, hp, hc⟩ := h.ix1 (i := (k : Int)) (fun _ => rfl) (by omega) (by omega)
  exact ⟨p, hp, by omega, by omega, _, _, _, hc, hK _⟩
theorem DG.farB {lo : Nat} {w : World} {a sa : Option Addr} {n c sn sc : Nat} {G : PG} (h : DG lo w a n c sa sn sc G) {b : Nat} {cs : Array Value} {fr : Nat × Nat} (hb : w.heap[b]? = some (.cells cs 27 fr)) {j : Nat} (v : Value) : DG lo (w.setCell ⟨b, j, none⟩ v) a n c sa sn sc G :=
  ⟨h.1.farB hb (by decide) (by decide) (by decide) v, h.2.farB hb (by decide) (by decide) v⟩
theorem DG.far2 {lo : Nat} {w w' : World} {a sa : Option Addr} {n c sn sc : Nat} {G : PG} (h : DG lo w a n c sa sn sc G) {b : Nat} {cs : Array Value} {fr : Nat × Nat} (hb : w.heap[b]? = some (.cells cs 27 fr)) {u v : Value} (hw : w' = (w.setCell ⟨b, 0, none⟩ u).setCell ⟨b, 1, none⟩ v) : DG lo w' a n c sa sn sc G := by
  rw [hw]; exact (h.farB hb u).farB (blk_set hb 0 _) v
theorem Alike.says {G : PG} {r : PG × Int × Int} {q : List Node × Int × Int} {t : List Int} (h : Alike G r q t) (hr : RngN r.1.nodes) (hl : G.slots.length ≤ 1000000) : SaysP r.1 q.1 ∧ (r.2.2 = 0 → Right12 r.1) ∧ r.1.slots.length ≤ 1000000 ∧ q.1.length ≤ G.nodes.length + 1 := by
  have h3 := h.len
  refine ⟨?_, fun he => ?_, by omega, by rw [← h.nodes]; exact h3.2⟩
  · rw [← h.nodes]
    by_cases he : r.2.2 = 0
    · exact (h.ok he).1.says hr (by omega)
    · rw [(h.err he).1]; exact says_nil
  · have hR := (h.ok he).1
    exact ⟨(nodes12_iff hr).2 hR.nodes, ((hR.says hr (by omega)).2.2 (by have := hR.nodes.pos; omega)).1, ((hR.says hr (by omega)).2.2 (by have := hR.nodes.pos; omega)).2⟩
end Go.Eng
namespace Go.Eng
open Go Go.RowKit Go.Proofs
set_option maxRecDepth 10000
end Go.Eng
namespace Go.Eng
open Go Go.RowKit Go.Proofs
theorem cells_get {w : World} {a : Addr} {n : Nat} {cs : List Value} (h : w.cells? 0 a n = some cs) : cs.length = n ∧ ∀ i, i < n → w.cell? (a.add i) = cs[i]? := by
  unfold World.cells? at h
  rw [if_pos (Nat.zero_le _)] at h
  have h1 := mapM_some_length h
  rw [List.length_range] at h1
  exact ⟨h1, fun i hi => mapM_some_get h i i (by simp [hi])⟩
theorem list_of {α : Type} (p : Nat → α → Prop) : ∀ n, (∀ i, i < n → ∃ r, p i r) → ∃ rs : List α, rs.length = n ∧ ∀ i (h : i < rs.length), p i rs[i]
  | 0, _ => ⟨[], rfl, fun i h => by simp at h⟩
  | n + 1, h => by
    obtain ⟨rs, h1, h2⟩ := list_of p n fun i hi => h i (by omega)
    obtain ⟨r, hr⟩ := h n (by omega)
    refine ⟨rs ++ [r], by simp [h1], fun i hi => ?_⟩
    by_cases hin : i < rs.length
    · rw [List.getElem_append_left hin]; exact h2 i hin
    · have : i = n := by simp at hi; omega
      subst this
      rw [List.getElem_append_right (by omega)]; simpa using hr
section
variable {P : Program} {H : Type} {enc : TypeId × Value → H} {w : World} {sp : Nat → Bool} {held : Bool}
/-- What is asked of a cell's reading. -/
def Opens (P : Program) (enc : TypeId × Value → H) (w : World) (sp : Nat → Bool) (held : Bool) (t : TypeId) (G : List Value → Prop) : Prop :=
  ∀ fuel cs x, DataW.trod enc P w 0 sp held fuel t cs = some x → G cs
theorem opens_int {t : TypeId} {k : IntKind} (ht : P.underlying t = some (.int k)) : Opens P enc w sp held t (fun cs => ∃ x : Int, cs = [.int k x] ∧ (Lit.int k x).wf = true) := by
  intro fuel cs x h
  obtain ⟨n, h1, _, h2⟩ := DataW.trod_int ht h
  exact ⟨n, h1, h2⟩
theorem opens_slice {ρ : Type} {en : ρ → List Value} {k : Nat} {t e : TypeId} {Good : ρ → Prop} (ht : P.underlying t = some (.slice e)) (hk : P.cellsOf e = k) (E : En en k) (he : Opens P enc w sp held e (fun cs => ∃ r, cs = en r ∧ Good r)) :
    Opens P enc w sp held t (fun cs => ∃ h : Hd, cs = [h.v] ∧ ∃ rs, Row en w h.a h.n h.c rs ∧ ∀ r ∈ rs, Good r) := by
  intro fuel cs x h
  rcases DataW.trod_slice ht h with ⟨h1, _⟩ | ⟨a, len, cap, elems, rest, n, _, h1, _, _, hl, hc, hel, hget, _⟩
  · exact ⟨⟨none, 0, 0⟩, h1, [], Row.nil', by simp⟩
  · obtain ⟨rs, hrl, hr⟩ := list_of (fun i r => w.cells? 0 (a.add (i * k)) k = some (en r) ∧ Good r) len fun i hi => by
      have := hget i hi
      rw [hk, List.getElem?_eq_getElem (by omega)] at this
      obtain ⟨cs', hc1, hc2⟩ := Option.bind_eq_some_iff.1 this
      obtain ⟨r, rfl, hg⟩ := he _ _ _ hc2
      exact ⟨r, hc1, hg⟩
    refine ⟨⟨some a, len, cap⟩, h1, rs, ⟨⟨hrl.symm, .inr ⟨a, rfl, fun j hj => ?_⟩⟩, hl, (fun h => nomatch h), hc⟩, fun r hr' => ?_⟩
    · rw [length_flat E.len] at hj
      have hk0 : 0 < k := by
        rcases Nat.eq_zero_or_pos k with h0 | h0
        · rw [h0] at hj; omega
        · exact h0
      have hd : j / k < rs.length := (Nat.div_lt_iff_lt_mul hk0).2 hj
      have hm : j % k < k := Nat.mod_lt _ hk0
      have hj' : j / k * k + j % k = j := Nat.div_add_mod' j k
      obtain ⟨g1, _⟩ := hr _ hd
      have g2 := (cells_get g1).2 _ hm
      rw [add_add, hj'] at g2
      have g3 := flat_get E.len rs (j / k) (j % k) hd hm
      rw [hj'] at g3
      rw [g2, g3]
    · obtain ⟨i, hi, rfl⟩ := List.mem_iff_getElem.1 hr'
      exact (hr i hi).2
end
theorem u64_wf {n : Int} (h : (Lit.int .u64 n).wf = true) : 0 ≤ n ∧ n < 18446744073709551616 := by
  simp [Lit.wf, IntKind.min, IntKind.max, IntKind.signed, IntKind.bits] at h
  omega
section
variable {H : Type} {enc : TypeId × Value → H} {w : World} {sp : Nat → Bool} {held : Bool}
theorem opens_id : Opens Tryz.prog enc w sp held 32 (fun cs => ∃ x : Int, cs = encId x ∧ 0 ≤ x ∧ x < 18446744073709551616) := by
  intro fuel cs x h
  obtain ⟨n, h1, h2⟩ := opens_int (by kernel_rfl) fuel cs x h
  exact ⟨n, h1, u64_wf h2⟩
theorem opens_ids : Opens Tryz.prog enc w sp held 33 (fun cs => ∃ h : Hd, cs = [h.v] ∧ ∃ l, Row encId w h.a h.n h.c l ∧ Rng l) := opens_slice (by kernel_rfl) (by kernel_rfl) enId opens_id
theorem all2_of {ρ β : Type} {R : ρ → β → Prop} {rs : List ρ} (h : ∀ r ∈ rs, ∃ x, R r x) : ∃ l, All2 R rs l := by
  obtain ⟨l, hl, hr⟩ := list_of (fun i x => ∀ h : i < rs.length, R rs[i] x) rs.length fun i hi => by
    obtain ⟨x, hx⟩ := h _ (List.getElem_mem hi)
    exact ⟨x, fun _ => hx⟩
  exact ⟨l, hl.symm, fun i h1 h2 => hr i h2 h1⟩
theorem opens_rows : Opens Tryz.prog enc w sp held 73 (fun cs => ∃ h : Hd, cs = [h.v] ∧ ∃ hs : List Hd, Row encHd w h.a h.n h.c hs ∧ ∃ ls, All2 (fun (r : Hd) l => Row encId w r.a r.n r.c l ∧ Rng l) hs ls) := by
  intro fuel cs x h
  obtain ⟨hd, e, rs, hr, hg⟩ := opens_slice (en := encHd) (k := 1) (Good := fun r : Hd => ∃ l, Row encId w r.a r.n r.c l ∧ Rng l) (by kernel_rfl) (by kernel_rfl) enHd opens_ids fuel cs x h
  obtain ⟨l, hl⟩ := all2_of hg
  exact ⟨hd, e, rs, hr, l, hl⟩
end
end Go.Eng
namespace Go.Proofs.YtfcnkaignjdpgaaGreat
open Go.ChangeShapes Go.WideShapes Go.ChangeAt Go.RowKit Go.Eng
theorem own : ownKnob Tryz.prog.godebug = none := by kernel_rfl
theorem laidOut : laidOutB Tryz.prog = true := by kernel_rfl
section
variable {H : Type} {enc : TypeId × Value → H}
set_option maxRecDepth 100000 in
theorem arg_slice {W : World} {r : Reach} {b0 : Nat} {sp : Nat → Bool} {held : Bool} {v : Value} {d : DataW H} {ps : List MemPlace} {t e : TypeId} {G : Hd → Prop} (ht : Tryz.prog.underlying t = some (.slice e)) (ho : Opens Tryz.prog enc W sp held t (fun cs => ∃ h : Hd, cs = [h.v] ∧ G h))
    (hv : Value.okWide Tryz.prog W r b0 t v) (h : DataW.Trod enc Tryz.prog W 0 sp held t v d ps) : ∃ h : Hd, v = h.v ∧ G h := by
  obtain ⟨a, n, c, rfl⟩ := okWide_slice ht hv
  obtain ⟨fuel, hf⟩ := h
  obtain ⟨hd, e, hG⟩ := ho _ _ _ hf
  refine ⟨hd, ?_, hG⟩
  simpa [Value.cells] using e
end
end Go.Proofs.YtfcnkaignjdpgaaGreat
namespace Go.Proofs
open Go.Shelf
def Tryz.sortRow_ren : Go.Shelf.Ren := ⟨fun | 6 => 40 | 15 => 91 | 14 => 90 | 28 => 129 | 29 => 130 | 20 => 121 | 21 => 122 | 22 => 123 | 23 => 124 | 24 => 125 | 25 => 126 | 26 => 127 | 27 => 128 | 46 => 155 | 47 => 156 | 48 => 157 | 49 => 158 | 50 => 159 | 57 => 167 | n => n, fun | 22 => 73 | 24 => 33 | 25 => 82 | 3 => 3 | 39 => 84 | 0 => 0 | 53 => 166 | 55 => 31 | 4 => 4 | 46 => 160 | 45 => 159 | 50 => 67 | 5 => 5 | 9 => 9 | 66 => 186 | 70 => 190 | 76 => 199 | 77 => 172 | n => n, fun | n => n⟩
theorem Tryz.sortRow : Go.Proofs.SlLaysF.n6 Tryz.prog Tryz.sortRow_ren := {
  mixed := by kernel_rfl,
  f6 := ⟨Tryz.f40.name, by decide, Tryz.func40.trans (congrArg some (by kernel_rfl))⟩,
  f14 := ⟨Tryz.f90.name, by decide, Tryz.func90.trans (congrArg some (by kernel_rfl))⟩,
  f15 := Tryz.func91.trans (congrArg some (by kernel_rfl)),
  f20 := ⟨Tryz.f121.name, by decide, Tryz.func121.trans (congrArg some (by kernel_rfl))⟩,
  f21 := ⟨Tryz.f122.name, by decide, Tryz.func122.trans (congrArg some (by kernel_rfl))⟩,
  f22 := ⟨Tryz.f123.name, by decide, Tryz.func123.trans (congrArg some (by kernel_rfl))⟩,
  f23 := ⟨Tryz.f124.name, by decide, Tryz.func124.trans (congrArg some (by kernel_rfl))⟩,
  f24 := ⟨Tryz.f125.name, by decide, Tryz.func125.trans (congrArg some (by kernel_rfl))⟩,
  f25 := ⟨Tryz.f126.name, by decide, Tryz.func126.trans (congrArg some (by kernel_rfl))⟩,
  f26 := ⟨Tryz.f127.name, by decide, Tryz.func127.trans (congrArg some (by kernel_rfl))⟩,
  f27 := ⟨Tryz.f128.name, by decide, Tryz.func128.trans (congrArg some (by kernel_rfl))⟩,
  f28 := Tryz.func129.trans (congrArg some (by kernel_rfl)),
  f29 := Tryz.func130.trans (congrArg some (by kernel_rfl)),
  f46 := ⟨Tryz.f155.name, by decide, Tryz.func155.trans (congrArg some (by kernel_rfl))⟩,
  f47 := Tryz.func156.trans (congrArg some (by kernel_rfl)),
  f48 := Tryz.func157.trans (congrArg some (by kernel_rfl)),
  f49 := ⟨Tryz.f158.name, by decide, Tryz.func158.trans (congrArg some (by kernel_rfl))⟩,
  f50 := ⟨Tryz.f159.name, by decide, Tryz.func159.trans (congrArg some (by kernel_rfl))⟩,
  f57 := ⟨Tryz.f167.name, by decide, Tryz.func167.trans (congrArg some (by kernel_rfl))⟩,
  t0 := Tryz.underlying0,
  a0 := Tryz.isAgg0,
  z0 := Tryz.sizeOf0,
  v0 := Tryz.zeroValue0,
  t3 := Tryz.underlying3,
  a3 := Tryz.isAgg3,
  z3 := Tryz.sizeOf3,
  v3 := Tryz.zeroValue3,
  t4 := Tryz.underlying4,
  a4 := Tryz.isAgg4,
  z4 := Tryz.sizeOf4,
  v4 := Tryz.zeroValue4,
  t5 := Tryz.underlying5,
  a5 := Tryz.isAgg5,
  z5 := Tryz.sizeOf5,
  v5 := Tryz.zeroValue5,
  t9 := Tryz.underlying9,
  a9 := Tryz.isAgg9,
  z9 := Tryz.sizeOf9,
  v9 := Tryz.zeroValue9,
  t22 := Tryz.underlying73,
  a22 := Tryz.isAgg73,
  z22 := Tryz.sizeOf73,
  v22 := Tryz.zeroValue73,
  a24 := Tryz.isAgg33,
  z24 := Tryz.sizeOf33,
  t25 := Tryz.underlying82,
  a25 := Tryz.isAgg82,
  z25 := Tryz.sizeOf82,
  v25 := Tryz.zeroValue82,
  t39 := Tryz.underlying84,
  a39 := Tryz.isAgg84,
  z39 := Tryz.sizeOf84,
  v39 := Tryz.zeroValue84,
  t45 := Tryz.underlying159,
  a45 := Tryz.isAgg159,
  z45 := Tryz.sizeOf159,
  v45 := Tryz.zeroValue159,
  t46 := Tryz.underlying160,
  a46 := Tryz.isAgg160,
  z46 := Tryz.sizeOf160,
  v46 := Tryz.zeroValue160,
  t50 := Tryz.underlying67,
  a50 := Tryz.isAgg67,
  z50 := Tryz.sizeOf67,
  v50 := Tryz.zeroValue67,
  t53 := Tryz.underlying166,
  a53 := Tryz.isAgg166,
  z53 := Tryz.sizeOf166,
  v53 := Tryz.zeroValue166,
  t55 := Tryz.underlying31,
  a55 := Tryz.isAgg31,
  z55 := Tryz.sizeOf31,
  v55 := Tryz.zeroValue31,
  t66 := Tryz.underlying186,
  a66 := Tryz.isAgg186,
  z66 := Tryz.sizeOf186,
  v66 := Tryz.zeroValue186,
  t70 := Tryz.underlying190,
  a70 := Tryz.isAgg190,
  z70 := Tryz.sizeOf190,
  v70 := Tryz.zeroValue190,
  t76 := Tryz.underlying199,
  a76 := Tryz.isAgg199,
  z76 := Tryz.sizeOf199,
  v76 := Tryz.zeroValue199,
  t77 := Tryz.underlying172,
  a77 := Tryz.isAgg172,
  z77 := Tryz.sizeOf172,
  v77 := Tryz.zeroValue172 }
end Go.Proofs
namespace Go.Eng
open Go Go.RowKit Go.Proofs
set_option maxRecDepth 10000
section
variable {α : Type} [Inhabited α] {en : α → Value}
theorem flat1 (d : Array α) {j : Nat} (hj : j < d.size) : (Go.Sort.flatK (fun x => [en x]) 1 d)[j]! = en d[j]! := by
  rw [Go.Sort.get_flatK _ _ _ _ (by omega), Nat.div_one, Nat.mod_one]; rfl
theorem put1_eq (d : Array α) (c : Array Value) : Go.Sort.putCells en 0 d c = Go.Sort.putCells id 0 (Go.Sort.flatK (fun x => [en x]) 1 d) c := by
  unfold Go.Sort.putCells
  apply Array.ext
  · simp
  · intro i h1 h2
    simp only [Array.getElem_mapIdx, Go.Sort.size_flatK, Nat.mul_one, Nat.zero_le, true_and, Nat.zero_add, Nat.sub_zero]
    split
    · rename_i hi; rw [flat1 d hi]; rfl
    · rfl
theorem sort1_eq (w : World) (g m : Nat) (d : Array α) (os : Array Obj) : sortWorld en w g 0 m d os = sortWorldK (fun x => [en x]) 1 w g 0 m d os := by
  unfold sortWorld sortWorldK Go.Sort.putRowK Go.Sort.putRow
  rw [show Go.Sort.putCells en 0 d = Go.Sort.putCells id 0 (Go.Sort.flatK (fun x => [en x]) 1 d) from funext fun c => put1_eq d c]
theorem holds1 {w : World} {g : Nat} {d : Array α} (h : Go.Sort.HoldsK (fun x => [en x]) 1 w g 0 d) : Go.Sort.Holds en w g 0 d := by
  intro j hj
  obtain ⟨h1, h2⟩ := h j (by rw [Go.Sort.size_flatK]; omega)
  rw [flat1 d hj] at h1
  exact ⟨h1, h2⟩
end
abbrev HL := Hd × List Int
abbrev HLW (lo : Nat) (w : World) := {p : HL // Own encId 1 32 lo w p.1.a p.1.n p.1.c p.2}
theorem hlw {lo : Nat} {w : World} : ∀ (ps : List HL), (∀ p ∈ ps, Own encId 1 32 lo w p.1.a p.1.n p.1.c p.2) → ∃ d : List (HLW lo w), d.map (·.1) = ps
  | [], _ => ⟨[], rfl⟩
  | p :: ps, h => by
    obtain ⟨d, hd⟩ := hlw ps fun q hq => h q (List.mem_cons_of_mem _ hq)
    exact ⟨⟨p, h p (List.mem_cons_self ..)⟩ :: d, by rw [List.map_cons, hd]⟩
section
variable {w : World} {n c : Nat} {ps : List HL}
theorem k_SortRows {g lo : Nat} (ho : Own encHd 1 33 lo w (some ⟨g, 0, none⟩) n c (ps.map (·.1))) (hps : ∀ p ∈ ps, Own encId 1 32 lo w p.1.a p.1.n p.1.c p.2) (hs : n ≤ 1048576) :
    Cl Tryz.prog 40 #[.slice (some ⟨g, 0, none⟩) n c, .func (.func 41) #[] #[]] w (fun v w' => v = undef ∧ ∃ ps' : List HL, Own encHd 1 33 lo w' (some ⟨g, 0, none⟩) n c (ps'.map (·.1)) ∧ ps'.Perm ps ∧ ps'.Pairwise (fun p q => ¬ cmpL q.2 p.2 < 0) ∧ (∀ p ∈ ps', Own encId 1 32 lo w' p.1.a p.1.n p.1.c p.2) ∧ Below lo w w') := by
  have hgl : g < w.heap.size := (ho.lt rfl).2
  have hlo : lo ≤ g := (ho.lt rfl).1
  have L := Tryz.sortRow
  refine ⟨L.f6.enters rfl, ?_⟩
  haveI : Inhabited (HLW lo w) := ⟨⟨((⟨none, 0, 0⟩ : Hd), ([] : List Int)), Own.nil⟩⟩
  obtain ⟨d, hd⟩ := hlw ps hps
  have hn : n = ps.length := by have := ho.len; simpa using this
  have hdl : d.length = n := by rw [hn, ← hd, List.length_map]
  have ho' : Own (fun x : HLW lo w => [x.1.1.v]) 1 33 lo w (some ⟨g, 0, none⟩) n c d := by
    have := ho
    rw [← hd, List.map_map] at this
    exact Own.map.1 this
  have hH := holds1 (en := fun x : HLW lo w => x.1.1.v) (holdsK_of_own (enc := fun x : HLW lo w => [x.1.1.v]) (k := 1) (fun _ => rfl) (by decide) ho')
  have far : ∀ {W : World} {p : HL}, w.grownBy W (some g) → Own encId 1 32 lo w p.1.a p.1.n p.1.c p.2 → Own encId 1 32 lo W p.1.a p.1.n p.1.c p.2 := fun hg h => ho.keepOwn hg h (by decide)
  have hcmp : CmpLays1 Tryz.prog 41 #[] (fun x : HLW lo w => x.1.1.v) (fun x y : HLW lo w => cmpL x.1.2 y.1.2) g 0 d.toArray.size w := by
    intro m os dk hdk x y
    have hg : w.grownBy (sortWorld (fun x : HLW lo w => x.1.1.v) w g 0 m dk os) (some g) := by rw [sort1_eq]; exact sort_grown
    refine ((k_tCompare (far hg x.2).row (far hg y.2).row).2).mono ?_
    rintro e w' ⟨v, rfl, rfl, rfl⟩
    exact ⟨rfl, 0, #[], by rw [Go.Sort.grow_empty]; rfl⟩
  have hsz : d.toArray.size = n := by simpa using hdl
  have key := Any.slices_SortFunc L (fun x : HLW lo w => x.1.1.v) (fun x => rfl) (fun x y : HLW lo w => cmpL x.1.2 y.1.2) (swo_cmpL _) 41 #[] g 0 c d.toArray w
    (ent_of Tryz.func41 (by kernel_rfl) rfl) hcmp hH hgl (by omega)
  rw [hsz] at key
  refine key.mono ?_
  rintro e w' ⟨rfl, d', m, os, hperm, hsort, rfl⟩
  rw [sort1_eq]
  have hd'n : d'.size = n := by rw [hperm.1, hsz]
  have hg : w.grownBy (sortWorldK (fun x : HLW lo w => [x.1.1.v]) 1 w g 0 m d' os) (some g) := sort_grown
  refine ⟨_, rfl, rfl, d'.toList.map (·.1), ?_, ?_, ?_, ?_, (Below.refl lo w).grown hg (by omega) (fun k e => by cases e; exact hlo)⟩
  · have := own_of_sort (enc := fun x : HLW lo w => [x.1.1.v]) (k := 1) (d := d') (m := m) (os := os) (fun _ => rfl) (by decide) ho' hd'n
    rw [List.map_map]
    exact Own.map.2 this
  · have h2 := hperm.2.2
    rw [← hsz] at h2
    have e1 : (d'.extract 0 d.toArray.size).toList = d'.toList := by rw [show d.toArray.size = d'.size by omega]; simp
    have e2 : (d.toArray.extract 0 d.toArray.size).toList = d := by simp
    rw [e1, e2] at h2
    have := h2.map (·.1)
    rwa [hd] at this
  · rw [List.pairwise_map, List.pairwise_iff_getElem]
    intro i j hi hj hij
    have := hsort i j (Nat.zero_le _) hij (by simpa [hd'n] using hj)
    simp only [ltOf, decide_eq_false_iff_not] at this
    simpa [getElem!_pos d' i (by simpa using hi), getElem!_pos d' j (by simpa using hj)] using this
  · intro p hp
    obtain ⟨x, _, rfl⟩ := List.mem_map.1 hp
    exact far hg x.2
end
end Go.Eng
namespace Go.Eng
open Go Go.RowKit Go.Proofs
set_option maxRecDepth 10000
section
variable {w : World} {a b : Option Addr} {n c m d : Nat}
theorem k_EqFRows {hs hs' : List Hd} {ls : List (List Int)} (h1 : Row encHd w a n c hs) (g1 : All2 (fun (r : Hd) l => Row encId w r.a r.n r.c l) hs ls) (h2 : Row encHd w b m d hs') (g2 : All2 (fun (r : Hd) l => Row encId w r.a r.n r.c l) hs' ls) :
    Cl Tryz.prog 43 #[.slice a n c, .slice b m d, .func (.func 22) #[] #[]] w (Gives w (.bool true)) := by
  refine c43 _ _ _ _ _ _ 22 [] ?_
  have e1 := h1.len; have e2 := h2.len; have f1 := g1.1; have f2 := g2.1; have e3 := h1.n63
  refine cnd (fun hc => absurd hc (by simp; omega)) fun _ => ?_
  refine ⟨fun _ i w' => Below w.heap.size w w' ∧ ∃ k : Nat, i = k ∧ k ≤ n, fun _ i _ => n - i.toNat, ⟨Below.refl _ _, 0, rfl, by omega⟩, ?_⟩
  rintro _ w1 s _ ⟨hB, k, rfl, hk⟩
  refine cnd (fun hcc => ?_) fun _ => ⟨rfl, hB⟩
  have hkn : k < n := by simpa using hcc
  refine (h1.below hB).hdN hkn fun hl => (h2.below hB).hdN (by omega) fun hl2 => ?_
  have x := g1.2 k hl (by omega)
  have y := g2.2 k hl2 (by omega)
  refine (k_EqIds (x.below hB) (y.below hB)).tells fun w2 Q2 => ⟨_, rfl, cnd (fun hh => absurd hh (by simp)) fun _ => ?_⟩
  have B2 := Q2.below w1.heap.size
  rw [nx (by omega)]
  exact ⟨⟨hB.trans (B2.mono hB.size), k + 1, rfl, by omega⟩, dec hkn⟩
theorem k_GrowRows {N : Nat} (hN : N ≤ 1000) : Cl Tryz.prog 94 #[.slice none 0 0, .int .i64 (N : Int)] w (fun v w' => ∃ a n c, v = .slice a n c ∧ Own encHd 1 33 w.heap.size w' a n c [] ∧ Below w.heap.size w w') := by
  refine c94 _ _ _ _ (cnd (fun hc => by have := of_decide_eq_true hc; omega) fun _ => ⟨_, cap_run tyRows.ht, ?_⟩)
  have e1 : IntKind.i64.wrap ((N : Int) - IntKind.i64.wrap (((0 : Nat) : Int) - ((0 : Nat) : Int))) = ((N : Nat) : Int) := by
    rw [wrap64 (i := ((0 : Nat) : Int) - ((0 : Nat) : Int)) (by omega) (by omega), wrap64 (by omega) (by omega)]; omega
  rw [e1]
  refine cnd (fun h0 => ?_) fun h0 => ⟨_, _, _, rfl, Own.nil, Below.refl _ _⟩
  have hN0 : 0 < N := by simp at h0; omega
  obtain ⟨ti, hti, hsz, hby, hz⟩ := tyRows.hi
  have hold : (Builtin.firstCells ti.size 0 (.slice none 0 0)).run Tryz.prog w.drew = .ok ([] : List Value).toArray w.drew := by
    simp [Builtin.firstCells]
  have hrun := Lib.run_append_grow_zeros (P := Tryz.prog) w 73 3 73 33 ti _ .i64 .i64 tyRows.ht (by kernel_rfl) hti hz none 0 0 [] hold N (by omega) (by omega) (by omega) (by omega) (by rw [hby]; omega) (growslice_fits (by omega) (by rw [hby]; omega))
  have hge := grownCap_ge w (0 + N) 0 33
  have hcm := grownCap_le_maxLen w (0 + N) 0 33 (by simp only [maxLen]; omega)
  generalize grownCap w (0 + N) 0 33 = cap at hrun hge hcm
  refine ⟨_, cap_run tyRows.ht, by omega, by omega, _, _, _, _, hrun, by omega, by omega, _, _, _, rfl, ?_, ((Below.refl _ _).drew).alloc (Nat.le_refl _) _⟩
  refine ⟨rfl, Nat.zero_le _, by simpa using hcm, .inr ⟨_, _, rfl, Nat.le_refl _, blk_new (w := w.drew) _, ?_, ?_⟩⟩
  · simp only [Array.size_append, List.size_toArray, size_zeroCells, tyRows.hz, List.length_nil, Int.toNat_natCast]
    omega
  · simp
/-- Rows, one behind the other. -/
theorem k_ConcatRows {hs : List Hd} {ls : List (List Hd)} (hr : Row encHd w a n c hs) (hall : All2 (fun (r : Hd) l => Row encHd w r.a r.n r.c l) hs ls) (hn : n ≤ 10) (hl : ∀ l ∈ ls, l.length ≤ 10) :
    Cl Tryz.prog 42 #[.slice a n c] w (Made encHd 1 33 w ls.flatten) := by
  refine c42 _ _ _ ?_
  have e1 := hr.len; have f1 := hall.1
  have hsum : ∀ k, k ≤ n → ((ls.take k).flatten).length ≤ 10 * k := by
    intro k hk
    induction k with
    | zero => simp
    | succ k ih =>
      have hkl : k < ls.length := by omega
      rw [take_one hkl, List.flatten_append, List.length_append]
      have := ih (by omega)
      have := hl _ (List.getElem_mem hkl)
      rw [List.flatten_cons, List.flatten_nil, List.append_nil]; omega
  refine ⟨fun size i W => w = W ∧ ∃ k : Nat, i = k ∧ k ≤ n ∧ size = (((ls.take k).flatten).length : Nat), fun _ i _ => n - i.toNat, ⟨rfl, 0, rfl, by omega, rfl⟩, ?_⟩
  rintro _ _ _ _ ⟨rfl, k, rfl, hk, rfl⟩
  have hsk := hsum k hk
  refine cnd (fun hc => ?_) fun hc => ?_
  · have hkn : k < n := by simpa using hc
    have hkl : k < ls.length := by omega
    refine hr.hdN hkn fun hh => ?_
    have hx := hall.2 k hh hkl
    have hxl := hx.len
    have h10 := hl _ (List.getElem_mem hkl)
    have e2 : IntKind.i64.wrap ((((ls.take k).flatten).length : Nat) + ((hs[k]).n : Int)) = ((((ls.take (k + 1)).flatten).length : Nat) : Int) := by
      rw [wrap64 (by omega) (by omega), take_one hkl, List.flatten_append, List.length_append, List.flatten_cons, List.flatten_nil, List.append_nil]
      omega
    rw [e2]
    refine cnd (fun h0 => by have := of_decide_eq_true h0; omega) fun _ => ?_
    rw [nx (by omega)]
    exact ⟨⟨rfl, k + 1, rfl, by omega, rfl⟩, dec hkn⟩
  · have hkn : k = n := by have : ¬ k < n := by simpa using hc
                           omega
    subst hkn
    refine (k_GrowRows (by omega)).mono ?_
    rintro _ w2 ⟨xa, xn, xc, rfl, ho, B2⟩
    refine ⟨_, _, _, rfl, fun oa on oc i W => Below w.heap.size w W ∧ ∃ k2 : Nat, i = k2 ∧ k2 ≤ k ∧ Own encHd 1 33 w.heap.size W oa on oc (ls.take k2).flatten, fun _ _ _ i _ => k - i.toNat, ⟨B2, 0, rfl, by omega, by simpa using ho⟩, ?_⟩
    rintro _ W oa on oc _ ⟨hB, k2, rfl, hk2, ho2⟩
    refine cnd (fun hc2 => ?_) fun hc2 => ?_
    · have hkn2 : k2 < k := by simpa using hc2
      have hkl : k2 < ls.length := by omega
      refine (hr.below hB).hdN hkn2 fun hh => ?_
      have hx := (hall.2 k2 hh hkl).below hB
      have hxl := hx.len
      have h10 := hl _ (List.getElem_mem hkl)
      have hon := ho2.len
      have hsk2 := hsum k2 (by omega)
      obtain ⟨a', n', c', w', hrun, ho3, hg⟩ := app_own tyRows enHd ho2 hB.size hx.rd hx.nil (by simp only [maxLen]; omega) (by omega) (ty := 73)
      refine ⟨_, _, _, _, hrun, ?_⟩
      rw [nx (by omega)]
      refine ⟨⟨hB.trans (ho2.belowOf hg hB.size), k2 + 1, rfl, by omega, ?_⟩, dec hkn2⟩
      rw [take_one hkl, List.flatten_append]
      simpa using ho3
    · have : k2 = k := by have : ¬ k2 < k := by simpa using hc2
                          omega
      subst this
      rw [take_all (by omega)] at ho2
      exact ⟨_, _, _, rfl, ho2, hB⟩
end
end Go.Eng
namespace Go.Eng
open Go Go.Proofs
set_option exponentiation.threshold 300
theorem usedN_eq (l : List Node) : usedN l = (usedIx l).map fun i : Nat => (i : Int) + 1 := rfl
theorem mem_usedN {l : List Node} {x : Int} : x ∈ usedN l ↔ isN l x = true := by
  rw [usedN_eq, List.mem_map]
  constructor
  · rintro ⟨i, hi, rfl⟩
    obtain ⟨h1, h2⟩ := mem_usedIx.1 hi
    exact isN_of h1 h2
  · intro h
    obtain ⟨k, hk, rfl, hu, _⟩ := isN_node h
    exact ⟨k, mem_usedIx.2 ⟨hk, hu⟩, rfl⟩
theorem usedN_len (l : List Node) : (usedN l).length = manyN l := by rw [usedN_eq, List.length_map, usedIx_len]
end Go.Eng
namespace Go.Eng
open Go Go.Proofs
set_option exponentiation.threshold 300
theorem N12.findSelf {l : List Node} (h : N12 l) {n : Int} (hn : isN l n = true) : findN l (node l n).ty = n := by
  obtain ⟨k, hk, rfl, hu, he⟩ := isN_node hn
  rw [he]
  obtain ⟨j, e, hji, hj, huj, htj⟩ := findN_self hk hu
  rw [e]
  refine h.uniq _ _ (isN_of hj huj) hn ?_
  rw [node_eq hj, he]; exact htj
end Go.Eng
namespace Go.Eng
open Go Go.Proofs
set_option exponentiation.threshold 300
/-- The types of a graph's nodes. -/
def typesN (l : List Node) : List (List Int) := (usedN l).map fun n => (node l n).ty
theorem mem_typesN {l : List Node} {t : List Int} : t ∈ typesN l ↔ ∃ n, isN l n = true ∧ (node l n).ty = t := by
  simp only [typesN, List.mem_map, mem_usedN]
theorem usedN_nodup (l : List Node) : (usedN l).Nodup := by
  rw [usedN_eq, List.nodup_iff_pairwise_ne, List.pairwise_map]
  exact (usedIx_nodup l).imp fun hab => by omega
theorem typesN_nodup {l : List Node} (h : N12 l) : (typesN l).Nodup := by
  unfold typesN
  rw [List.nodup_iff_pairwise_ne, List.pairwise_map]
  refine (usedN_nodup l).imp_of_mem fun ha hb hab he => hab (h.uniq _ _ (mem_usedN.1 ha) (mem_usedN.1 hb) he)
theorem of_types {G : PG} (h : RG G) {t : List Int} (hr : Rng t) (he : (ofG G t).2.2 = 0) (x : List Int) : x ∈ typesN (ofG G t).1.nodes ↔ x ∈ typesN G.nodes ∨ x = t := by
  obtain ⟨q1, q2, q3, q4⟩ := (of_alike' h hr).ok he
  obtain ⟨_, _, f3, _⟩ := of_facts h.chg he
  rw [mem_typesN, mem_typesN]
  constructor
  · rintro ⟨n, hn, rfl⟩
    obtain ⟨k, hk, rfl, hu, e⟩ := isN_node hn
    rw [e]
    rcases f3 _ (List.getElem_mem hk) with hm | hm
    · left
      obtain ⟨j, hj, hje⟩ := List.mem_iff_getElem.1 hm
      exact ⟨(j : Int) + 1, isN_of hj (by rw [hje]; exact hu), by rw [node_eq hj, hje]⟩
    · right; rw [hm]
  · rintro (⟨n, hn, rfl⟩ | rfl)
    · exact ⟨n, (q4 n hn).1, (q4 n hn).2⟩
    · exact ⟨_, q2, q3⟩
theorem of_yes {G : PG} (h : RG G) {t : List Int} (hr : Rng t) (h2 : right2 t = true) (hm : G.nodes.length < 4000) : (ofG G t).2.2 = 0 := by
  have hA := (of_alike' h hr).rest
  rw [hA]
  have h3 : right3 t = true := by rw [← right_alike hr]; exact h2
  have hmany := manyN_le G.nodes
  have : ¬ manyN G.nodes = 4000 := by omega
  unfold of12
  rw [ents12_len]
  simp only [h3, this, Bool.true_eq_false, if_false]
  split <;> rfl
theorem of_no {G : PG} {t : List Int} (h2 : right2 t = false) : (ofG G t).2.2 ≠ 0 := by
  simp [ofG, h2]
theorem typesN_new : typesN newG.nodes = [[]] := by decide
/-- Rows in order, with the same types, are one. -/
theorem types_one {l l' : List (List Int)} (h1 : l.Nodup) (h2 : l'.Nodup) (s1 : l.Pairwise fun p q => ¬ cmpL q p < 0) (s2 : l'.Pairwise fun p q => ¬ cmpL q p < 0) (he : ∀ x, x ∈ l ↔ x ∈ l') : l = l' := by
  refine List.Perm.eq_of_pairwise (le := fun p q : List Int => ¬ cmpL q p < 0) ?_ s1 s2 (perm_of_mem h1 h2 he)
  intro a b _ _ h3 h4
  rcases cmpL_tri a b with h | h | h
  · exact absurd h h4
  · exact h
  · exact absurd h h3
end Go.Eng
namespace Go.Eng
open Go Go.RowKit Go.Proofs
set_option maxRecDepth 10000
/-- Types that come of rows. -/
def OfRows (ls : List (List Int)) (l : List (List Int)) : Prop := ∀ x, x ∈ l ↔ x = [] ∨ (x ∈ ls ∧ right2 x = true)
section
variable {w : World} {la : Option Addr} {ln lc : Nat}
set_option maxHeartbeats 2000000
theorem k_GraphOrder1 {hs : List Hd} {ls : List (List Int)} (hr : Row encHd w la ln lc hs) (hall : All2 (fun (r : Hd) l => Row encId w r.a r.n r.c l ∧ Rng l) hs ls) (hn : ln ≤ 6) :
    Cl Tryz.prog 38 #[.slice la ln lc] w (fun v w' => ∃ (g n c : Nat) (ps : List HL), v = .tuple #[.slice (some ⟨g, 0, none⟩) n c, .bool true] ∧ Own encHd 1 33 w.heap.size w' (some ⟨g, 0, none⟩) n c (ps.map (·.1)) ∧ (∀ p ∈ ps, Own encId 1 32 w.heap.size w' p.1.a p.1.n p.1.c p.2) ∧
      (ps.map (·.2)).Nodup ∧ (ps.map (·.2)).Pairwise (fun p q => ¬ cmpL q p < 0) ∧ OfRows ls (ps.map (·.2)) ∧ Below w.heap.size w w') := by
  refine c38 _ _ _ ?_
  unfold V38
  have e1 := hr.len; have f1 := hall.1
  refine k_gNew.mono ?_
  rintro _ w1 ⟨na, nn, nc, nsa, nsn, nsc, rfl, hnd, hne, B1⟩
  refine ⟨_, _, _, _, _, _, rfl, box_grf fun w3 q3 B3 z3 => ?_⟩
  have hD : DG w.heap.size w3 na nn nc nsa nsn nsc newG := DG.below ⟨hnd, hne⟩ B3
  have B03 := B1.trans (B3.mono B1.size)
  have hNl := newG_len
  refine ⟨fun _ _ _ _ _ W => ∃ (ga : Option Addr) (gn gc : Nat) (gsa : Option Addr) (gsn gsc : Nat) (H : PG), Below w.heap.size w W ∧ W.heap[w1.heap.size]? = some (.cells #[.slice ga gn gc, .slice gsa gsn gsc] 27) ∧ DG w.heap.size W ga gn gc gsa gsn gsc H ∧ RG H ∧ H.nodes.length ≤ 7 ∧ H.slots.length ≤ 16004 ∧ OfRows ls (typesN H.nodes), ?_, ?_⟩
  · refine ⟨fun _ _ _ _ i W => ∃ (k : Nat) (ga : Option Addr) (gn gc : Nat) (gsa : Option Addr) (gsn gsc : Nat) (H : PG), i = k ∧ k ≤ ln ∧ Below w.heap.size w W ∧ W.heap[w1.heap.size]? = some (.cells #[.slice ga gn gc, .slice gsa gsn gsc] 27) ∧ DG w.heap.size W ga gn gc gsa gsn gsc H ∧ RG H ∧ H.nodes.length ≤ k + 1 ∧ H.slots.length ≤ 16004 ∧ OfRows (ls.take k) (typesN H.nodes),
      fun _ _ _ _ i _ => ln - i.toNat, ⟨0, _, _, _, _, _, _, newG, rfl, by omega, B03, q3, hD, newG_rg, by decide, hNl, fun x => by rw [typesN_new]; simp⟩, ?_⟩
    clear hD q3 B03 B3 z3 hnd hne
    rintro _ W s22a s22n s22c s32 _ ⟨k, ga, gn, gc, gsa, gsn, gsc, H, rfl, hk, hB, qg, hD, hR, hnl, hsl, hty⟩
    refine cnd (fun hc => ?_) fun hc => ?_
    rotate_left
    · have : k = ln := by have : ¬ k < ln := by simpa using hc
                          omega
      subst this
      rw [take_all (by omega)] at hty
      exact ⟨_, _, _, _, _, _, H, hB, qg, hD, hR, by omega, hsl, hty⟩
    have hkn : k < ln := by simpa using hc
    have hkl : k < ls.length := by omega
    refine (hr.below hB).hdN hkn fun hl => ?_
    obtain ⟨hrow, hrt⟩ := hall.2 k hl hkl
    have htk := take_one hkl
    generalize ls[k] = t at hrow hrt htk
    generalize hs[k] = hd at hrow
    have ht := hrow.below hB
    have hsH : SmallG H := hR.small (by omega) (by omega)
    refine ⟨_, _, _, _, _, _, blk_cell qg 0, blk_cell qg 1, (k_gOf hD.grf hsH ht hrt).mono ?_⟩
    rw [checkG_rg.2 hR, if_pos rfl]
    rintro _ w5 ⟨oa, on, oc, osa, osn, osc, rfl, hod, hoe, B5⟩
    have hO : DG w.heap.size w5 oa on oc osa osn osc (ofG H t).1 := ⟨hod.d.mono hB.size, hoe.mono hB.size⟩
    refine ⟨_, _, _, _, _, _, _, _, rfl, box_grf fun w7 q7 B7 z7 => ?_⟩
    have hO := hO.below B7
    have BW7 := B5.trans (B7.mono B5.size)
    have qg7 := blk_below qg BW7 (blk_lt qg)
    have hB7 := hB.trans (BW7.mono hB.size)
    have ht7 := ht.below BW7
    have hD7 := hD.below BW7
    clear hod hoe B5 B7
    refine cnd (fun he => ?_) fun he => ?_
    · -- no type
      have he' : (ofG H t).2.2 ≠ 0 := by simpa using he
      have h2 : right2 t = false := by
        cases h2 : right2 t with
        | false => rfl
        | true => exact absurd (of_yes hR hrt h2 (by omega)) he'
      refine (k_tCheck ht7).gives fun w8 B8 => ⟨_, rfl, cnd (fun hh => absurd hh (by simp [check2, h2])) fun _ => ?_⟩
      rw [nx (by omega)]
      refine ⟨⟨k + 1, _, _, _, _, _, _, H, rfl, by omega, hB7.trans (B8.mono hB7.size), blk_below qg7 B8 (blk_lt qg7), hD7.below B8, hR, by omega, hsl, fun x => ?_⟩, dec hkn⟩
      rw [hty, htk, List.mem_append, List.mem_singleton]
      constructor
      · rintro (h | ⟨h, h'⟩)
        · exact .inl h
        · exact .inr ⟨.inl h, h'⟩
      · rintro (h | ⟨h | rfl, h'⟩)
        · exact .inl h
        · exact .inr ⟨h, h'⟩
        · rw [h2] at h'; cases h'
    · have he' : (ofG H t).2.2 = 0 := by simpa using he
      have h2 : right2 t = true := by
        cases h2 : right2 t with
        | true => rfl
        | false => exact absurd he' (of_no h2)
      have hA := of_alike' hR hrt
      obtain ⟨a1, a2, a3, a4⟩ := hA.ok he'
      have hlen := hA.len
      have hsO : SmallG (ofG H t).1 := a1.small (by omega) (by omega)
      have hcO := checkG_rg.2 a1
      have hfind := a1.nodes.findSelf a2
      rw [a3] at hfind
      have hpos := isN_ge a2
      have htO := of_types hR hrt he'
      generalize (ofG H t).2.1 = m at *
      generalize (ofG H t).1 = O at *
      refine ⟨_, _, _, _, _, _, blk_cell q7 0, blk_cell q7 1, (k_gFind hO.grf hsO ht7 hrt).gives fun w9 B9 => ⟨_, _, rfl, ?_⟩⟩
      rw [hcO, if_pos rfl, find_alike a1, hfind]
      refine cnd (fun hh => absurd hh (by simp; omega)) fun _ => cnd (fun hh => absurd hh (by simp)) fun _ => ?_
      have q9 := blk_below q7 B9 (blk_lt q7)
      have hO9 := hO.below B9
      refine ⟨_, _, _, _, _, _, blk_cell q9 0, blk_cell q9 1, (k_gCheck hO9.grf hsO).gives fun w10 B10 => ⟨_, rfl, ?_⟩⟩
      rw [hcO]
      have B710 := B9.trans (B10.mono B9.size)
      have q10 := blk_below q9 B10 (blk_lt q9)
      have qg10 := blk_below qg7 B710 (blk_lt qg7)
      have hB10 := hB7.trans (B710.mono hB7.size)
      have hO10 := hO9.below B10
      refine cnd (fun hh => absurd hh (by simp)) fun _ => ⟨_, _, _, _, _, _, blk_cell q10 0, blk_cell q10 1, put2 qg10 fun w11 qg11 f11 B11 z11 e11 => ?_⟩
      rw [nx (by omega)]
      refine ⟨⟨k + 1, _, _, _, _, _, _, O, rfl, by omega, hB10.trans (B11.mono B1.size), qg11, hO10.far2 qg10 e11, a1, by omega, by omega, fun x => ?_⟩, dec hkn⟩
      rw [htO, hty, htk, List.mem_append, List.mem_singleton]
      constructor
      · rintro ((h | ⟨h, h'⟩) | rfl)
        · exact .inl h
        · exact .inr ⟨.inl h, h'⟩
        · exact .inr ⟨.inr rfl, h2⟩
      · rintro (h | ⟨h | rfl, h'⟩)
        · exact .inl (.inl h)
        · exact .inl (.inr ⟨h, h'⟩)
        · exact .inr rfl
  · clear hD q3 B03 B3 z3 hnd hne
    rintro _ w12 s2a s2n s2c s3 s20 ⟨ga, gn, gc, gsa, gsn, gsc, H, hB, qg, hD, hR, hnl, hsl, hty⟩
    have hsH : SmallG H := hR.small (by omega) (by omega)
    have hcH := checkG_rg.2 hR
    refine ⟨_, _, _, _, _, _, blk_cell qg 0, blk_cell qg 1, (k_gUsed hD.grf hsH).mono ?_⟩
    rw [hcH, if_pos rfl]
    rintro _ w13 ⟨ua, un, uc, rfl, hu, B13⟩
    have qg := blk_below qg B13 (blk_lt qg)
    have hg := hD.grf.below B13
    have hB13 := hB.trans (B13.mono hB.size)
    have hur := hu.row
    have hul := hu.len
    have hu7 : un ≤ 7 := by have := manyN_le H.nodes; rw [usedN_len] at hul; omega
    have hun : 0 < un := by
      rw [hul]
      have : (1 : Int) ∈ usedN H.nodes := mem_usedN.2 hR.nodes.one
      exact List.length_pos_of_mem this
    clear hD hu B13 hB
    refine ⟨_, _, _, rfl, fun _ _ _ _ oa on oc i W => Below w13.heap.size w13 W ∧ ∃ (k : Nat) (ps : List HL), i = k ∧ k ≤ un ∧ Own encHd 1 33 w13.heap.size W oa on oc (ps.map (·.1)) ∧ (∀ p ∈ ps, Own encId 1 32 w13.heap.size W p.1.a p.1.n p.1.c p.2) ∧ ps.map (·.2) = (typesN H.nodes).take k,
      fun _ _ _ _ _ _ _ i _ => un - i.toNat, ⟨Below.refl _ _, 0, [], rfl, by omega, Own.nil, by simp, rfl⟩, ?_⟩
    rintro _ W s23a s23n s23c s33 oa on oc _ ⟨hBW, k, ps, rfl, hk, ho, hps, hsnd⟩
    have htl : (typesN H.nodes).length = un := by rw [typesN, List.length_map, hul]
    have hpl : ps.length = k := by have := congrArg List.length hsnd; simp at this; omega
    have hon : on = k := by have := ho.len; simp at this; omega
    refine cnd (fun hc => ?_) fun hc => ?_
    · have hkn : k < un := by simpa using hc
      refine (hur.below hBW).intN hkn fun hl => ?_
      have hin := mem_usedN.1 (List.getElem_mem hl)
      have htk : (typesN H.nodes)[k]'(by omega) = (node H.nodes (usedN H.nodes)[k]).ty := by simp [typesN]
      generalize (usedN H.nodes)[k] = m at hin htk
      have hm64 : I64 m := by have := isN_le hin; simp only [I64]; omega
      have qgW := blk_below qg hBW (blk_lt qg)
      refine ⟨_, _, _, _, _, _, blk_cell qgW 0, blk_cell qgW 1, (k_gType (hg.below hBW) hsH m hm64).mono ?_⟩
      have et : typeG H m = ((node H.nodes m).ty, 0) := by simp [typeG, hcH, hin]
      rw [et]
      rintro _ w15 ⟨ta, tn, tc, rfl, hto, B15⟩
      refine ⟨_, _, _, _, rfl, cnd (fun hh => absurd hh (by simp)) fun _ => ?_⟩
      have hBW15 := hBW.trans (B15.mono hBW.size)
      refine app1 tyRows enHd (ho.below B15) hBW15.size ⟨ta, tn, tc⟩ (by simp only [maxLen]; omega) (by omega) fun a' c' w' ho' hg' => ?_
      have far : ∀ p : HL, Own encId 1 32 w13.heap.size w15 p.1.a p.1.n p.1.c p.2 → Own encId 1 32 w13.heap.size w' p.1.a p.1.n p.1.c p.2 := fun p hp => (ho.below B15).keepOwn hg' hp (by decide)
      rw [nx (by omega)]
      refine ⟨⟨hBW15.trans ((ho.below B15).belowOf hg' hBW15.size), k + 1, ps ++ [(⟨ta, tn, tc⟩, (node H.nodes m).ty)], rfl, by omega, by simpa using ho', ?_, ?_⟩, dec hkn⟩
      · intro p hp
        rcases List.mem_append.1 hp with hp | hp
        · exact far p ((hps p hp).below B15)
        · rw [List.mem_singleton.1 hp]; exact far (⟨ta, tn, tc⟩, (node H.nodes m).ty) (hto.mono hBW.size)
      · rw [List.map_append, hsnd, take_one (by omega), htk]; rfl
    · have hkn : k = un := by have : ¬ k < un := by simpa using hc
                              omega
      subst hkn
      rw [take_all (by omega)] at hsnd
      obtain ⟨g, rfl⟩ : ∃ g, oa = some ⟨g, 0, none⟩ := by
        rcases ho.2.2.2 with ⟨_, hc0⟩ | ⟨g, cs, hga, _⟩
        · have := ho.2.1; omega
        · exact ⟨g, hga⟩
      refine (k_SortRows ho hps (by omega)).mono ?_
      rintro v w18 ⟨rfl, ps', ho', hperm, hsort, hps', B18⟩
      have hp2 := hperm.map (fun p : HL => p.2)
      rw [show ps.map (fun p : HL => p.2) = typesN H.nodes from hsnd] at hp2
      refine ⟨rfl, g, _, _, ps', rfl, ho'.mono hB13.size, fun p hp => (hps' p hp).mono hB13.size, hp2.nodup_iff.2 (typesN_nodup hR.nodes), ?_, fun x => ?_, hB13.trans ((hBW.trans B18).mono hB13.size)⟩
      · rw [List.pairwise_map]; exact hsort
      · rw [hp2.mem_iff]; exact hty x
end
end Go.Eng
namespace Go.Eng
open Go Go.RowKit Go.Proofs
set_option maxRecDepth 10000
theorem min6 (n : Nat) : (if (6 : Int) < (n : Int) then (6 : Int) else (n : Int)) = ((min n 6 : Nat) : Int) := by split <;> omega
theorem turn_cut (turn : Int) {n : Nat} (hn : n ≤ 6) : ∃ k : Nat, k ≤ n ∧ IntKind.i64.wrap (Int.tmod (IntKind.u64.wrap turn) (IntKind.u64.wrap (IntKind.i64.wrap ((n : Int) + 1)))) = (k : Int) := by
  have e1 : IntKind.i64.wrap ((n : Int) + 1) = (n : Int) + 1 := wrap64 (by omega) (by omega)
  have e2 : IntKind.u64.wrap ((n : Int) + 1) = (n : Int) + 1 := wrapu (by omega) (by omega)
  rw [e1, e2]
  have h0 : 0 ≤ IntKind.u64.wrap turn := by rw [IntKind.wrap_u64]; omega
  generalize IntKind.u64.wrap turn = x at h0
  have h1 : 0 ≤ Int.tmod x ((n : Int) + 1) := Int.tmod_nonneg _ h0
  have h2 : Int.tmod x ((n : Int) + 1) < (n : Int) + 1 := Int.tmod_lt_of_pos _ (by omega)
  refine ⟨(Int.tmod x ((n : Int) + 1)).toNat, by omega, ?_⟩
  rw [wrap64 (by omega) (by omega)]; omega
theorem all2_hl {w : World} {lo : Nat} {ps : List HL} (h : ∀ p ∈ ps, Own encId 1 32 lo w p.1.a p.1.n p.1.c p.2) : All2 (fun (r : Hd) l => Row encId w r.a r.n r.c l) (ps.map (·.1)) (ps.map (·.2)) := by
  refine ⟨by simp, fun i h1 h2 => ?_⟩
  have hi : i < ps.length := by simpa using h1
  simp only [List.getElem_map]
  exact (h _ (List.getElem_mem hi)).row
section
variable {w : World} {a : Option Addr} {n c : Nat}
set_option maxHeartbeats 2000000
theorem k_GraphOrder {hs : List Hd} {ls : List (List Int)} (hr : Row encHd w a n c hs) (hall : All2 (fun (r : Hd) l => Row encId w r.a r.n r.c l ∧ Rng l) hs ls) (turn : Int) :
    Cl Tryz.prog 7 #[.slice a n c, .int .i64 turn] w (Gives w (.bool true)) := by
  refine c7 _ _ _ _ ?_
  unfold V7
  have e1 := hr.len; have f1 := hall.1; have hle := hr.le; have hmx := hr.max
  simp only [maxLen] at hmx
  refine k_wWakes.gives fun w1 B1 => ⟨_, rfl, ?_⟩
  rw [min6]
  simp only [Int.toNat_natCast]
  have hm6 : min n 6 ≤ 6 := by omega
  have hmn : min n 6 ≤ n := by omega
  obtain ⟨k, hk, ek⟩ := turn_cut turn hm6
  have hcut := hr.cut 6
  have hallc : All2 (fun (r : Hd) l => Row encId w r.a r.n r.c l ∧ Rng l) (hs.take 6) (ls.take 6) := by
    refine ⟨by simp; omega, fun i h1 h2 => ?_⟩
    simp only [List.getElem_take]
    exact hall.2 i (by simp at h1; omega) (by simp at h2; omega)
  have hcl : (hs.take 6).length = min n 6 := by simp; omega
  have hll : (ls.take 6).length = min n 6 := by simp; omega
  generalize hs.take 6 = hs6 at hcut hallc hcl
  generalize ls.take 6 = ls6 at hallc hll
  rw [ek]
  generalize min n 6 = m at *
  have hz : ¬ IntKind.u64.wrap (IntKind.i64.wrap ((m : Int) + 1)) = 0 := by
    rw [wrap64 (by omega) (by omega), wrapu (by omega) (by omega)]; omega
  refine ⟨by omega, by omega, cnd (fun hh => absurd (of_decide_eq_true hh) hz) fun _ => ?_⟩
  have mono : ∀ {W : World}, Below w.heap.size w W → All2 (fun (r : Hd) l => Row encId W r.a r.n r.c l ∧ Rng l) hs6 ls6 := fun hB => hallc.mono fun r l h => ⟨h.1.below hB, h.2⟩
  refine (k_GraphOrder1 (hcut.below B1) (mono B1) hm6).mono ?_
  rintro _ w2 ⟨g, pn, pc, ps, rfl, ho, hps, nd1, so1, of1, B2⟩
  have B02 := B1.trans (B2.mono B1.size)
  refine ⟨_, _, _, _, rfl, ?_⟩
  rintro w3 rfl
  have hd3 : Below w2.heap.size w2 w2.drew := (Below.refl _ _).drew
  have B03 := B02.trans (hd3.mono B02.size)
  have ho3 := ho.below hd3
  have hps3 := fun p hp => (hps p hp).below hd3
  clear ho hps
  generalize w2.drew = w3 at *
  simp only [Int.toNat_natCast]
  refine ⟨by omega, by omega, by omega, by omega, ?_⟩
  rintro _ w4 rfl h4
  have B4 : Below w3.heap.size w3 w4 := by rw [h4]; exact alloc_below _ _
  have B04 := B03.trans (B4.mono B03.size)
  -- the two rows, each cut off
  have hrow := hcut.below B04
  have hr1 : Row encHd w4 (offA a c k 1) (m - k) (c - k) (hs6.drop k) := ⟨hrow.rd.drop enHd.len k (by omega) (by omega), by omega, fun h0 => by have := hrow.nil (offA_none h0); omega, by simp only [maxLen]; omega⟩
  have hr2 : Row encHd w4 a k c (hs6.take k) := by
    have := hrow.cut k
    rwa [Nat.min_eq_right hk] at this
  have hout : Row encHd w4 (some ⟨w3.heap.size, 0, none⟩) 2 2 [⟨offA a c k 1, m - k, c - k⟩, ⟨a, k, c⟩] := by
    rw [h4]; exact row_new enHd w3 73 [⟨offA a c k 1, m - k, c - k⟩, ⟨a, k, c⟩] (by simp)
  have hall2 : All2 (fun (r : Hd) l => Row encHd w4 r.a r.n r.c l) [⟨offA a c k 1, m - k, c - k⟩, ⟨a, k, c⟩] [hs6.drop k, hs6.take k] := by
    refine ⟨rfl, fun i h1 h2 => ?_⟩
    match i, h1, h2 with
    | 0, _, _ => exact hr1
    | 1, _, _ => exact hr2
  clear h4
  refine (k_ConcatRows hout hall2 (by omega) (by intro l hl; simp at hl; rcases hl with rfl | rfl <;> simp <;> omega)).mono ?_
  rintro _ w5 ⟨xa, xn, xc, rfl, hx, B5⟩
  have B05 := B04.trans (B5.mono B04.size)
  have hfl : [hs6.drop k, hs6.take k].flatten = hs6.drop k ++ hs6.take k := by simp
  rw [hfl] at hx
  have hxl := hx.len
  have hall5 := mono B05
  have hallx : All2 (fun (r : Hd) l => Row encId w5 r.a r.n r.c l ∧ Rng l) (hs6.drop k ++ hs6.take k) (ls6.drop k ++ ls6.take k) := by
    refine ⟨by simp; omega, fun i h1 h2 => ?_⟩
    by_cases hi : i < m - k
    · rw [List.getElem_append_left (by simp; omega), List.getElem_append_left (by simp; omega), List.getElem_drop, List.getElem_drop]
      exact hall5.2 _ _ _
    · rw [List.getElem_append_right (by simp; omega), List.getElem_append_right (by simp; omega), List.getElem_take, List.getElem_take]
      have hi2 : i - (hs6.drop k).length = i - (ls6.drop k).length := by simp; omega
      simp only [hi2]
      exact hall5.2 _ _ _
  refine ⟨_, _, _, rfl, (k_GraphOrder1 hx.row hallx (by simp at hxl; omega)).mono ?_⟩
  rintro _ w6 ⟨g2, qn, qc, qs, rfl, ho6, hqs, nd2, so2, of2, B6⟩
  refine ⟨_, _, _, _, rfl, cnd (fun _ => cnd (fun _ => ?_) fun hh => absurd hh (by simp)) fun hh => absurd hh (by simp)⟩
  have B36 := B4.trans ((B5.trans (B6.mono B5.size)).mono B4.size)
  have ho36 := ho3.below B36
  have hps36 := fun p hp => (hps3 p hp).below B36
  have hsame : ps.map (·.2) = qs.map (·.2) := by
    refine types_one nd1 nd2 so1 so2 fun x => ?_
    rw [of1 x, of2 x]
    have : x ∈ ls6.drop k ++ ls6.take k ↔ x ∈ ls6 := by
      rw [List.mem_append, or_comm, ← List.mem_append, List.take_append_drop]
    rw [this]
  have g1 := all2_hl hps36
  rw [hsame] at g1
  exact (k_EqFRows ho36.row g1 ho6.row (all2_hl hqs)).gives fun w7 B7 => ⟨_, rfl, rfl, B03.trans ((B36.trans (B7.mono B36.size)).mono B03.size)⟩
end
end Go.Eng
namespace Go.Proofs.YtfcnkaignjdpgaaGreat
open Go.ChangeShapes Go.WideShapes Go.ChangeAt Go.RowKit Go.Eng
set_option maxRecDepth 100000 in
theorem graphOrder_lifted (os : Os) (started : os.Started) (H : Type) (enc : TypeId × Value → H) :
    ReturnsInHanded {} Tryz.checked os 7 .any (Rows.graphOrderSpec.pre6 enc Tryz.prog Tryz.f7 Rows.graphOrderRow.domain false) (Rows.graphOrderSpec.post enc Tryz.prog Tryz.f7 false true false false) := by
  refine returnsInHanded_of_change (C := Tryz.checked) own started (by kernel_rfl) Tryz.func7
    (ChangeSpec.witness6 (enc := enc) (C := Tryz.checked) false ⟨#[], #[.slice none 0 0, .int .i64 0], []⟩ 8 (by kernel_rfl) (by kernel_rfl) (by kernel_rfl) (by kernel_rfl)) ?_
  intro W base args ds gs before hval0 hW hcnd _
  have hval : ∀ (j : Nat) t v, Tryz.f7.params[j]? = some t → args[j]? = some v → Value.okWide Tryz.prog W .any base t v := hval0
  have hW' := hW
  obtain ⟨p, q, hA0, hV, rfl, hfz, hnd⟩ := hW
  have hA : DataW.TrodAll enc Tryz.prog W 0 (fun _ => true) true Tryz.f7.params.toList args.toList ds p := hA0
  rw [Tryz.params7] at hA hval
  obtain ⟨v0, v1, d0, d1, p0, p1, rfl, rfl, rfl, h0, h1⟩ := trodAll_two hA
  obtain ⟨rfl, rfl⟩ := trodVars_none hV
  clear hA0 hval0
  simp only [List.append_nil] at hW'
  have hlt : ∀ x ∈ p0 ++ p1, x.block < W.heap.size := fun x hx => by simpa using hW'.lt x hx
  obtain ⟨rd, e0, hs, hr, ls, hall⟩ := arg_slice (e := 33) (by kernel_rfl) opens_rows (hval 0 73 v0 rfl rfl) h0
  have h1k := h1
  obtain ⟨m, e1, _, _, wm⟩ := open_int (k := .i64) (by kernel_rfl) (hval 1 3 v1 rfl rfl) h1
  subst e0; subst e1
  refine (k_GraphOrder hr hall m).2.mono fun e W' ⟨v, he, hv, hB⟩ => ?_
  subst he; subst hv
  refine ⟨_, rfl, _, _, _, [], p0 ++ p1, [], hW', trodAll_mk1 (shut_bool (by kernel_rfl) true), trodAll_mk2 (Below.trod laidOut (by kernel_rfl) (of_decide_eq_true (by kernel_rfl)) h0 hB fun x hx => hlt x (List.mem_append.2 (.inl hx))) (Below.trod laidOut (by kernel_rfl) (of_decide_eq_true (by kernel_rfl)) h1k hB fun x hx => hlt x (List.mem_append.2 (.inr hx))), rfl, hB.frame _, fun h => by cases h⟩
theorem graphOrder_holds : Rows.GraphOrderSaid :=
  OpenClaim.holds_of_wide 7 Tryz.f7 rfl rfl rfl rfl rfl rfl rfl ⟨rfl, rfl, rfl, rfl, rfl⟩ rfl rfl rfl rfl rfl (by kernel_rfl) Tryz.func7 (by kernel_rfl)
    (of_decide_eq_true (by kernel_rfl)) (by unfold Func.isWrapper; rw [if_neg (of_decide_eq_false (by kernel_rfl))]; exact ⟨rfl, rfl⟩)
    (fun os started H enc _ => graphOrder_lifted os started H enc)
end Go.Proofs.YtfcnkaignjdpgaaGreat
