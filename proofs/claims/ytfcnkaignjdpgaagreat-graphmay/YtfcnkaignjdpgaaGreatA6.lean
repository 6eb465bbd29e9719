/- Part 6 of the proof of GraphMaySaid. What is proved: what a call of each function leaves. Conditions: those that each theorem names. -/
import Derived.Test.YtfcnkaignjdpgaaGreatA5
import Derived.Shelf.SlSortCmp.WholeK
set_option linter.unusedVariables false
set_option linter.unusedSimpArgs false
set_option linter.unusedSectionVars false
namespace Go.Eng
open Go Go.RowKit Go.Proofs
set_option maxRecDepth 10000
/-- Entries in order with one more. -/
def with7 {α : Type} (key : α → List Int) : List α → α → List α
  | [], x => [x]
  | y :: l, x => if cmpL (key x) (key y) < 0 then x :: y :: l else y :: with7 key l x
theorem with7_take {α : Type} (key : α → List Int) : ∀ (l : List α) (x : α) (k : Nat), (∀ j (h : j < l.length), j < k → ¬ cmpL (key x) (key l[j]) < 0) → k ≤ l.length → with7 key l x = l.take k ++ with7 key (l.drop k) x
  | l, x, 0, _, _ => by simp
  | [], x, k + 1, _, h => by simp at h
  | y :: l, x, k + 1, h, hk => by
    have h0 := h 0 (by simp) (by omega)
    simp only [List.getElem_cons_zero] at h0
    simp only [with7, if_neg h0, List.take_succ_cons, List.drop_succ_cons, List.cons_append]
    rw [with7_take key l x k (fun j hj hjk => h (j + 1) (by simpa using hj) (by omega)) (by simpa using hk)]
theorem with7_map {α β : Type} (f : α → β) (key : β → List Int) : ∀ (l : List α) (x : α), (with7 (fun a => key (f a)) l x).map f = with7 key (l.map f) (f x)
  | [], x => rfl
  | y :: l, x => by
    simp only [with7, List.map_cons]
    split
    · rfl
    · rw [List.map_cons, with7_map f key l x]
theorem with7_length {α : Type} (key : α → List Int) : ∀ (l : List α) (x : α), (with7 key l x).length = l.length + 1
  | [], x => rfl
  | y :: l, x => by
    simp only [with7]
    split
    · simp
    · simp [with7_length key l x]
theorem with7_mem {α : Type} (key : α → List Int) : ∀ (l : List α) (x z : α), z ∈ with7 key l x ↔ z = x ∨ z ∈ l
  | [], x, z => by simp [with7]
  | y :: l, x, z => by
    simp only [with7]
    split
    · simp
    · simp [with7_mem key l x z, or_left_comm]
/-- What lies, and what it says, side by side. -/
abbrev EP := REnt × Entry
def epKey (p : EP) : List Int := p.2.ty
section
variable {w : World} {a : Option Addr} {n c : Nat} {ps : List EP} {x : EP}
theorem k_r07With (h : Row encEnt w a n c (ps.map (·.1))) (hps : ∀ p ∈ ps, IsEnt w p.1 p.2) (hx : IsEnt w x.1 x.2) (hs : n ≤ 1048570) :
    Cl Tryz.prog 99 #[.slice a n c, .agg (encEnt x.1).toArray] w (Made encEnt 3 94 w ((with7 epKey ps x).map (·.1))) := by
  refine c99 _ _ _ x.1.st x.1.ty.a x.1.ty.n x.1.ty.c x.1.num ?_
  obtain rfl : n = ps.length := by have := h.len; simpa using this
  rintro _ w1 rfl h1
  have z1 : w1.heap.size = w.heap.size + 1 := by rw [h1, size_alloc]
  have q1 : w1.heap[w.heap.size]? = some (.cells #[.int .i64 x.1.st, .slice x.1.ty.a x.1.ty.n x.1.ty.c, .int .i64 x.1.num] 94) := by rw [h1]; exact blk_new _
  have B1 : Below w.heap.size w w1 := by rw [h1]; exact alloc_below _ _
  clear h1
  refine ⟨fun oa on oc laid i W => (Below w.heap.size w W ∧ w1.heap.size ≤ W.heap.size ∧ W.heap[w.heap.size]? = some (.cells #[.int .i64 x.1.st, .slice x.1.ty.a x.1.ty.n x.1.ty.c, .int .i64 x.1.num] 94)) ∧
      ∃ (k : Nat) (part : List EP), i = k ∧ k ≤ ps.length ∧ part.length ≤ k + 1 ∧ Own encEnt 3 94 w1.heap.size W oa on oc (part.map (·.1)) ∧
        (laid = false → part = ps.take k ∧ ∀ j (hj : j < ps.length), j < k → ¬ cmpL (epKey x) (epKey ps[j]) < 0) ∧ (laid = true → part ++ ps.drop k = with7 epKey ps x), fun _ _ _ _ i _ => ps.length - i.toNat,
    ⟨⟨B1, Nat.le_refl _, q1⟩, 0, [], rfl, by omega, by simp, Own.nil, fun _ => ⟨by simp, by intros; omega⟩, fun h => by cases h⟩, ?_⟩
  rintro _ W oa on oc laid _ ⟨⟨hB, hz, q⟩, k, part, rfl, hk, hpl, ho, hl0, hl1⟩
  have hon : on = part.length := by have := ho.len; simpa using this
  refine cnd (fun hc => ?_) fun hc => ?_
  · have hkn : k < ps.length := by simpa using hc
    refine (h.below hB).entN hkn fun hl => box_ent fun w4 s4 B4' => ?_
    have e0 : (ps.map (·.1))[k] = ps[k].1 := by simp
    rw [e0] at s4
    have B4 := hB.trans (B4'.mono hB.size)
    have hz4 := Nat.le_trans hz B4'.size
    have q4 := blk_below q B4' (blk_lt q)
    have ho4 := ho.below B4'
    have y := hps ps[k] (List.getElem_mem _)
    rw [nx (by omega)]
    -- one more, behind
    have one : ∀ (r : EP) {oa on oc} {W : World} {part : List EP}, Below w.heap.size w W → w1.heap.size ≤ W.heap.size → Own encEnt 3 94 w1.heap.size W oa on oc (part.map (·.1)) → part.length ≤ 1048575 → ∀ {K : Option Addr → Nat → Nat → World → Prop},
        (∀ a' c' w', Own encEnt 3 94 w1.heap.size w' a' (on + 1) c' ((part ++ [r]).map (·.1)) → W.grownBy w' (oa.map (·.block)) → Below w.heap.size w w' → w1.heap.size ≤ w'.heap.size → K a' (on + 1) c' w') →
        ∀ (b : Nat) (w2 : World), b = W.heap.size → w2 = W.alloc (.cells #[.int .i64 r.1.st, .slice r.1.ty.a r.1.ty.n r.1.ty.c, .int .i64 r.1.num] 94) →
        ∃ (a' : Option Addr) (n' c' : Nat) (w' : World), Sem.run Tryz.prog (Builtin.append_ #[23, 23] 23 #[.slice oa on oc, .slice (some (Addr.mk b 0 none)) 1 1]) w2 = .ok (.slice a' n' c') w' ∧ K a' n' c' w' := by
      intro r oa on oc W part hB hz ho hlen K hK
      have hon : on = part.length := by have := ho.len; simpa using this
      exact app1 tyEnts enEnt ho hz r.1 (by simp only [maxLen]; omega) (by omega) fun a' c' w' ho' hg => hK a' c' w' (by rw [List.map_append]; exact ho') hg (hB.trans ((ho.belowOf hg hz).mono (by omega))) (Nat.le_trans hz hg.size)
    have blk5 : ∀ {oa : Option Addr} {on oc b : Nat} {W W' : World} {L : List REnt} {cs : Array Value}, Own encEnt 3 94 w1.heap.size W oa on oc L → W.grownBy W' (oa.map (·.block)) → (∀ p, oa = some p → p.block ≠ b) → W.heap[b]? = some (.cells cs 94 (0, 0)) → W'.heap[b]? = some (.cells cs 94 (0, 0)) := by
      intro oa on oc b W W' L cs ho hg hne hb
      refine (hg.block b (blk_lt hb) ?_).trans hb
      intro heq
      cases oa with
      | none => simp at heq
      | some p => simp at heq; exact hne p rfl heq.symm
    have hdk : ps.drop k = ps[k] :: ps.drop (k + 1) := List.drop_eq_getElem_cons hkn
    refine cnd (fun g => ?_) fun g => ?_
    · have hf : laid = false := by simpa using g
      obtain ⟨rfl, hno⟩ := hl0 hf
      refine ⟨_, _, _, blk_cell q4 1, _, _, _, blk_cell s4 1, (k_r03Compare (hx.ty.below B4) (y.ty.below B4)).is ⟨_, rfl, cnd (fun g2 => ?_) fun g2 => ?_⟩⟩
      · have hlt : cmpL (epKey x) (epKey ps[k]) < 0 := of_decide_eq_true g2
        refine ⟨_, _, _, _, _, blk_cell q4 0, blk_cell q4 1, blk_cell q4 2, one x B4 hz4 ho4 (by omega) fun a5 c5 w5 ho5 hg5 B5 hz5 => ?_⟩
        have s5 := blk5 ho4 hg5 (fun p hp => by have := (ho.lt hp).2; omega) s4
        have q5 := ho4.keepBlk hg5 q4 (.inr (by omega))
        refine ⟨_, _, _, _, _, blk_cell s5 0, blk_cell s5 1, blk_cell s5 2, one ps[k] B5 hz5 ho5 (by simp; omega) fun a6 c6 w6 ho6 hg6 B6 hz6 => ?_⟩
        refine ⟨⟨⟨B6, hz6, ho5.keepBlk hg6 q5 (.inr (by omega))⟩, k + 1, _, rfl, by omega, by simp; omega, ho6, (fun h => by cases h), fun _ => ?_⟩, dec hkn⟩
        rw [with7_take epKey ps x k hno hk, hdk]
        simp [with7, hlt]
      · have hge : ¬ cmpL (epKey x) (epKey ps[k]) < 0 := of_decide_eq_false g2
        refine ⟨_, _, _, _, _, blk_cell s4 0, blk_cell s4 1, blk_cell s4 2, one ps[k] B4 hz4 ho4 (by omega) fun a5 c5 w5 ho5 hg5 B5 hz5 => ?_⟩
        refine ⟨⟨⟨B5, hz5, ho4.keepBlk hg5 q4 (.inr (by omega))⟩, k + 1, _, rfl, by omega, by simp; omega, ho5, fun _ => ⟨by rw [take_one hkn], fun j hj hjk => ?_⟩, fun h => by rw [hf] at h; cases h⟩, dec hkn⟩
        by_cases hjk' : j = k
        · subst hjk'; exact hge
        · exact hno j hj (by omega)
    · have hf : laid = true := by simpa using g
      refine ⟨_, _, _, _, _, blk_cell s4 0, blk_cell s4 1, blk_cell s4 2, one ps[k] B4 hz4 ho4 (by omega) fun a5 c5 w5 ho5 hg5 B5 hz5 => ?_⟩
      refine ⟨⟨⟨B5, hz5, ho4.keepBlk hg5 q4 (.inr (by omega))⟩, k + 1, _, rfl, by omega, by simp; omega, ho5, (fun h => by rw [hf] at h; cases h), fun _ => ?_⟩, dec hkn⟩
      rw [← hl1 hf, hdk]; simp
  · have hkn : k = ps.length := by
      have : ¬ k < ps.length := by simpa using hc
      omega
    subst hkn
    refine cnd (fun g => ?_) fun g => ?_
    · have hf : laid = false := by simpa using g
      obtain ⟨rfl, hno⟩ := hl0 hf
      refine ⟨_, _, _, _, _, blk_cell q 0, blk_cell q 1, blk_cell q 2, app1 tyEnts enEnt ho hz x.1 (by simp only [maxLen]; omega) (by omega) fun a' c' w' ho' hg => ?_⟩
      refine ⟨_, _, _, rfl, ?_, hB.trans ((ho.belowOf hg hz).mono (by omega))⟩
      rw [with7_take epKey ps x ps.length hno (Nat.le_refl _), List.drop_length, List.map_append]
      exact ho'.mono (by omega)
    · have hf : laid = true := by simpa using g
      have := hl1 hf
      rw [List.drop_length, List.append_nil] at this
      exact ⟨_, _, _, rfl, by rw [← this]; exact ho.mono (by omega), hB⟩
end
end Go.Eng
namespace Go.Eng
open Go Go.RowKit Go.Proofs
set_option maxRecDepth 10000
theorem Ents.pairs {w : World} {a : Option Addr} {n c : Nat} {l : List Entry} (h : Ents w a n c l) : ∃ ps : List EP, Row encEnt w a n c (ps.map (·.1)) ∧ (∀ p ∈ ps, IsEnt w p.1 p.2) ∧ ps.map (·.2) = l := by
  obtain ⟨rs, h1, h2⟩ := h
  have hl := h2.1
  refine ⟨rs.zip l, ?_, ?_, ?_⟩
  · rw [List.map_fst_zip (by omega)]; exact h1
  · intro p hp
    obtain ⟨i, hi, rfl⟩ := List.mem_iff_getElem.1 hp
    simp only [List.length_zip] at hi
    simpa using h2.2 i (by omega) (by omega)
  · rw [List.map_snd_zip (by omega)]
theorem all2_pairs {w : World} {ps : List EP} (h : ∀ p ∈ ps, IsEnt w p.1 p.2) : All2 (IsEnt w) (ps.map (·.1)) (ps.map (·.2)) :=
  ⟨by simp, fun i h1 h2 => by simp at h1; simpa using h _ (List.getElem_mem h1)⟩
/-- All entries that are used, in order. -/
def all7 {α : Type} (st : α → Int) (key : α → List Int) (l : List α) : List α := (l.filter fun p => st p == 1).foldl (fun acc p => with7 key acc p) []
theorem foldl7_map {α β : Type} (f : α → β) (key : β → List Int) : ∀ (l acc : List α), ((l.foldl (fun acc p => with7 (fun a => key (f a)) acc p) acc).map f) = (l.map f).foldl (fun acc p => with7 key acc p) (acc.map f)
  | [], acc => rfl
  | x :: l, acc => by simp only [List.foldl_cons, List.map_cons]; rw [foldl7_map f key l, with7_map]
theorem all7_map {α β : Type} (f : α → β) (st : β → Int) (key : β → List Int) (l : List α) : (all7 (fun a => st (f a)) (fun a => key (f a)) l).map f = all7 st key (l.map f) := by
  unfold all7
  rw [foldl7_map, List.filter_map]
  rfl
section
variable {w : World} {a : Option Addr} {n c : Nat} {l : List Entry}
theorem foldl7_mem {α : Type} (key : α → List Int) : ∀ (l acc : List α) (z : α), z ∈ l.foldl (fun acc p => with7 key acc p) acc → z ∈ acc ∨ z ∈ l
  | [], acc, z, h => .inl h
  | x :: l, acc, z, h => by
    rcases foldl7_mem key l _ z h with h | h
    · rcases (with7_mem key acc x z).1 h with rfl | h
      · exact .inr (by simp)
      · exact .inl h
    · exact .inr (by simp [h])
theorem foldl7_len {α : Type} (key : α → List Int) : ∀ (l acc : List α), (l.foldl (fun acc p => with7 key acc p) acc).length = acc.length + l.length
  | [], acc => rfl
  | x :: l, acc => by simp only [List.foldl_cons]; rw [foldl7_len key l, with7_length]; simp; omega
def acc7 (ps : List EP) : List EP := (ps.filter fun p => p.2.st == 1).foldl (fun acc p => with7 epKey acc p) []
theorem acc7_snoc (ps : List EP) (p : EP) : acc7 (ps ++ [p]) = if (p.2.st == 1) = true then with7 epKey (acc7 ps) p else acc7 ps := by
  unfold acc7
  rw [List.filter_append, List.foldl_append]
  by_cases h : (p.2.st == 1) = true <;> simp [h]
theorem acc7_mem {ps : List EP} {z : EP} (h : z ∈ acc7 ps) : z ∈ ps := by
  rcases foldl7_mem epKey _ _ z h with h | h
  · simp at h
  · exact (List.mem_filter.1 h).1
theorem acc7_len (ps : List EP) : (acc7 ps).length ≤ ps.length := by
  unfold acc7; rw [foldl7_len]; have := List.length_filter_le (fun p : EP => p.2.st == 1) ps; simp; omega
theorem k_r07All (h : Ents w a n c l) (hs : n ≤ 1048000) : Cl Tryz.prog 50 #[.agg #[.slice a n c]] w (fun v w' => ∃ a' n' c', v = .slice a' n' c' ∧ OwnEnts w.heap.size w' a' n' c' (all7 Entry.st Entry.ty l) ∧ Below w.heap.size w w') := by
  refine c50 _ _ _ ?_
  obtain ⟨ps, hrow, hps, rfl⟩ := h.pairs
  obtain rfl : n = ps.length := by have := hrow.len; simpa using this
  rintro _ w1 rfl h1
  have q1 : w1.heap[w.heap.size]? = some (.cells #[.slice a ps.length c] 25) := by rw [h1]; exact blk_new _
  have B1 : Below w.heap.size w w1 := by rw [h1]; exact alloc_below _ _
  clear h1
  refine ⟨_, _, _, blk_cell q1 0, fun oa on oc i W => Below w.heap.size w W ∧ ∃ k : Nat, i = k ∧ k ≤ ps.length ∧ Own encEnt 3 94 w.heap.size W oa on oc ((acc7 (ps.take k)).map (·.1)), fun _ _ _ i _ => ps.length - i.toNat, ⟨B1, 0, rfl, by omega, Own.nil⟩, ?_⟩
  rintro _ W oa on oc _ ⟨hB, k, rfl, hk, ho⟩
  refine cnd (fun hc => ?_) fun hc => ?_
  · have hkn : k < ps.length := by simpa using hc
    refine (hrow.below hB).entN hkn fun hl => box_ent fun w4 s4 B4' => ?_
    have e0 : (ps.map (·.1))[k] = ps[k].1 := by simp
    rw [e0] at s4
    have B4 := hB.trans (B4'.mono hB.size)
    have ho4 := ho.below B4'
    have y := hps ps[k] (List.getElem_mem _)
    have hlen := acc7_len (ps.take k)
    have hon := ho.len
    simp only [List.length_map, List.length_take] at hon hlen
    rw [nx (by omega)]
    refine ⟨_, blk_cell s4 0, cnd (fun g => ?_) fun g => ?_⟩
    · have g' : (ps[k].2.st == 1) = true := by rw [← y.st]; exact g
      refine ⟨_, _, _, _, _, blk_cell s4 0, blk_cell s4 1, blk_cell s4 2, (k_r07With (x := ps[k]) ho4.row (fun p hp => (hps p (List.mem_of_mem_take (acc7_mem hp))).below B4) (y.below B4) (by omega)).mono ?_⟩
      rintro _ w5 ⟨a5, n5, c5, rfl, ho5, B5⟩
      refine ⟨_, _, _, rfl, ⟨B4.trans (B5.mono B4.size), k + 1, rfl, by omega, ?_⟩, dec hkn⟩
      rw [take_one hkn, acc7_snoc, if_pos g']; exact ho5.mono B4.size
    · have g' : ¬ (ps[k].2.st == 1) = true := by rw [← y.st, g]; simp
      refine ⟨⟨B4, k + 1, rfl, by omega, ?_⟩, dec hkn⟩
      rw [take_one hkn, acc7_snoc, if_neg g']; exact ho4
  · have hkn : ¬ k < ps.length := by simpa using hc
    rw [take_all (by omega)] at ho
    refine ⟨_, _, _, rfl, ⟨_, ho, ?_⟩, hB⟩
    have hm := all7_map (fun p : EP => p.2) Entry.st Entry.ty ps
    rw [← hm]
    exact all2_pairs fun p hp => (hps p (acc7_mem hp)).below hB
end
end Go.Eng
namespace Go.Eng
open Go Go.Proofs
theorem cmpL_refl : ∀ l : List Int, cmpL l l = 0
  | [] => rfl
  | x :: l => by simp [cmpL, cmpL_refl l]
theorem cmpL_eq : ∀ {a b : List Int}, cmpL a b = 0 → a = b
  | [], [], _ => rfl
  | [], _ :: _, h => by simp [cmpL] at h
  | _ :: _, [], h => by simp [cmpL] at h
  | x :: a, y :: b, h => by
    simp only [cmpL] at h
    split at h
    · simp at h
    · split at h
      · simp at h
      · rw [cmpL_eq h, show x = y by omega]
theorem cmpL_swap : ∀ a b : List Int, cmpL a b = - cmpL b a
  | [], [] => rfl
  | [], _ :: _ => rfl
  | _ :: _, [] => rfl
  | x :: a, y :: b => by
    simp only [cmpL]
    by_cases h1 : x < y
    · have : ¬ y < x := by omega
      simp [h1, this]
    · by_cases h2 : y < x
      · simp [h1, h2]
      · simp only [h1, h2, if_false]; exact cmpL_swap a b
theorem cmpL_trans : ∀ {a b c : List Int}, cmpL a b < 0 → cmpL b c < 0 → cmpL a c < 0
  | [], [], _, h, _ => by simp [cmpL] at h
  | _ :: _, [], _, h, _ => by simp [cmpL] at h
  | _, _ :: _, [], _, h => by simp [cmpL] at h
  | [], _ :: _, _ :: _, _, _ => by simp [cmpL]
  | x :: a, y :: b, z :: c, h1, h2 => by
    simp only [cmpL] at h1 h2 ⊢
    split at h1
    · split at h2
      · rw [if_pos (by omega)]; decide
      · split at h2
        · simp at h2
        · rw [if_pos (by omega)]; decide
    · split at h1
      · simp at h1
      · split at h2
        · rw [if_pos (by omega)]; decide
        · split at h2
          · simp at h2
          · rw [if_neg (by omega), if_neg (by omega)]; exact cmpL_trans h1 h2
theorem cmpL_tri (a b : List Int) : cmpL a b < 0 ∨ a = b ∨ cmpL b a < 0 := by
  rcases Int.lt_trichotomy (cmpL a b) 0 with h | h | h
  · exact .inl h
  · exact .inr (.inl (cmpL_eq h))
  · exact .inr (.inr (by rw [cmpL_swap]; omega))
theorem cmpL_asym {a b : List Int} (h : cmpL a b < 0) : ¬ cmpL b a < 0 := by rw [cmpL_swap]; omega
theorem swo_cmpL {α : Type} (key : α → List Int) : Go.Sort.SWO (ltOf fun x y : α => cmpL (key x) (key y)) where
  irrefl x := by simp [ltOf, cmpL_refl]
  trans x y z h1 h2 := by
    simp only [ltOf, decide_eq_true_eq] at *
    exact cmpL_trans h1 h2
  ntrans x y z h1 h2 := by
    simp only [ltOf, decide_eq_false_iff_not] at *
    intro h3
    rcases cmpL_tri (key x) (key y) with h | h | h
    · exact h1 h
    · rw [h] at h3; exact h2 h3
    · exact h2 (cmpL_trans h h3)
end Go.Eng
namespace Go.Eng
open Go Go.RowKit Go.Proofs
set_option maxRecDepth 10000
/-- The entry of a node. -/
def entN (l : List Node) (k : Nat) : Entry := ⟨1, (node l ((k : Int) + 1)).ty, (k : Int) + 1⟩
/-- The types of the used nodes, as a lookup says them. -/
def entsTo (l : List Node) : Nat → List Entry
  | 0 => []
  | k + 1 => if (node l ((k : Int) + 1)).used = true then with7 Entry.ty (entsTo l k) (entN l k) else entsTo l k
def ents12 (l : List Node) : List Entry := entsTo l l.length
theorem entsTo_len (l : List Node) : ∀ k, (entsTo l k).length ≤ k
  | 0 => Nat.le_refl _
  | k + 1 => by
    have := entsTo_len l k
    simp only [entsTo]; split
    · rw [with7_length]; omega
    · omega
section
variable {w : World} {a : Option Addr} {n c : Nat} {l : List Node}
theorem k_r12Entries (h : Nodes w a n c l) (hs : n ≤ 1048000) : Cl Tryz.prog 51 #[.slice a n c] w (fun v w' => ∃ a' n' c', v = .slice a' n' c' ∧ OwnEnts w.heap.size w' a' n' c' (ents12 l) ∧ Below w.heap.size w w') := by
  obtain ⟨rs, hrow, hall⟩ := h
  have el := hall.1
  obtain rfl : n = l.length := by have := hrow.len; omega
  refine c51 _ _ _ ⟨fun oa on oc i W => Below w.heap.size w W ∧ ∃ (k : Nat) (acc : List EP), i = k ∧ k ≤ l.length ∧ Own encEnt 3 94 w.heap.size W oa on oc (acc.map (·.1)) ∧ acc.map (·.2) = entsTo l k ∧ ∀ p ∈ acc, IsEnt w p.1 p.2, fun _ _ _ i _ => l.length - i.toNat, ⟨Below.refl _ _, 0, [], rfl, by omega, Own.nil, rfl, by simp⟩, ?_⟩
  rintro _ W oa on oc _ ⟨hB, k, acc, rfl, hk, ho, hacc, hin⟩
  have hal : acc.length ≤ k := by have := entsTo_len l k; rw [← hacc] at this; simpa using this
  have hon : on = acc.length := by have := ho.len; simpa using this
  refine cnd (fun hc => ?_) fun hc => ?_
  · have hkn : k < l.length := by simpa using hc
    refine (hrow.below hB).nodeN hkn fun hl => box_node fun w3 s3 B3' => ?_
    have x := hall.2 k hl hkn
    have B3 := hB.trans (B3'.mono hB.size)
    have ho3 := ho.below B3'
    rw [nx (by omega)]
    refine ⟨_, blk_cell s3 0, cnd (fun g => ?_) fun g => ?_⟩
    · have g' : (node l ((k : Int) + 1)).used = true := by rw [node_eq hkn, ← x.used]; exact g
      have hx : IsEnt w (⟨1, rs[k].ty, ((k + 1 : Nat) : Int)⟩ : REnt) (entN l k) := by
        refine ⟨rfl, by simp [entN], by simpa [entN, node_eq hkn] using x.ty, ?_, by simp [entN, I64], by simp only [entN, I64]; omega⟩
        simpa [entN, node_eq hkn] using x.rng.1
      refine ⟨_, _, _, blk_cell s3 1, (k_r07With (x := (⟨⟨1, rs[k].ty, ((k + 1 : Nat) : Int)⟩, entN l k⟩ : EP)) ho3.row (fun p hp => (hin p hp).below B3) (hx.below B3) (by omega)).mono ?_⟩
      rintro _ w5 ⟨a5, n5, c5, rfl, ho5, B5⟩
      refine ⟨_, _, _, rfl, ⟨B3.trans (B5.mono B3.size), k + 1, _, rfl, by omega, ho5.mono B3.size, ?_, ?_⟩, dec hkn⟩
      · have hm := with7_map (fun p : EP => p.2) Entry.ty acc (⟨⟨1, rs[k].ty, ((k + 1 : Nat) : Int)⟩, entN l k⟩ : EP)
        simp only [entsTo, if_pos g', ← hacc]
        exact hm
      · intro p hp
        rcases (with7_mem epKey _ _ p).1 hp with rfl | hp
        · exact hx
        · exact hin p hp
    · have g' : ¬ (node l ((k : Int) + 1)).used = true := by rw [node_eq hkn, ← x.used, g]; simp
      exact ⟨⟨B3, k + 1, acc, rfl, by omega, ho3, by simp only [entsTo, if_neg g']; exact hacc, hin⟩, dec hkn⟩
  · have hkn : ¬ k < l.length := by simpa using hc
    obtain rfl : k = l.length := by omega
    refine ⟨_, _, _, rfl, ⟨_, ho, ?_⟩, hB⟩
    rw [ents12, ← hacc]
    exact all2_pairs fun p hp => (hin p hp).below hB
end
end Go.Eng
namespace Go.Eng
open Go Go.RowKit
section
variable {α : Type} [Inhabited α] {enc : α → List Value} {k : Nat} {e : TypeId} {lo : Nat} {w : World} {g n c : Nat} {l : List α}
theorem flatK_get (hk : ∀ x, (enc x).length = k) (hk0 : 0 < k) {l : List α} {j : Nat} (hj : j < l.length * k) : (Go.Sort.flatK enc k l.toArray)[j]! = ((l.flatMap enc)[j]?).getD default := by
  have hdiv : j / k < l.length := Nat.div_lt_of_lt_mul (by rw [Nat.mul_comm]; exact hj)
  have hmod : j % k < k := Nat.mod_lt _ hk0
  rw [Go.Sort.get_flatK _ _ _ _ (by simpa using hj)]
  have h1 := flat_get hk l (j / k) (j % k) hdiv hmod
  rw [Nat.mul_comm, Nat.div_add_mod] at h1
  rw [h1]
  have h2 : (l.toArray)[j / k]! = l[j / k] := by simp [hdiv]
  rw [h2]
  simp [hk, hmod]
theorem own_cell (hk : ∀ x, (enc x).length = k) {cs : Array Value} (hsz : n * k ≤ cs.size) (hn : n = l.length) (ht : cs.toList.take (n * k) = l.flatMap enc) {j : Nat} (hj : j < n * k) : cs[j]? = (l.flatMap enc)[j]? := by
  rw [← ht, List.getElem?_take, if_pos hj, Array.getElem?_toList]
theorem holdsK_of_own (hk : ∀ x, (enc x).length = k) (hk0 : 0 < k) (h : Own enc k e lo w (some ⟨g, 0, none⟩) n c l) : Go.Sort.HoldsK enc k w g 0 l.toArray := by
  obtain ⟨hn, hnc, _, h4⟩ := h
  rcases h4 with ⟨h0, _⟩ | ⟨g', cs, ha, hlo, hg, hsz, ht⟩
  · cases h0
  · cases ha
    intro j hj
    rw [Go.Sort.size_flatK] at hj
    simp only [List.size_toArray] at hj
    have hj' : j < n * k := by rw [hn]; exact hj
    have hle : n * k ≤ cs.size := Nat.le_trans (Nat.mul_le_mul_right _ hnc) hsz
    refine ⟨?_, blk_free hg _⟩
    rw [Nat.zero_add, blk_cell hg, own_cell hk hle hn ht hj', flatK_get hk hk0 hj]
    have : j < (l.flatMap enc).length := by rw [length_flat hk]; exact hj
    rw [List.getElem?_eq_getElem this]; rfl
end
end Go.Eng
namespace Go.Eng
open Go Go.RowKit Go.Proofs
section
variable {α : Type} [Inhabited α] {enc : α → List Value} {k : Nat} {e : TypeId} {lo : Nat} {w : World} {g n c : Nat} {l : List α}
theorem sort_heap {d : Array α} {m : Nat} {os : Array Obj} {b : Nat} (hb : b < w.heap.size) :
    (sortWorldK enc k w g 0 m d os).heap[b]? = if g = b then (w.heap[b]?).map (Go.Sort.onCells (Go.Sort.putCells id 0 (Go.Sort.flatK enc k d))) else w.heap[b]? := by
  unfold sortWorldK
  rw [Go.Sort.heap_grow_old _ _ (by simp only [Go.Sort.putRowK, Go.Sort.putRow, Go.Sort.mapBlock, Array.size_modify]; exact hb)]
  simp only [Go.Sort.putRowK, Go.Sort.putRow, Go.Sort.mapBlock, Array.getElem?_modify]
  split <;> rfl
theorem sort_size {d : Array α} {m : Nat} {os : Array Obj} : w.heap.size ≤ (sortWorldK enc k w g 0 m d os).heap.size := by
  unfold sortWorldK
  rw [Go.Sort.size_grow]
  simp only [Go.Sort.putRowK, Go.Sort.putRow, Go.Sort.mapBlock, Array.size_modify]
  exact Nat.le_add_right _ _
theorem sort_grown {d : Array α} {m : Nat} {os : Array Obj} : w.grownBy (sortWorldK enc k w g 0 m d os) (some g) :=
  ⟨rfl, rfl, rfl, sort_size, fun b hb hne => by rw [sort_heap hb, if_neg (by rintro rfl; exact hne rfl)]⟩
theorem own_of_sort (hk : ∀ x, (enc x).length = k) (hk0 : 0 < k) (h : Own enc k e lo w (some ⟨g, 0, none⟩) n c l) {d : Array α} (hd : d.size = n) {m : Nat} {os : Array Obj} :
    Own enc k e lo (sortWorldK enc k w g 0 m d os) (some ⟨g, 0, none⟩) n c d.toList := by
  obtain ⟨hn, hnc, hmx, h4⟩ := h
  rcases h4 with ⟨h0, _⟩ | ⟨g', cs, ha, hlo, hg, hsz, ht⟩
  · cases h0
  · cases ha
    have hle : n * k ≤ cs.size := Nat.le_trans (Nat.mul_le_mul_right _ hnc) hsz
    refine ⟨by simp [hd], hnc, hmx, .inr ⟨g, Go.Sort.putCells id 0 (Go.Sort.flatK enc k d) cs, rfl, hlo, ?_, ?_, ?_⟩⟩
    · rw [sort_heap (blk_lt hg), if_pos rfl, hg]; rfl
    · simp only [Go.Sort.putCells, Array.size_mapIdx]; exact hsz
    · apply List.ext_getElem?
      intro j
      rw [List.getElem?_take]
      by_cases hj : j < n * k
      · rw [if_pos hj, Array.getElem?_toList]
        have hjs : j < cs.size := by omega
        have hjd : j < d.toList.length * k := by simpa [hd] using hj
        have h1 := flatK_get hk hk0 (l := d.toList) hjd
        have hjl : j < (d.toList.flatMap enc).length := by rw [length_flat hk]; exact hjd
        rw [List.getElem?_eq_getElem hjl] at h1 ⊢
        simp only [Go.Sort.putCells, Array.getElem?_mapIdx, Array.getElem?_eq_getElem hjs, Option.map_some, Go.Sort.size_flatK, hd, Nat.zero_le, true_and, Nat.zero_add, if_pos hj, Nat.sub_zero, id]
        simpa using h1
      · rw [if_neg hj, List.getElem?_eq_none]
        rw [length_flat hk]; simpa [hd] using hj
end
end Go.Eng
namespace Go.Eng
open Go Go.RowKit Go.Proofs
set_option maxRecDepth 10000
theorem Own.map {α β : Type} {enc : β → List Value} {f : α → β} {k : Nat} {e : TypeId} {lo : Nat} {w : World} {a : Option Addr} {n c : Nat} {l : List α} : Own enc k e lo w a n c (l.map f) ↔ Own (fun x => enc (f x)) k e lo w a n c l := by
  unfold Own
  rw [List.length_map, List.flatMap_map]
abbrev EPW (w0 : World) := {p : EP // IsEnt w0 p.1 p.2}
theorem epw {w0 : World} : ∀ (ps : List EP), (∀ p ∈ ps, IsEnt w0 p.1 p.2) → ∃ d : List (EPW w0), d.map (·.1) = ps
  | [], _ => ⟨[], rfl⟩
  | p :: ps, h => by
    obtain ⟨d, hd⟩ := epw ps fun q hq => h q (List.mem_cons_of_mem _ hq)
    exact ⟨⟨p, h p (List.mem_cons_self ..)⟩ :: d, by rw [List.map_cons, hd]⟩
section
variable {w : World} {a : Option Addr} {n c : Nat} {ps : List EP}
theorem k_SortEnts {w0 : World} {g lo : Nat} (B0 : Below w0.heap.size w0 w) (hg : w0.heap.size ≤ g) (ho : Own encEnt 3 94 lo w (some ⟨g, 0, none⟩) n c (ps.map (·.1))) (hlo : lo ≤ g) (hps : ∀ p ∈ ps, IsEnt w0 p.1 p.2) (hs : n ≤ 1048576) :
    Cl Tryz.prog 165 #[.slice (some ⟨g, 0, none⟩) n c, .func (.func 151) #[] #[]] w (fun v w' => v = undef ∧ ∃ ps' : List EP, Own encEnt 3 94 lo w' (some ⟨g, 0, none⟩) n c (ps'.map (·.1)) ∧ ps'.Perm ps ∧ ps'.Pairwise (fun p q => ¬ cmpL q.2.ty p.2.ty < 0) ∧ Below lo w w') := by
  have hgl : g < w.heap.size := (ho.lt rfl).2
  have L := Tryz.sortEnt
  refine ⟨L.f6.enters rfl, ?_⟩
  haveI : Inhabited (EPW w0) := ⟨⟨((⟨0, ⟨none, 0, 0⟩, 0⟩ : REnt), (⟨0, [], 0⟩ : Entry)), rfl, rfl, Row.nil', fun x hx => by simp at hx, by simp [I64], by simp [I64]⟩⟩
  obtain ⟨d, hd⟩ := epw ps hps
  have hn : n = ps.length := by have := ho.len; simpa using this
  have hdl : d.length = n := by rw [hn, ← hd, List.length_map]
  have ho' : Own (fun x : EPW w0 => encEnt x.1.1) 3 94 lo w (some ⟨g, 0, none⟩) n c d := by
    have := ho
    rw [← hd, List.map_map] at this
    exact Own.map.1 this
  have hH := holdsK_of_own (fun x : EPW w0 => enEnt.len x.1.1) (by decide) ho'
  have hcmp : CmpLays Tryz.prog 151 #[] (fun x : EPW w0 => encEnt x.1.1) 3 (fun x y : EPW w0 => cmpL x.1.2.ty y.1.2.ty) g 0 d.toArray.size w := by
    intro m os dk hdk x y
    have B : Below w0.heap.size w0 (sortWorldK (fun x : EPW w0 => encEnt x.1.1) 3 w g 0 m dk os) := B0.grown sort_grown B0.size (fun k e => by cases e; exact hg)
    refine ((k_lused1 (x.2.ty.below B) (y.2.ty.below B)).2).mono ?_
    rintro e w' ⟨v, rfl, rfl, o1, o2, rfl⟩
    refine ⟨rfl, 0, #[o1, o2], ?_⟩
    rw [Go.Sort.alloc_eq_grow, Go.Sort.alloc_eq_grow, Go.Sort.grow_grow]; rfl
  have hsz : d.toArray.size = n := by simpa using hdl
  have key := AnyQ.slices_SortFunc L 3 (fun w => Tryz.isAgg94 w) (fun w => Tryz.sizeOf94 w) (fun x : EPW w0 => encEnt x.1.1) (fun x => enEnt.len x.1.1) (fun x => enEnt.one x.1.1) (fun x y : EPW w0 => cmpL x.1.2.ty y.1.2.ty) (swo_cmpL _) 151 #[] g 0 c d.toArray w
    (ent_of Tryz.func151 (by kernel_rfl) rfl) hcmp hH hgl (by omega)
  rw [hsz] at key
  refine key.mono ?_
  rintro e w' ⟨rfl, d', m, os, hperm, hsort, rfl⟩
  have hd'n : d'.size = n := by rw [hperm.1, hsz]
  refine ⟨_, rfl, rfl, d'.toList.map (·.1), ?_, ?_, ?_, (Below.refl lo w).grown sort_grown (by omega) (fun k e => by cases e; exact hlo)⟩
  · have := own_of_sort (d := d') (m := m) (os := os) (fun x : EPW w0 => enEnt.len x.1.1) (by decide) ho' hd'n
    rw [List.map_map]
    exact Own.map.2 this
  · have h2 := hperm.2.2
    rw [← hsz] at h2
    have e1 : (d'.extract 0 d.toArray.size).toList = d'.toList := by rw [show d.toArray.size = d'.size by omega]; simp
    have e2 : (d.toArray.extract 0 d.toArray.size).toList = d := by simp
    rw [e1, e2] at h2
    have := h2.map (·.1)
    rwa [hd] at this
  · rw [List.pairwise_map, List.pairwise_iff_getElem]
    intro i j hi hj hij
    have := hsort i j (Nat.zero_le _) hij (by simpa [hd'n] using hj)
    simp only [ltOf, decide_eq_false_iff_not] at this
    simpa [getElem!_pos d' i (by simpa using hi), getElem!_pos d' j (by simpa using hj)] using this
theorem k_lsorted (h : Row encEnt w a n c (ps.map (·.1))) (hps : ∀ p ∈ ps, IsEnt w p.1 p.2) (hs : n ≤ 1048576) :
    Cl Tryz.prog 150 #[.slice a n c, .func (.func 151) #[] #[]] w (fun v w' => ∃ (g : Nat) (ps' : List EP), v = .slice (some ⟨g, 0, none⟩) n n ∧ Own encEnt 3 94 w.heap.size w' (some ⟨g, 0, none⟩) n n (ps'.map (·.1)) ∧ ps'.Perm ps ∧ ps'.Pairwise (fun p q => ¬ cmpL q.2.ty p.2.ty < 0) ∧ Below w.heap.size w w') := by
  refine c150 _ _ _ 151 [] (cloned_ok tyEnts enEnt h.rd h.n63 (by omega) fun g w' hg ho hB => ?_)
  refine (k_SortEnts hB (by omega) ho (by omega) hps hs).mono ?_
  rintro v w3 ⟨rfl, ps', ho3, hp, hsrt, B3⟩
  exact ⟨rfl, g, ps', rfl, ho3, hp, hsrt, hB.trans B3⟩
end
end Go.Eng
namespace Go.Eng
open Go Go.RowKit
variable {α : Type}
theorem flat_set1 {enc : α → List Value} {k : Nat} (hk : ∀ x, (enc x).length = k) : ∀ (l : List α) (i j : Nat) (hi : i < l.length) (hj : j < k) (v : Value) (x : α), enc x = (enc l[i]).set j v → (l.set i x).flatMap enc = (l.flatMap enc).set (i * k + j) v
  | y :: l, 0, j, hi, hj, v, x, hx => by
    simp only [List.getElem_cons_zero] at hx
    simp only [List.set_cons_zero, List.flatMap_cons, Nat.zero_mul, Nat.zero_add]
    rw [hx, List.set_append_left _ _ (by rw [hk]; exact hj)]
  | y :: l, i + 1, j, hi, hj, v, x, hx => by
    simp only [List.getElem_cons_succ] at hx
    simp only [List.set_cons_succ, List.flatMap_cons]
    rw [List.set_append_right _ _ (by rw [hk, Nat.add_mul]; omega), hk, flat_set1 hk l i j (by simpa using hi) hj v x hx]
    congr 2
    rw [Nat.add_mul]; omega
section
variable {enc : α → List Value} {k : Nat} {e : TypeId} {lo : Nat} {w : World} {a : Option Addr} {n c : Nat} {l : List α}
/-- A cell of an element is put, in a row of one's own. -/
theorem Own.put1 (E : En enc k) (h : Own enc k e lo w a n c l) {i j : Nat} (hi : i < n) (hj : j < k) (v : Value) (x : α) (hx : ∀ hl : i < l.length, enc x = (enc l[i]).set j v) :
    ∃ g, a = some ⟨g, 0, none⟩ ∧ lo ≤ g ∧ (w.cell? ((Addr.add ⟨g, 0, none⟩ (i * k)).add j)).isSome = true ∧ w.frozen? ((Addr.add ⟨g, 0, none⟩ (i * k)).add j) = false ∧
      Own enc k e lo (w.setCell ((Addr.add ⟨g, 0, none⟩ (i * k)).add j) v) a n c (l.set i x) ∧ w.grownBy (w.setCell ((Addr.add ⟨g, 0, none⟩ (i * k)).add j) v) (some g) ∧ (∃ cs, w.heap[g]? = some (.cells cs e (0, 0))) := by
  have hnl := h.1
  rcases h.2.2.2 with ⟨ha, hc⟩ | ⟨g, cs, ha, hlo, hg, hsz, ht⟩
  · have := h.2.1; omega
  · have hle : i * k + k ≤ n * k := by
      have : (i + 1) * k ≤ n * k := Nat.mul_le_mul_right _ hi
      rw [Nat.add_mul] at this; omega
    have hnc : n * k ≤ c * k := Nat.mul_le_mul_right _ h.2.1
    have had : (Addr.add ⟨g, 0, none⟩ (i * k)).add j = ⟨g, i * k + j, none⟩ := by rw [Addr.add_lit, Nat.zero_add, Addr.add_lit]
    refine ⟨g, ha, hlo, ?_⟩
    rw [had]
    refine ⟨blk_some hg (by omega), blk_free hg _, ⟨by simp [hnl], h.2.1, h.2.2.1, .inr ⟨g, _, ha, hlo, blk_set hg _ v, by simpa using hsz, ?_⟩⟩, ⟨rfl, rfl, rfl, by simp, fun b hb hne => Below.heap_setCell _ _ _ _ (by rintro rfl; exact hne rfl)⟩, cs, hg⟩
    rw [flat_set1 E.len l i j (by omega) hj v x (hx (by omega)), ← ht, Array.toList_setIfInBounds, List.take_set]
end
end Go.Eng
namespace Go.Eng
open Go Go.RowKit Go.Proofs
set_option maxRecDepth 10000
/-- What an entry says but for its type. -/
structure EntSays (r : REnt) (e : Entry) : Prop where
  st : r.st = e.st
  num : r.num = e.num
  rng : Rng e.ty ∧ I64 e.st ∧ I64 e.num
theorem IsEnt.says {w : World} {r : REnt} {e : Entry} (h : IsEnt w r e) : EntSays r e := ⟨h.st, h.num, h.rng⟩
theorem EntSays.is {w : World} {r : REnt} {e : Entry} (h : EntSays r e) (ht : Row encId w r.ty.a r.ty.n r.ty.c e.ty) : IsEnt w r e := ⟨h.st, h.num, ht, h.rng⟩
/-- A row of ids in memory of one's own. -/
abbrev OwnTy (lo : Nat) (w : World) (h : Hd) (l : List Int) : Prop := Own encId 1 32 lo w h.a h.n h.c l
/-- Entries in memory of one's own, their types too. -/
def DEnts (lo : Nat) (w : World) (a : Option Addr) (n c : Nat) (l : List Entry) : Prop :=
  ∃ qs : List EP, qs.map (·.2) = l ∧ Own encEnt 3 94 lo w a n c (qs.map (·.1)) ∧ ∀ p ∈ qs, EntSays p.1 p.2 ∧ OwnTy lo w p.1.ty p.2.ty
theorem DEnts.ents {lo : Nat} {w : World} {a : Option Addr} {n c : Nat} {l : List Entry} (h : DEnts lo w a n c l) : Ents w a n c l := by
  obtain ⟨qs, rfl, ho, hq⟩ := h
  exact ⟨_, ho.row, all2_pairs fun p hp => (hq p hp).1.is (hq p hp).2.row⟩
theorem DEnts.below {lo : Nat} {w w' : World} {a : Option Addr} {n c : Nat} {l : List Entry} (h : DEnts lo w a n c l) (hB : Below w.heap.size w w') : DEnts lo w' a n c l := by
  obtain ⟨qs, rfl, ho, hq⟩ := h
  exact ⟨qs, rfl, ho.below hB, fun p hp => ⟨(hq p hp).1, (hq p hp).2.below hB⟩⟩
theorem DEnts.mono {lo lo' : Nat} {w : World} {a : Option Addr} {n c : Nat} {l : List Entry} (h : DEnts lo w a n c l) (hl : lo' ≤ lo) : DEnts lo' w a n c l := by
  obtain ⟨qs, rfl, ho, hq⟩ := h
  exact ⟨qs, rfl, ho.mono hl, fun p hp => ⟨(hq p hp).1, (hq p hp).2.mono hl⟩⟩
theorem DEnts.len {lo : Nat} {w : World} {a : Option Addr} {n c : Nat} {l : List Entry} (h : DEnts lo w a n c l) : n = l.length := by
  obtain ⟨qs, rfl, ho, hq⟩ := h
  have := ho.len; simpa using this
theorem tyIdEnt : (94 : TypeId) ≠ 32 := by decide
section
variable {w : World} {a : Option Addr} {n c : Nat} {l : List Entry}
theorem k_lused (h : Ents w a n c l) (hn : n ≤ 1048576) (hty : ∀ e ∈ l, e.st = 1 → e.ty.length ≤ 12) : Cl Tryz.prog 119 #[.agg #[.slice a n c]] w (fun v w' => ∃ a' n' c' l', v = .slice a' n' c' ∧ l'.Perm (l.filter fun e => e.st == 1) ∧ l'.Pairwise (fun p q => ¬ cmpL q.ty p.ty < 0) ∧ DEnts w.heap.size w' a' n' c' l' ∧ Below w.heap.size w w') := by
  refine c119 _ _ _ ?_
  obtain ⟨ps, hrow, hps, rfl⟩ := h.pairs
  rintro _ w1 rfl h1
  have q1 : w1.heap[w.heap.size]? = some (.cells #[.slice a n c] 25) := by rw [h1]; exact blk_new _
  have B1 : Below w.heap.size w w1 := by rw [h1]; exact alloc_below _ _
  clear h1
  refine ⟨_, _, _, blk_cell q1 0, (k_lsorted (hrow.below B1) (fun p hp => (hps p hp).below B1) hn).mono ?_⟩
  rintro _ w2 ⟨g, ps', rfl, ho, hperm, hsort, B2'⟩
  have B2 := B1.trans (B2'.mono B1.size)
  refine ⟨_, _, _, rfl, (k_DelEnts (cf := []) (p := fun r => r.st != 1) (ho.mono B1.size) B2.size hn (fun W r => k_lused2)).mono ?_⟩
  rintro _ w3 ⟨m, rfl, ho3, B3'⟩
  have hps' : ∀ p ∈ ps', IsEnt w p.1 p.2 := fun p hp => hps p (hperm.mem_iff.1 hp)
  have hfil : (ps'.map (·.1)).filter (fun r => !(r.st != 1)) = (ps'.filter fun p => p.2.st == 1).map (·.1) := by
    rw [List.filter_map]
    congr 1
    refine List.filter_congr fun p hp => ?_
    show (!(p.1.st != 1)) = (p.2.st == 1)
    rw [(hps' p hp).st]; unfold bne; exact Bool.not_not _
  rw [hfil] at ho3
  generalize hqs0 : (ps'.filter fun p => p.2.st == 1) = qs0 at ho3
  have hqs0m : ∀ p ∈ qs0, IsEnt w p.1 p.2 ∧ p.2.ty.length ≤ 12 := by
    intro p hp
    rw [← hqs0, List.mem_filter] at hp
    exact ⟨hps' p hp.1, hty p.2 (List.mem_map.2 ⟨p, hperm.mem_iff.1 hp.1, rfl⟩) (by simpa using hp.2)⟩
  have hm : m = qs0.length := by have := ho3.len; simpa using this
  refine ⟨_, _, _, rfl, fun i W => Below w.heap.size w W ∧ ∃ (k : Nat) (qs : List EP), i = k ∧ k ≤ m ∧ qs.map (·.2) = qs0.map (·.2) ∧ Own encEnt 3 94 w.heap.size W (some ⟨g, 0, none⟩) m n (qs.map (·.1)) ∧ (∀ p ∈ qs, EntSays p.1 p.2) ∧
      (∀ j (hj : j < qs.length), j < k → OwnTy w.heap.size W qs[j].1.ty qs[j].2.ty) ∧ (∀ j (hj : j < qs.length), k ≤ j → Row encId w qs[j].1.ty.a qs[j].1.ty.n qs[j].1.ty.c qs[j].2.ty ∧ qs[j].2.ty.length ≤ 12), fun i _ => m - i.toNat,
    ⟨B2.trans B3', 0, qs0, rfl, by omega, rfl, ho3, fun p hp => (hqs0m p hp).1.says, fun j hj h => by omega, fun j hj _ => ⟨(hqs0m _ (List.getElem_mem hj)).1.ty, (hqs0m _ (List.getElem_mem hj)).2⟩⟩, ?_⟩
  rintro _ W _ ⟨hB, k, qs, rfl, hk, hsnd, ho, hsay, hown, hrest⟩
  have hql : qs.length = m := by have := congrArg List.length hsnd; simp at this; omega
  refine cnd (fun hc => ?_) fun hc => ?_
  · have hkm : k < m := by simpa using hc
    refine ho.row.entTy hkm fun hl => ?_
    have hkq : k < qs.length := by omega
    have e0 : (qs.map (·.1))[k] = qs[k].1 := by simp
    obtain ⟨hr, hr12⟩ := hrest k hkq (Nat.le_refl _)
    rw [e0]
    refine (k_CloneIds (hr.below hB) (by have := hr.len; omega)).mono ?_
    rintro _ w5 ⟨a5, n5, c5, rfl, ho5, B5⟩
    have hB5 := hB.trans (B5.mono hB.size)
    obtain ⟨g', hga, hgl, hc1, hc2, hput, hgr, cs, hgb⟩ := (ho.below B5).put1 enEnt (i := k) (j := 1) hkm (by decide) (.slice a5 n5 c5) ⟨qs[k].1.st, ⟨a5, n5, c5⟩, qs[k].1.num⟩ (fun hl => by simp [encEnt])
    cases hga
    refine ⟨_, _, _, rfl, _, rfl, by omega, by omega, ?_⟩
    rw [Int.toNat_natCast]
    refine ⟨hc1, hc2, ?_⟩
    rintro w6 h6
    rw [← h6] at hput hgr
    have hm63 := ho3.2.1
    rw [nx (by omega)]
    have far : ∀ {a' : Option Addr} {n' c' : Nat} {l' : List Int}, Own encId 1 32 w.heap.size w5 a' n' c' l' → Own encId 1 32 w.heap.size w6 a' n' c' l' := by
      intro a' n' c' l' ho'
      rw [h6]
      have := ho'.far hgb tyIdEnt (j := k * 3 + 1) (.slice a5 n5 c5)
      rw [Addr.add_lit, Nat.zero_add, Addr.add_lit]
      exact this
    refine ⟨⟨hB5.grown hgr hB5.size (fun b e => by cases e; exact hgl), k + 1, qs.set k (⟨qs[k].1.st, ⟨a5, n5, c5⟩, qs[k].1.num⟩, qs[k].2), rfl, by omega, ?_, ?_, ?_, ?_, ?_⟩, dec hkm⟩
    · rw [List.map_set, ← hsnd]
      exact List.ext_getElem? fun j => by
        rw [List.getElem?_set]
        split
        · rename_i hkj; subst hkj; simp [hkq]
        · rfl
    · rw [List.map_set]; exact hput
    · intro p hp
      rcases List.mem_or_eq_of_mem_set hp with hp | rfl
      · exact hsay p hp
      · have := hsay _ (List.getElem_mem hkq); exact ⟨this.st, this.num, this.rng⟩
    · intro j hj hjk
      rw [List.getElem_set]
      split
      · exact far (ho5.mono hB.size)
      · rename_i hne
        exact far ((hown j (by simpa using hj) (by omega)).below B5)
    · intro j hj hjk
      rw [List.getElem_set_ne (by omega)]
      exact hrest j (by simpa using hj) (by omega)
  · have hkm : ¬ k < m := by simpa using hc
    refine ⟨_, _, _, qs.map (·.2), rfl, ?_, ?_, ⟨qs, rfl, ho, fun p hp => ⟨hsay p hp, ?_⟩⟩, hB⟩
    · rw [hsnd, ← hqs0]
      have := (hperm.map (fun p : EP => p.2)).filter (fun e => e.st == 1)
      rwa [List.filter_map] at this
    · rw [hsnd, ← hqs0, List.pairwise_map]
      exact hsort.filter _
    · obtain ⟨j, hj, rfl⟩ := List.mem_iff_getElem.1 hp
      exact hown j hj (by omega)
end
end Go.Eng
namespace Go.Eng
open Go Go.Proofs
theorem with7_perm {α : Type} (key : α → List Int) : ∀ (l : List α) (x : α), (with7 key l x).Perm (x :: l)
  | [], x => .refl _
  | y :: l, x => by
    simp only [with7]
    split
    · exact .refl _
    · exact ((with7_perm key l x).cons y).trans (.swap x y l)
theorem with7_sorted {α : Type} (key : α → List Int) : ∀ {l : List α} {x : α}, l.Pairwise (fun p q => ¬ cmpL (key q) (key p) < 0) → (with7 key l x).Pairwise (fun p q => ¬ cmpL (key q) (key p) < 0)
  | [], x, _ => List.pairwise_singleton _ _
  | y :: l, x, h => by
    simp only [with7]
    obtain ⟨h1, h2⟩ := List.pairwise_cons.1 h
    split
    · rename_i hlt
      refine List.pairwise_cons.2 ⟨fun z hz => ?_, h⟩
      rcases List.mem_cons.1 hz with rfl | hz
      · exact cmpL_asym hlt
      · intro h3
        have := cmpL_trans h3 hlt
        exact h1 z hz this
    · rename_i hge
      refine List.pairwise_cons.2 ⟨fun z hz => ?_, with7_sorted key h2⟩
      rcases (with7_mem key l x z).1 hz with rfl | hz
      · exact hge
      · exact h1 z hz
theorem foldl7_perm {α : Type} (key : α → List Int) : ∀ (l acc : List α), (l.foldl (fun acc p => with7 key acc p) acc).Perm (l ++ acc)
  | [], acc => .refl _
  | x :: l, acc => by
    simp only [List.foldl_cons]
    refine (foldl7_perm key l _).trans ?_
    refine ((with7_perm key acc x).append_left l).trans ?_
    exact List.perm_middle
theorem foldl7_sorted {α : Type} (key : α → List Int) : ∀ (l acc : List α), acc.Pairwise (fun p q => ¬ cmpL (key q) (key p) < 0) → (l.foldl (fun acc p => with7 key acc p) acc).Pairwise (fun p q => ¬ cmpL (key q) (key p) < 0)
  | [], acc, h => h
  | x :: l, acc, h => foldl7_sorted key l _ (with7_sorted key h)
theorem all7_perm {α : Type} (st : α → Int) (key : α → List Int) (l : List α) : (all7 st key l).Perm (l.filter fun p => st p == 1) := by
  have := foldl7_perm key (l.filter fun p => st p == 1) []
  rwa [List.append_nil] at this
theorem all7_sorted {α : Type} (st : α → Int) (key : α → List Int) (l : List α) : (all7 st key l).Pairwise (fun p q => ¬ cmpL (key q) (key p) < 0) := foldl7_sorted key _ _ .nil
theorem all7_len {α : Type} (st : α → Int) (key : α → List Int) (l : List α) : (all7 st key l).length ≤ l.length := by
  rw [(all7_perm st key l).length_eq]; exact List.length_filter_le _ _
/-- Who has the same key is the same. -/
def KeyInj (l : List Entry) : Prop := ∀ x ∈ l, ∀ y ∈ l, x.st = 1 → y.st = 1 → x.ty = y.ty → x = y
theorem all7_eq {l l' : List Entry} (hk : KeyInj l) (hp : l'.Perm (l.filter fun e => e.st == 1)) (hs : l'.Pairwise (fun p q => ¬ cmpL q.ty p.ty < 0)) : l' = all7 Entry.st Entry.ty l := by
  refine List.Perm.eq_of_pairwise (le := fun p q => ¬ cmpL q.ty p.ty < 0) ?_ hs (all7_sorted _ _ _) (hp.trans (all7_perm _ _ _).symm)
  intro a b ha hb h1 h2
  have ha' := hp.mem_iff.1 ha
  have hb' := (all7_perm Entry.st Entry.ty l).mem_iff.1 hb
  rw [List.mem_filter] at ha' hb'
  rcases cmpL_tri a.ty b.ty with h | h | h
  · exact absurd h h2
  · exact hk a ha'.1 b hb'.1 (by simpa using ha'.2) (by simpa using hb'.2) h
  · exact absurd h h1
theorem checkL_ok {l : List Entry} (h : checkL l = true) : preL l = true ∧ ∀ i, i < l.length → slotOk l i = true := by
  simp only [checkL, Bool.and_eq_true, List.all_eq_true, List.mem_range] at h
  exact h
theorem checkL_used {l : List Entry} (h : checkL l = true) {i : Nat} (hi : i < l.length) (hst : l[i].st = 1) : right2 l[i].ty = true ∧ 0 ≤ l[i].num ∧ place l l[i].ty = (i : Int) := by
  have := (checkL_ok h).2 i hi
  rw [slotOk, slot_eq hi, if_pos hst] at this
  simpa [and_assoc] using this
theorem checkL_inj {l : List Entry} (h : checkL l = true) : KeyInj l := by
  intro x hx y hy h1 h2 hxy
  obtain ⟨i, hi, rfl⟩ := List.mem_iff_getElem.1 hx
  obtain ⟨j, hj, rfl⟩ := List.mem_iff_getElem.1 hy
  have e1 := (checkL_used h hi h1).2.2
  have e2 := (checkL_used h hj h2).2.2
  rw [hxy, e2] at e1
  have : i = j := by omega
  subst this; rfl
theorem checkL_12 {l : List Entry} (h : checkL l = true) : ∀ e ∈ l, e.st = 1 → e.ty.length ≤ 12 := by
  intro e he hst
  obtain ⟨i, hi, rfl⟩ := List.mem_iff_getElem.1 he
  exact (right2_sorted (checkL_used h hi hst).1).2
/-- All entries of a lookup. -/
def allL (l : List Entry) : List Entry := if checkL l = true then all7 Entry.st Entry.ty l else []
end Go.Eng
namespace Go.Eng
open Go Go.RowKit Go.Proofs
set_option maxRecDepth 10000
theorem DEnts.nil {lo : Nat} {w : World} : DEnts lo w none 0 0 [] := ⟨[], rfl, Own.nil, by simp⟩
section
variable {w : World} {a : Option Addr} {n c : Nat} {l : List Entry}
theorem k_lused' (h : Ents w a n c l) (hn : n ≤ 1048576) (hc : checkL l = true) : Cl Tryz.prog 119 #[.agg #[.slice a n c]] w (fun v w' => ∃ a' n' c', v = .slice a' n' c' ∧ DEnts w.heap.size w' a' n' c' (all7 Entry.st Entry.ty l) ∧ Below w.heap.size w w') := by
  refine (k_lused h hn (checkL_12 hc)).mono ?_
  rintro _ w' ⟨a', n', c', l', rfl, hp, hs, hd, hB⟩
  rw [all7_eq (checkL_inj hc) hp hs] at hd
  exact ⟨_, _, _, rfl, hd, hB⟩
theorem k_lAll (h : Ents w a n c l) (hn : n ≤ 1048576) : Cl Tryz.prog 84 #[.agg #[.slice a n c]] w (fun v w' => ∃ a' n' c', v = .slice a' n' c' ∧ DEnts w.heap.size w' a' n' c' (allL l) ∧ Below w.heap.size w w') := by
  refine c84 _ _ _ ?_
  rintro _ w1 rfl h1
  have q1 : w1.heap[w.heap.size]? = some (.cells #[.slice a n c] 25) := by rw [h1]; exact blk_new _
  have B1 : Below w.heap.size w w1 := by rw [h1]; exact alloc_below _ _
  clear h1
  refine ⟨_, _, _, blk_cell q1 0, (k_lCheck (h.below B1) hn).gives fun w2 B2' => ⟨_, rfl, ?_⟩⟩
  have B2 := B1.trans (B2'.mono B1.size)
  have q2 := blk_below q1 B2' (blk_lt q1)
  cases hc : checkL l with
  | false => exact ⟨_, _, _, rfl, by rw [allL, hc]; exact DEnts.nil, B2⟩
  | true =>
    refine ⟨_, _, _, blk_cell q2 0, (k_lused' (h.below B2) hn hc).mono ?_⟩
    rintro _ w3 ⟨a3, n3, c3, rfl, hd, B3⟩
    exact ⟨_, _, _, rfl, _, _, _, rfl, by rw [allL, if_pos hc]; exact hd.mono B2.size, B2.trans (B3.mono B2.size)⟩
theorem k_lMany (h : Ents w a n c l) (hn : n ≤ 1048576) : Cl Tryz.prog 76 #[.agg #[.slice a n c]] w (Gives w (.int .i64 ((allL l).length : Nat))) := by
  refine c76 _ _ _ ?_
  rintro _ w1 rfl h1
  have q1 : w1.heap[w.heap.size]? = some (.cells #[.slice a n c] 25) := by rw [h1]; exact blk_new _
  have B1 : Below w.heap.size w w1 := by rw [h1]; exact alloc_below _ _
  clear h1
  refine ⟨_, _, _, blk_cell q1 0, (k_lAll (h.below B1) hn).mono ?_⟩
  rintro _ w2 ⟨a2, n2, c2, rfl, hd, B2⟩
  exact ⟨_, _, _, rfl, by rw [hd.len], B1.trans (B2.mono B1.size)⟩
end
end Go.Eng
namespace Go.Eng
open Go Go.RowKit Go.Proofs
set_option maxRecDepth 10000
def freeAt (l : List Entry) (t : List Int) (k : Nat) : Bool := (slot l (probe (hashT t) l.length k)).st == 0
/-- An entry is laid into the first free slot of its type's turns. -/
def layL (l : List Entry) (x : Entry) : List Entry :=
  match (List.range l.length).find? (freeAt l x.ty) with
  | some k => l.set (probe (hashT x.ty) l.length k) x
  | none => l
theorem layL_len (l : List Entry) (x : Entry) : (layL l x).length = l.length := by
  unfold layL; split <;> simp
theorem ownFrom_own {α β : Type} {enc : α → List Value} {k : Nat} {e : TypeId} {lo B : Nat} {a : Option Addr} {n c : Nat} {l : List α} : OwnFrom B fun (_ : β) W => Own enc k e lo W a n c l := by
  intro s W W' row h hg hr
  exact h.keep fun g cs _ _ hgg => ownFrom_blk (β := Unit) () W W' row hgg hg hr
theorem ownFrom_grown {β : Type} {B : Nat} {w : World} {r0 : Option Nat} (hw : w.heap.size ≤ B) : OwnFrom B fun (_ : β) W => w.grownBy W r0 := by
  intro s W W' row h hg hr
  refine ⟨hg.os.trans h.os, hg.tape.trans h.tape, hg.output.trans h.output, Nat.le_trans h.size hg.size, fun b hb hne => ?_⟩
  refine (hg.block b (by have := h.size; omega) ?_).trans (h.block b hb hne)
  rintro rfl
  have := (hr b rfl).1; omega
section
variable {w : World} {a : Option Addr} {n c lo : Nat} {qs : List EP} {x : EP}
theorem k_llaid1 {c0 : Nat} (hc0 : w.heap[c0]? = some (.cells #[.slice a n c] 25)) (ho : Own encEnt 3 94 lo w a n c (qs.map (·.1))) (hlo : lo ≤ w.heap.size) (hqs : ∀ p ∈ qs, EntSays p.1 p.2) (hx : EntSays x.1 x.2) (hxt : Row encId w x.1.ty.a x.1.ty.n x.1.ty.c x.2.ty) (hn : n ≤ 1048576) :
    Cl Tryz.prog 154 #[.agg (encEnt x.1).toArray, .pointer (some ⟨c0, 0, none⟩)] w (fun v w' => v = .tuple #[] ∧ ∃ qs' : List EP, qs'.map (·.2) = layL (qs.map (·.2)) x.2 ∧ Own encEnt 3 94 lo w' a n c (qs'.map (·.1)) ∧ (∀ p ∈ qs', p ∈ qs ∨ p = x) ∧ w.grownBy w' (a.map (·.block))) := by
  refine c154 x.1.st x.1.ty.a x.1.ty.n x.1.ty.c x.1.num _ ?_
  obtain rfl : n = qs.length := by have := ho.len; simpa using this
  rintro _ w1 rfl h1
  have q1 : w1.heap[w.heap.size]? = some (.cells #[.int .i64 x.1.st, .slice x.1.ty.a x.1.ty.n x.1.ty.c, .int .i64 x.1.num] 94) := by rw [h1]; exact blk_new _
  have B1 : Below w.heap.size w w1 := by rw [h1]; exact alloc_below _ _
  have z1 : w1.heap.size = w.heap.size + 1 := by rw [h1, size_alloc]
  clear h1
  refine ⟨_, _, _, blk_cell (blk_below hc0 B1 (blk_lt hc0)) 0, _, _, _, blk_cell q1 1, ?_⟩
  refine c143 _ _ _ _ _ _ ?_
  rintro _ w5 rfl h5 _ w6 rfl h6
  have z5 : w5.heap.size = w1.heap.size + 1 := by rw [h5, size_alloc]
  have z6 : w6.heap.size = w5.heap.size + 1 := by rw [h6, size_alloc]
  have r4 : w6.heap[w1.heap.size]? = some (.cells #[.slice a qs.length c] 25) := by rw [h6, h5]; exact blk_alloc (blk_new _)
  have r5 : w6.heap[w5.heap.size]? = some (.cells #[.slice x.1.ty.a x.1.ty.n x.1.ty.c] 33) := by rw [h6]; exact blk_new _
  have B16 : Below w1.heap.size w1 w6 := by rw [h6, h5]; exact (alloc_below w1 _).alloc (by rw [size_alloc]; omega) _
  have B6 : Below w.heap.size w w6 := B1.trans (B16.mono B1.size)
  have r1 := blk_below q1 B16 (blk_lt q1)
  have r0 := blk_below hc0 B6 (blk_lt hc0)
  have ho6 := ho.below B6
  clear h5 h6 B16 q1
  have hseq := seqs_lturns1 (S := fun k => k < w.heap.size ∨ k = w1.heap.size) (blk_cell r5 0) (hxt.below B6) hx.rng.1 (blk_cell r4 0) (ho.row.below B6) hn (.inr rfl) (fun hne p hp => .inl (ho.row.block_lt enEnt (by decide) hne p hp)) (fun k hk => by omega)
  generalize hrs : qs.map (·.1) = rs at hseq
  have hrl : rs.length = qs.length := by rw [← hrs]; simp
  have hxl : (turnsV rs (hashT x.2.ty)).length = qs.length := by simp [turnsV, hrl]
  have hxg : ∀ k (hk : k < (turnsV rs (hashT x.2.ty)).length), (turnsV rs (hashT x.2.ty))[k] = turnV rs (probe (hashT x.2.ty) qs.length k) := by intro k hk; simp [turnsV, hrl]
  have hgr : ∀ i (hi : i < qs.length), rs[i]'(by omega) = qs[i].1 := by intro i hi; subst hrs; simp
  have hsl : ∀ i (hi : i < qs.length), slot (qs.map (·.2)) i = qs[i].2 := by intro i hi; rw [slot_eq (by simpa using hi)]; simp
  refine ⟨_, [_, _], rfl, turnsV rs (hashT x.2.ty), KS fun k => k < w.heap.size ∨ k = w1.heap.size,
    fun pre W => (∀ v ∈ pre, ∀ i, i < qs.length → v = turnV rs i → (slot (qs.map (·.2)) i).st ≠ 0) ∧ Below w6.heap.size w6 W,
    fun e pre W => match e with
      | some _ => False
      | none => ∃ q i, (((pre = q ++ [turnV rs i] ∧ i < qs.length ∧ (∀ v ∈ q, ∀ j, j < qs.length → v = turnV rs j → (slot (qs.map (·.2)) j).st ≠ 0) ∧ (slot (qs.map (·.2)) i).st = 0) ∧
          Own encEnt 3 94 lo W a qs.length c ((qs.set i x).map (·.1))) ∧ w6.grownBy W (a.map (·.block))),
    ⟨?_, hseq, ?_, keepOk_ks (fun k hk => by omega), ?_, ?_, ⟨by simp, Below.refl _ _⟩⟩, ?_, ?_, ?_, trivial⟩
  · exact ent_of Tryz.func162 (by kernel_rfl) rfl
  · intro vs hvs
    obtain ⟨k, _, rfl⟩ := List.mem_map.1 hvs
    exact ⟨_, _, _, _, _, _, rfl⟩
  · exact ownFrom_const.and (ownFrom_below (Nat.le_refl _) (Nat.le_refl _))
  · intro e s W W' row hI hg hrw
    cases e with
    | some _ => exact hI
    | none =>
      obtain ⟨q, i, ⟨i1, i2⟩, i3⟩ := hI
      exact ⟨q, i, ⟨i1, ownFrom_own (β := Unit) () W W' row i2 hg hrw⟩, ownFrom_grown (β := Unit) (Nat.le_refl _) () W W' row i3 hg hrw⟩
  · -- a round
    rintro pre W e e2 e3a e3n e3c e4 he ⟨hpass, hB⟩
    obtain ⟨k, hk, hek⟩ := List.mem_iff_getElem.1 he
    rw [hxg k hk] at hek
    have hi : probe (hashT x.2.ty) qs.length k < qs.length := probe_lt (by omega)
    generalize hI : probe (hashT x.2.ty) qs.length k = i at hek hi
    have hir : i < rs.length := by omega
    rw [turnV_eq hir] at hek
    have hek' : (i : Int) = e ∧ rs[i].st = e2 ∧ (rs[i].ty.a = e3a ∧ rs[i].ty.n = e3n ∧ rs[i].ty.c = e3c) ∧ rs[i].num = e4 := by simpa using hek
    obtain ⟨rfl, rfl, ⟨rfl, rfl, rfl⟩, rfl⟩ := hek'
    have hval : ([.int .i64 (i : Int), .agg #[.int .i64 rs[i].st, .slice rs[i].ty.a rs[i].ty.n rs[i].ty.c, .int .i64 rs[i].num]] : List Value) = turnV rs i := (turnV_eq hir).symm
    rw [hval]
    have hst : rs[i].st = (slot (qs.map (·.2)) i).st := by rw [hgr i hi, hsl i hi]; exact (hqs _ (List.getElem_mem hi)).st
    have hWs : w6.heap.size ≤ W.heap.size := hB.size
    refine box_ent fun w8 s8 B8 => ?_
    refine ⟨keepsFrom_below B8, KS.of_below B8 (fun k hk => by omega), ⟨hpass, hB.trans (B8.mono hB.size)⟩, ?_⟩
    rintro pre2 w9 hnc hlen ⟨hpass2, hB9⟩
    have s9 := hnc.blk s8
    refine ⟨_, blk_cell s9 0, cnd (fun hc => ?_) fun hc => ?_⟩
    · have h0 : (slot (qs.map (·.2)) i).st = 0 := by rw [← hst]; simpa using hc
      have t1 := blk_below r1 hB9 (blk_lt r1)
      obtain ⟨gb, ha, hgl, hcells, hput, hgrw⟩ := (ho6.below hB9).put enEnt (i := i) hi x.1
      have c0' := hcells 0 (by decide)
      rw [Addr.add_zero'] at c0'
      refine ⟨_, _, _, blk_cell (blk_below r0 hB9 (blk_lt r0)) 0, _, _, _, _, _, blk_cell t1 0, blk_cell t1 1, blk_cell t1 2, _, ha, by omega, by omega, ?_⟩
      rw [Int.toNat_natCast]
      refine ⟨c0'.1, c0'.2, (hcells 1 (by decide)).1, (hcells 1 (by decide)).2, (hcells 2 (by decide)).1, (hcells 2 (by decide)).2, ?_⟩
      rintro w10 h10
      have h10' : w10 = wrs w9 (Addr.add ⟨gb, 0, none⟩ (i * 3)) 0 (encEnt x.1) := h10
      subst h10'
      have hgb : (a.map (·.block)) = some gb := by rw [ha]; rfl
      refine ⟨⟨hgrw.size, fun b o _ hb ho => (hgrw.block b (blk_lt hb) ?_).trans hb⟩, pre2, i, ⟨⟨rfl, hi, hpass2, h0⟩, ?_⟩, ?_⟩
      · intro heq
        cases heq
        rcases (ho6.below hB9).2.2.2 with ⟨h1, _⟩ | ⟨g', cs, h1, _, h2, _⟩
        · rw [ha] at h1; cases h1
        · rw [ha] at h1; cases h1; rw [hb] at h2; cases h2; simp [Obj.isCells] at ho
      · rw [List.map_set, hrs]; subst hrs; exact hput
      · rw [hgb]; exact grown_from hB9 hgrw
    · have h0 : (slot (qs.map (·.2)) i).st ≠ 0 := by rw [← hst]; simpa using hc
      refine ⟨KeepsFrom.refl _ _, KS.refl _ _, ?_, hB9⟩
      intro v hv j hj hvj
      rcases List.mem_append.1 hv with hv | hv
      · exact hpass2 v hv j hj hvj
      · simp only [List.mem_singleton] at hv
        subst hv
        obtain rfl := turnV_inj hvj
        exact h0
  · -- the end
    rintro D W hD ⟨hpass, hB⟩ hd
    refine ⟨hd, ?_⟩
    rintro _ rfl
    have B7 : Below w6.heap.size w6 (W.putObj D (.deferred none)) := hB.trans ((Below.refl _ _).grown (grownBy_putObj' _ D _) hB.size (fun k e => by cases e; exact hD))
    refine ⟨rfl, qs, ?_, ho6.below B7, fun p hp => .inl hp, grown_from B6 (grown_of_below B7)⟩
    have : (List.range (qs.map (·.2)).length).find? (freeAt (qs.map (·.2)) x.2.ty) = none := by
      rw [List.find?_eq_none]
      intro k hk
      have hk' : k < qs.length := by simpa using hk
      have := hpass (turnV rs (probe (hashT x.2.ty) qs.length k)) (by rw [← hxg k (by omega)]; exact List.getElem_mem _) _ (probe_lt (by omega)) rfl
      simpa [freeAt] using this
    simp only [layL, this]
  · -- the way out
    rintro D pre W hD hpre ⟨q, i, ⟨⟨rfl, hi, hpass, h0⟩, hown⟩, hg⟩ hd
    refine ⟨hd, ?_⟩
    rintro _ rfl
    have hgp : W.grownBy (W.putObj D (.deferred none)) (some D) := grownBy_putObj' _ D _
    refine ⟨rfl, qs.set i x, ?_, ?_, fun p hp => List.mem_or_eq_of_mem_set hp, grown_from B6 (ownFrom_grown (β := Unit) (B := w6.heap.size) (Nat.le_refl _) () W _ (some D) hg hgp fun r e => by cases e; exact ⟨hD, _, hd, rfl⟩)⟩
    · have hql : q.length < (turnsV rs (hashT x.2.ty)).length := by have := hpre.length_le; simp at this; omega
      have hqi : probe (hashT x.2.ty) qs.length q.length = i := by
        have h1 := hpre.getElem (i := q.length) (by simp)
        rw [hxg _ hql] at h1
        simp only [List.getElem_append_right (Nat.le_refl _), Nat.sub_self, List.getElem_cons_zero] at h1
        exact (turnV_inj h1).symm
      have : (List.range (qs.map (·.2)).length).find? (freeAt (qs.map (·.2)) x.2.ty) = some q.length := by
        rw [List.find?_range_eq_some]
        refine ⟨by simp only [freeAt, List.length_map, hqi]; simpa using h0, by simp; omega, fun j hj => ?_⟩
        have hjq : q[j] = turnV rs (probe (hashT x.2.ty) qs.length j) := by
          have h1 := hpre.getElem (i := j) (by simp; omega)
          rw [hxg _ (by omega), List.getElem_append_left hj] at h1
          exact h1
        have := hpass q[j] (List.getElem_mem _) _ (probe_lt (by omega)) hjq
        simpa [freeAt] using this
      rw [layL, this]; simp only [List.length_map, hqi, List.map_set]
    · exact hown.keep fun g cs ha _ hgb => (hgp.block g (blk_lt hgb) (by rintro heq; cases heq; rw [hd] at hgb; cases hgb)).trans hgb
end
end Go.Eng
namespace Go.Eng
open Go Go.RowKit
variable {α : Type} {P : Program}
theorem made_flat {enc : α → List Value} {k : Nat} (E : En enc k) (hk : 0 < k) {z : Array Value} {x : α} (hz : enc x = z.toList) (n : Nat) : (madeCells z (n * k)).toList = (List.replicate n x).flatMap enc := by
  have hzs : z.size = k := by rw [← E.len x, hz]; simp
  apply List.ext_getElem?
  intro i
  by_cases hi : i < n * k
  · have hdiv : i / k < (List.replicate n x).length := by simp; exact Nat.div_lt_of_lt_mul (by rw [Nat.mul_comm]; exact hi)
    have h1 := flat_get E.len (List.replicate n x) (i / k) (i % k) hdiv (Nat.mod_lt _ hk)
    rw [show i / k * k + i % k = i by rw [Nat.mul_comm]; exact Nat.div_add_mod i k] at h1
    rw [h1, List.getElem_replicate, hz]
    have hm : i % k < z.size := by rw [hzs]; exact Nat.mod_lt _ hk
    simp [madeCells, hi, hzs, getElem!_pos z (i % k) hm, hm]
  · rw [List.getElem?_eq_none (by simp [madeCells]; omega), List.getElem?_eq_none (by rw [length_flat E.len]; simp; omega)]
section
variable {enc : α → List Value} {k : Nat} {t e : TypeId} {bytes : Nat} {z : Value} {w : World}
/-- make, of so many. -/
theorem make_ok (T : Ty P t e k bytes z) (E : En enc k) {x : α} (hx : enc x = z.cells.toList) {n : Nat} (h63 : n ≤ maxLen) (hby : bytes * n ≤ 281474976710656) {K : Option Addr → Nat → Nat → World → Prop}
    (hK : ∀ (g : Nat) w', g = w.heap.size → Own enc k e w.heap.size w' (some ⟨g, 0, none⟩) n n (List.replicate n x) → Below w.heap.size w w' → K (some ⟨g, 0, none⟩) n n w') :
    ∃ (a' : Option Addr) (n' c' : Nat) (w1 : World), Sem.run P (Instr.makeSlice t (.int .i64 (n : Int)) (.int .i64 (n : Int))) w = .ok (.slice a' n' c') w1 ∧ K a' n' c' w1 := by
  obtain ⟨i, hi, hs, hbs, hz⟩ := T.hi
  have hn63 : (n : Int) ≤ 9223372036854775807 := by have : n ≤ 9223372036854775807 := h63; omega
  have hm := run_make (P := P) w t e i z T.ht hi hz .i64 .i64 (n : Int) (n : Int) (by omega) (Int.le_refl _) (by rw [hbs, ← Int.natCast_mul]; exact Int.ofNat_le.2 hby) hn63
  simp only [Int.toNat_natCast] at hm
  rw [hs] at hm
  have hB : Below w.heap.size w (w.alloc (.cells (madeCells z.cells (n * k)) e)) := (Below.refl _ _).alloc (Nat.le_refl _) _
  refine ⟨_, _, _, _, hm, hK _ _ rfl ⟨by simp, Nat.le_refl _, h63, .inr ⟨_, _, rfl, Nat.le_refl _, blk_new _, by rw [size_madeCells]; exact Nat.le_refl _, ?_⟩⟩ hB⟩
  rw [made_flat E T.pos hx, List.take_of_length_le]
  rw [length_flat E.len]; simp
end
end Go.Eng
namespace Go.Eng
open Go Go.RowKit Go.Proofs
set_option maxRecDepth 10000
def blankE : Entry := ⟨0, [], 0⟩
def blankR : REnt := ⟨0, ⟨none, 0, 0⟩, 0⟩
/-- Entries, laid into so many slots. -/
def laidL (l : List Entry) (many : Nat) : List Entry := l.foldl layL (List.replicate many blankE)
theorem laidL_len' : ∀ (l acc : List Entry), (l.foldl layL acc).length = acc.length
  | [], acc => rfl
  | x :: l, acc => by rw [List.foldl_cons, laidL_len' l, layL_len]
theorem laidL_len (l : List Entry) (many : Nat) : (laidL l many).length = many := by rw [laidL, laidL_len', List.length_replicate]
theorem says_blank : EntSays blankR blankE := ⟨rfl, rfl, fun x hx => by simp [blankE] at hx, by simp [blankE, I64], by simp [blankE, I64]⟩
section
variable {w : World} {a : Option Addr} {n c : Nat} {ps : List EP}
theorem k_llaid (h : Row encEnt w a n c (ps.map (·.1))) (hps : ∀ p ∈ ps, IsEnt w p.1 p.2) {many : Nat} (hm : many ≤ 1048576) (hn : n ≤ 1048576) :
    Cl Tryz.prog 120 #[.slice a n c, .int .i64 (many : Int)] w (fun v w' => ∃ (g : Nat) (qs : List EP), v = .agg #[.slice (some ⟨g, 0, none⟩) many many] ∧ qs.map (·.2) = laidL (ps.map (·.2)) many ∧ Own encEnt 3 94 w.heap.size w' (some ⟨g, 0, none⟩) many many (qs.map (·.1)) ∧ (∀ p ∈ qs, p = (blankR, blankE) ∨ p ∈ ps) ∧ Below w.heap.size w w') := by
  refine c120 _ _ _ _ ?_
  obtain rfl : n = ps.length := by have := h.len; simpa using this
  rintro _ w1 rfl h1
  have q1 : w1.heap[w.heap.size]? = some (.cells #[.slice none 0 0] 25) := by rw [h1]; exact blk_new _
  have B1 : Below w.heap.size w w1 := by rw [h1]; exact alloc_below _ _
  have z1 : w1.heap.size = w.heap.size + 1 := by rw [h1, size_alloc]
  clear h1
  refine make_ok tyEnts enEnt (x := blankR) rfl (by simp only [maxLen]; omega) (by omega) fun g w2 hg ho B2' => ?_
  have B2 := B1.trans (B2'.mono B1.size)
  have q2 := blk_below q1 B2' (blk_lt q1)
  have hgl := (ho.lt rfl).2
  rintro _ w3 rfl h3
  have p3 : w3.heap[w2.heap.size]? = some (.cells #[.slice none 0 0] 25) := by rw [h3]; exact blk_new _
  have B3 : Below w2.heap.size w2 w3 := by rw [h3]; exact alloc_below _ _
  clear h3
  refine ⟨blk_some p3 (by decide), blk_free p3 _, ?_⟩
  rintro w4 h4
  have p4 : w4.heap[w2.heap.size]? = some (.cells #[.slice (some ⟨g, 0, none⟩) many many] 25) := by rw [h4]; exact blk_set p3 0 _
  have B4' : Below w2.heap.size w2 w4 := by rw [h4]; exact B3.setCell (Nat.le_refl _) _
  have B4 := B2.trans (B4'.mono B2.size)
  have q4 := blk_below q2 B4' (blk_lt q2)
  have ho4 := ho.below B4'
  clear h4 p3 B3
  have hg2 : g ≠ w.heap.size ∧ g ≠ w2.heap.size := by simp only at hgl; omega
  refine ⟨fun i W => (Below w.heap.size w W ∧ W.heap[w.heap.size]? = some (.cells #[.slice none 0 0] 25) ∧ W.heap[w2.heap.size]? = some (.cells #[.slice (some ⟨g, 0, none⟩) many many] 25)) ∧
      ∃ (k : Nat) (qs : List EP), i = k ∧ k ≤ ps.length ∧ qs.map (·.2) = ((ps.map (·.2)).take k).foldl layL (List.replicate many blankE) ∧ Own encEnt 3 94 w.heap.size W (some ⟨g, 0, none⟩) many many (qs.map (·.1)) ∧ (∀ p ∈ qs, p = (blankR, blankE) ∨ p ∈ ps), fun i _ => ps.length - i.toNat,
    ⟨⟨B4, q4, p4⟩, 0, List.replicate many (blankR, blankE), rfl, by omega, by simp, by simpa using ho4.mono (lo' := w.heap.size) (by omega), fun p hp => .inl (List.eq_of_mem_replicate hp)⟩, ?_⟩
  rintro _ W _ ⟨⟨hB, qb, pb⟩, k, qs, rfl, hk, hsnd, how, hin⟩
  have hql : qs.length = many := by have := how.len; simpa using this.symm
  have hsay : ∀ p ∈ qs, EntSays p.1 p.2 := fun p hp => by
    rcases hin p hp with rfl | h
    · exact says_blank
    · exact (hps p h).says
  refine cnd (fun hc => ?_) fun hc => ?_
  · have hkn : k < ps.length := by simpa using hc
    refine (h.below hB).entN hkn fun hl => box_ent fun w7 s7 B7 => ?_
    have e0 : (ps.map (·.1))[k] = ps[k].1 := by simp
    rw [e0] at s7
    have hB7 := hB.trans (B7.mono hB.size)
    have p7 := blk_below pb B7 (blk_lt pb)
    have q7 := blk_below qb B7 (blk_lt qb)
    have hx := hps ps[k] (List.getElem_mem _)
    refine ⟨_, _, _, _, _, blk_cell s7 0, blk_cell s7 1, blk_cell s7 2, (k_llaid1 (x := ps[k]) p7 (how.below B7) hB7.size hsay hx.says (hx.ty.below hB7) hm).mono ?_⟩
    rintro _ w8 ⟨rfl, qs', hsnd', ho8, hin', hg8⟩
    have keep : ∀ {b : Nat} {o : Obj}, w7.heap[b]? = some o → g ≠ b → w8.heap[b]? = some o := fun hb hne => (hg8.block _ (blk_lt hb) (by simpa using Ne.symm hne)).trans hb
    rw [nx (by omega)]
    refine ⟨rfl, ⟨⟨hB7.trans ((how.below B7).belowOf hg8 hB7.size), keep q7 hg2.1, keep p7 hg2.2⟩, k + 1, qs', rfl, by omega, ?_, ho8, fun p hp => ?_⟩, dec hkn⟩
    · rw [hsnd', hsnd, take_one (by simpa using hkn), List.foldl_append]; simp
    · rcases hin' p hp with h | rfl
      · exact hin p h
      · exact .inr (List.getElem_mem _)
  · have hkn : ¬ k < ps.length := by simpa using hc
    refine ⟨_, _, _, blk_cell pb 0, blk_some qb (by decide), blk_free qb _, ?_⟩
    rintro w9 h9
    have q9 : w9.heap[w.heap.size]? = some (.cells #[.slice (some ⟨g, 0, none⟩) many many] 25) := by rw [h9]; exact blk_set qb 0 _
    refine ⟨_, _, _, blk_cell q9 0, g, qs, rfl, by rw [hsnd, take_all (by simp; omega)]; rfl, ?_, hin, by rw [h9]; exact hB.setCell (Nat.le_refl _) _⟩
    rw [h9]
    exact how.farB (fun g' e => by cases e; exact hg2.1) _
end
end Go.Eng
namespace Go.Eng
open Go Go.RowKit Go.Proofs
set_option maxRecDepth 10000
def manyFrom : Nat → Nat → Nat → Nat
  | 0, m, _ => m
  | f + 1, m, k => if 2 * m < 4 * k then manyFrom f (m * 2) k else m
/-- How many slots so many types get. -/
def manyOf (k : Nat) : Nat := manyFrom 20 8 k
theorem manyFrom_le : ∀ (f m k : Nat), m ≤ max 8 (4 * k) → manyFrom f m k ≤ max 8 (4 * k)
  | 0, m, k, h => h
  | f + 1, m, k, h => by
    simp only [manyFrom]; split
    · exact manyFrom_le f (m * 2) k (by omega)
    · exact h
theorem manyOf_le (k : Nat) : manyOf k ≤ max 8 (4 * k) := manyFrom_le 20 8 k (by omega)
/-- A lookup with a type more; the error. -/
def putL (l : List Entry) (t : List Int) (num : Int) : List Entry × Int :=
  if checkL l = false then ([], 170) else if right2 t = false then ([], 130) else if num < 0 then ([], 2) else if 0 ≤ place l t then ([], 5)
  else if (all7 Entry.st Entry.ty l).length = 4000 then ([], 6)
  else (laidL (all7 Entry.st Entry.ty l ++ [⟨1, t, num⟩]) (manyOf ((all7 Entry.st Entry.ty l).length + 1)), 0)
/-- A lookup in memory of its own, and an error. -/
def LkE (w : World) (p : List Entry × Int) (v : Value) (w' : World) : Prop := ∃ a n c, v = .tuple #[.agg #[.slice a n c], .int .i64 p.2] ∧ DEnts w.heap.size w' a n c p.1 ∧ Below w.heap.size w w'
theorem put_back {W : World} {b : Nat} {v0 : Value} {t : TypeId} {a : Option Addr} {n c : Nat} (q : W.heap[b]? = some (.cells #[v0] t (0, 0))) {K : Option Addr → Nat → Nat → World → Prop}
    (hK : ∀ W', W' = W.setCell ⟨b, 0, none⟩ (.slice a n c) → K a n c W') :
    ((W.cell? (Addr.mk b 0 none)).isSome = true ∧ W.frozen? (Addr.mk b 0 none) = false ∧ (∀ w4 : World, w4 = W.setCell (Addr.mk b 0 none) (.slice a n c) → (∃ (ra : Option Addr) (rn : Nat) (rc : Nat), w4.cell? (Addr.mk b 0 none) = some (.slice ra rn rc) ∧ K ra rn rc w4))) := by
  refine ⟨blk_some q (by simp), blk_free q _, ?_⟩
  rintro w4 h4
  exact ⟨a, n, c, by rw [h4]; exact blk_cell (blk_set q 0 _) 0, hK w4 h4⟩
theorem lkE {w w' : World} {p : List Entry × Int} {l' : List Entry} {e : Int} {a : Option Addr} {n c : Nat} (hp : p = (l', e)) (hd : DEnts w.heap.size w' a n c l') (hB : Below w.heap.size w w') : LkE w p (.tuple #[.agg #[.slice a n c], .int .i64 e]) w' := by
  subst hp; exact ⟨_, _, _, rfl, hd, hB⟩
theorem DEnts.farB {lo : Nat} {w : World} {a : Option Addr} {n c : Nat} {l : List Entry} (h : DEnts lo w a n c l) {b : Nat} {cs : Array Value} {t : TypeId} {fr : Nat × Nat} (hb : w.heap[b]? = some (.cells cs t fr)) (h1 : t ≠ 94) (h2 : t ≠ 32) {j : Nat} (v : Value) : DEnts lo (w.setCell ⟨b, j, none⟩ v) a n c l := by
  obtain ⟨qs, rfl, ho, hq⟩ := h
  exact ⟨qs, rfl, ho.far hb h1 v, fun p hp => ⟨(hq p hp).1, (hq p hp).2.far hb h2 v⟩⟩
section
variable {w : World} {a b : Option Addr} {n c m d : Nat} {l : List Entry} {t : List Int} {num : Int}
theorem k_lPut (h : Ents w a n c l) (hn : n ≤ 1048576) (ht : Row encId w b m d t) (hr : Rng t) (hnum : I64 num) :
    Cl Tryz.prog 87 #[.agg #[.slice a n c], .slice b m d, .int .i64 num] w (LkE w (putL l t num)) := by
  refine c87 _ _ _ _ _ _ _ ?_
  rintro _ w1 rfl h1 _ w2 rfl h2
  have q1 : w2.heap[w.heap.size]? = some (.cells #[.slice a n c] 25) := by rw [h2, h1]; exact blk_alloc (blk_new _)
  have q2 : w2.heap[w1.heap.size]? = some (.cells #[.slice none 0 0] 25) := by rw [h2]; exact blk_new _
  have z1 : w1.heap.size = w.heap.size + 1 := by rw [h1, size_alloc]
  have B2 : Below w.heap.size w w2 := by rw [h2, h1]; exact (alloc_below w _).alloc (by rw [size_alloc]; omega) _
  clear h1 h2
  have hw1 : w.heap.size ≤ w1.heap.size := by omega
  refine ⟨_, _, _, blk_cell q1 0, (k_lCheck (h.below B2) hn).gives fun w3 B3' => ⟨_, rfl, ?_⟩⟩
  have B3 := B2.trans (B3'.mono B2.size)
  have p1 := blk_below q1 B3' (blk_lt q1)
  have p2 := blk_below q2 B3' (blk_lt q2)
  cases hck : checkL l with
  | false =>
    refine put_back p2 ?_
    rintro W' rfl
    exact lkE (by simp [putL, hck]) DEnts.nil (B3.setCell hw1 _)
  | true =>
    refine ⟨_, _, _, blk_cell p1 0, (k_lused' (h.below B3) hn hck).mono ?_⟩
    rintro _ w5 ⟨a5, n5, c5, rfl, hd, B5'⟩
    have B5 := B3.trans (B5'.mono B3.size)
    have hn5 := hd.len
    have hl5 := all7_len Entry.st Entry.ty l
    have hln : l.length = n := by obtain ⟨rs, h1, h2⟩ := h; have := h1.len; have := h2.1; omega
    refine ⟨_, _, _, rfl, (k_tCheck (ht.below B5)).gives fun w6 B6' => ⟨_, rfl, ?_⟩⟩
    have B6 := B5.trans (B6'.mono B5.size)
    have p26 := blk_below (blk_below p2 B5' (blk_lt p2)) B6' (Nat.lt_of_lt_of_le (blk_lt p2) B5'.size)
    have p16 := blk_below (blk_below p1 B5' (blk_lt p1)) B6' (Nat.lt_of_lt_of_le (blk_lt p1) B5'.size)
    cases hr2 : right2 t with
    | false =>
      rw [show check2 t = 130 by simp [check2, hr2]]
      refine cnd (fun _ => ?_) fun g => absurd g (by decide)
      refine put_back p26 ?_
      rintro W' rfl
      exact lkE (by simp [putL, hck, hr2]) DEnts.nil (B6.setCell hw1 _)
    | true =>
      rw [show check2 t = 0 by simp [check2, hr2]]
      refine cnd (fun g => absurd g (by decide)) fun _ => ?_
      refine cnd (fun g => ?_) fun g => ?_
      · refine put_back p26 ?_
        rintro W' rfl
        have : num < 0 := of_decide_eq_true g
        exact lkE (by simp [putL, hck, hr2, this]) DEnts.nil (B6.setCell hw1 _)
      have hnn : ¬ num < 0 := of_decide_eq_false g
      refine ⟨_, _, _, blk_cell p16 0, (k_lplace (h.below B6) (ht.below B6) hr hn).gives fun w9 B9' => ⟨_, rfl, ?_⟩⟩
      have B9 := B6.trans (B9'.mono B6.size)
      have p29 := blk_below p26 B9' (blk_lt p26)
      refine cnd (fun g => ?_) fun g => ?_
      · refine put_back p29 ?_
        rintro W' rfl
        have : 0 ≤ place l t := of_decide_eq_true g
        exact lkE (by simp [putL, hck, hr2, hnn, this]) DEnts.nil (B9.setCell hw1 _)
      have hpl : ¬ 0 ≤ place l t := of_decide_eq_false g
      refine cnd (fun g => ?_) fun g => ?_
      · refine put_back p29 ?_
        rintro W' rfl
        have : (all7 Entry.st Entry.ty l).length = 4000 := by simp at g; omega
        exact lkE (by simp [putL, hck, hr2, hnn, hpl, this]) DEnts.nil (B9.setCell hw1 _)
      have hfull : ¬ (all7 Entry.st Entry.ty l).length = 4000 := by simp at g; omega
      have h12 := (right2_sorted hr2).2
      have hml := ht.len
      refine (k_CloneIds (ht.below B9) (by omega)).mono ?_
      rintro _ w12 ⟨a8, n8, c8, rfl, ho8, B12'⟩
      have B12 := B9.trans (B12'.mono B9.size)
      refine ⟨_, _, _, rfl, ?_⟩
      have hd12 := ((hd.below B6').below B9').below B12'
      have hd0 : DEnts w.heap.size w12 a5 n5 c5 (all7 Entry.st Entry.ty l) := hd12.mono B3.size
      obtain ⟨qs, hqs, hqo, hqd⟩ := hd0
      have hqn : qs.length = n5 := by have := hqo.len; simpa using this.symm
      have ho12 : OwnTy w.heap.size w12 ⟨a8, n8, c8⟩ t := ho8.mono B9.size
      have hsz5 : n5 ≤ 1048576 := by omega
      have p212 := blk_below p29 B12' (blk_lt p29)
      have htak : (all7 Entry.st Entry.ty l).length ≤ 4000 := by
        have h1 := (checkL_ok hck).1
        simp only [preL, Bool.and_eq_true, decide_eq_true_eq] at h1
        have h2 := (all7_perm Entry.st Entry.ty l).length_eq
        have h3 : taken l = (l.filter fun e => e.st == 1).length + cnt l 2 := rfl
        omega
      refine app1 tyEnts enEnt hqo B12.size (⟨1, ⟨a8, n8, c8⟩, num⟩ : REnt) (by simp only [maxLen]; omega) (by omega) fun a9 c9 w14 ho14 hg14 => ?_
      have B14 := B12.trans (hqo.belowOf hg14 B12.size)
      have keepI : ∀ {h : Hd} {l' : List Int}, OwnTy w.heap.size w12 h l' → OwnTy w.heap.size w14 h l' := fun hh => hqo.keepOwn hg14 hh (fun e => tyIdEnt e.symm)
      have p214 : w14.heap[w1.heap.size]? = some (.cells #[.slice none 0 0] 25) := hqo.keepBlk hg14 p212 (.inl (by decide))
      have hall : ∀ p ∈ qs ++ [((⟨1, ⟨a8, n8, c8⟩, num⟩ : REnt), (⟨1, t, num⟩ : Entry))], EntSays p.1 p.2 ∧ OwnTy w.heap.size w14 p.1.ty p.2.ty := by
        intro p hp
        rcases List.mem_append.1 hp with hp | hp
        · exact ⟨(hqd p hp).1, keepI (hqd p hp).2⟩
        · simp only [List.mem_singleton] at hp
          subst hp
          exact ⟨⟨rfl, rfl, hr, by simp [I64], hnum⟩, keepI ho12⟩
      have hrow14 : Row encEnt w14 a9 (n5 + 1) c9 ((qs ++ [((⟨1, ⟨a8, n8, c8⟩, num⟩ : REnt), (⟨1, t, num⟩ : Entry))]).map (·.1)) := by
        have := ho14.row; rwa [List.map_append]
      refine ⟨fun mm W => W = w14 ∧ ∃ f m : Nat, mm = (m : Int) ∧ manyFrom f m (n5 + 1) = manyOf (n5 + 1) ∧ m = 8 * 2 ^ (20 - f) ∧ f ≤ 20, fun mm _ => 1000000 - mm.toNat, ⟨rfl, 20, 8, rfl, rfl, by decide, by decide⟩, ?_⟩
      rintro _ W _ ⟨rfl, f, mm, rfl, hmm, hm2, hf⟩
      have hbound : mm ≤ 8388608 := by
        have : 2 ^ (20 - f) ≤ 2 ^ 20 := Nat.pow_le_pow_right (by decide) (by omega)
        omega
      have hpos : 0 < 2 ^ (20 - f) := Nat.pow_pos (by decide)
      rw [wrap64 (i := 2 * (mm : Int)) (by omega) (by omega), wrap64 (i := 4 * ((n5 + 1 : Nat) : Int)) (by omega) (by omega)]
      refine cnd (fun g => ?_) fun g => ?_
      · have hlt : 2 * mm < 4 * (n5 + 1) := by simp at g; omega
        rw [wrap64 (i := (mm : Int) * 2) (by omega) (by omega)]
        cases f with
        | zero => simp at hm2; omega
        | succ f =>
          refine ⟨⟨rfl, f, mm * 2, by omega, ?_, ?_, by omega⟩, ?_⟩
          · rw [← hmm]; simp only [manyFrom, if_pos hlt]
          · rw [hm2, show 20 - f = (20 - (f + 1)) + 1 by omega, Nat.pow_succ]; omega
          · simp only []; omega
      · have hge : ¬ 2 * mm < 4 * (n5 + 1) := by simp at g; omega
        have hmo : mm = manyOf (n5 + 1) := by
          rw [← hmm]; cases f with
          | zero => rfl
          | succ f => simp only [manyFrom, if_neg hge]
        have hle := manyOf_le (n5 + 1)
        refine (k_llaid (w := W) hrow14 (fun p hp => (hall p hp).1.is (hall p hp).2.row) (many := mm) (by omega) (by omega)).mono ?_
        rintro _ w16 ⟨g16, qs', rfl, hq', ho16, hin, B16'⟩
        have B16 := B14.trans (B16'.mono B14.size)
        have p216 := blk_below p214 B16' (blk_lt p214)
        have hd16 : DEnts w.heap.size w16 (some ⟨g16, 0, none⟩) mm mm (laidL (all7 Entry.st Entry.ty l ++ [⟨1, t, num⟩]) mm) := by
          refine ⟨qs', by rw [hq', List.map_append, hqs]; rfl, ho16.mono B14.size, fun p hp => ?_⟩
          rcases hin p hp with rfl | hp
          · exact ⟨says_blank, Own.nil⟩
          · exact ⟨(hall p hp).1, (hall p hp).2.below B16'⟩
        refine ⟨_, _, _, rfl, put_back p216 ?_⟩
        rintro W' rfl
        refine lkE (by simp only [putL, hck, hr2, if_neg hnn, if_neg hpl, if_neg hfull]; rw [← hn5, ← hmo]; simp) (hd16.farB p216 (by decide) (by decide) _) (B16.setCell hw1 _)
end
end Go.Eng
namespace Go.Eng
open Go Go.RowKit Go.Proofs
set_option maxRecDepth 10000
/-- A lookup without a type; the error. -/
def dropL (l : List Entry) (t : List Int) : List Entry × Int :=
  if checkL l = false then ([], 170) else if place l t < 0 then ([], 4) else (l.set (place l t).toNat ⟨2, [], 0⟩, 0)
def newL : List Entry := List.replicate 8 blankE
theorem checkL_all12 {l : List Entry} (h : checkL l = true) : ∀ e ∈ l, e.ty.length ≤ 12 := by
  intro e he
  obtain ⟨i, hi, rfl⟩ := List.mem_iff_getElem.1 he
  by_cases hst : l[i].st = 1
  · exact checkL_12 h _ (List.getElem_mem _) hst
  · have := (checkL_ok h).2 i hi
    rw [slotOk, slot_eq hi, if_neg hst] at this
    simp at this
    rw [this.1]; simp
section
variable {w : World} {a b : Option Addr} {n c m d : Nat} {l : List Entry} {t : List Int}
theorem k_CloneEnts {rs : List REnt} (h : Row encEnt w a n c rs) (hs : n ≤ 1048576) : Cl Tryz.prog 108 #[.slice a n c] w (Made encEnt 3 94 w rs) := by
  refine c108 _ _ _ ⟨_, nil_eq tyEnts.ht, ?_⟩
  cases a with
  | none =>
    have : rs = [] := by
      rcases h.rd.2 with h0 | ⟨p, hp, _⟩
      · exact h0
      · simp at hp
    subst this
    exact ⟨_, _, _, rfl, Own.nil, Below.refl _ _⟩
  | some p =>
    rintro b w1 rfl rfl
    have hB : Below w.heap.size w (w.alloc (.cells #[] 94)) := (Below.refl _ _).alloc (Nat.le_refl _) _
    obtain ⟨a', n', c', w', hrun, ho, hg⟩ := app_own (a := some (Addr.mk w.heap.size 0 none)) (n := 0) (c := 0) (l := ([] : List REnt)) (lo := w.heap.size) (ty := 23) (c' := c) tyEnts enEnt (Own.new enEnt.len w [] (Nat.le_refl _) (Nat.zero_le _)) (by rw [size_alloc]; omega) (h.rd.below hB) (by simp) (by simp only [maxLen]; omega) (by omega)
    exact ⟨_, _, _, _, hrun, _, _, _, rfl, ho, hB.grown hg (by rw [size_alloc]; omega) (fun k hk => by cases hk; exact Nat.le_refl _)⟩
theorem k_lNew : Cl Tryz.prog 88 #[] w (fun v w' => ∃ a n c, v = .agg #[.slice a n c] ∧ DEnts w.heap.size w' a n c newL ∧ Below w.heap.size w w') := by
  refine c88 ?_
  rintro _ w1 rfl h1
  have q1 : w1.heap[w.heap.size]? = some (.cells #[.slice none 0 0] 25) := by rw [h1]; exact blk_new _
  have B1 : Below w.heap.size w w1 := by rw [h1]; exact alloc_below _ _
  clear h1
  refine make_ok (n := 8) tyEnts enEnt (x := blankR) rfl (by simp only [maxLen]; omega) (by omega) fun g w2 hg ho B2 => ?_
  have q2 := blk_below q1 B2 (blk_lt q1)
  refine put_back q2 ?_
  rintro W' rfl
  have hd : DEnts w.heap.size w2 (some ⟨g, 0, none⟩) 8 8 newL := ⟨List.replicate 8 (blankR, blankE), by simp [newL], by simpa using ho.mono B1.size, fun p hp => by obtain rfl := List.eq_of_mem_replicate hp; exact ⟨says_blank, Own.nil⟩⟩
  exact ⟨_, _, _, rfl, hd.farB q2 (by decide) (by decide) _, (B1.trans (B2.mono B1.size)).setCell (Nat.le_refl _) _⟩
theorem k_lDrop (h : Ents w a n c l) (hn : n ≤ 1048576) (ht : Row encId w b m d t) (hr : Rng t) :
    Cl Tryz.prog 61 #[.agg #[.slice a n c], .slice b m d] w (LkE w (dropL l t)) := by
  refine c61 _ _ _ _ _ _ ?_
  rintro _ w1 rfl h1 _ w2 rfl h2
  have q1 : w2.heap[w.heap.size]? = some (.cells #[.slice a n c] 25) := by rw [h2, h1]; exact blk_alloc (blk_new _)
  have q2 : w2.heap[w1.heap.size]? = some (.cells #[.slice none 0 0] 25) := by rw [h2]; exact blk_new _
  have z1 : w1.heap.size = w.heap.size + 1 := by rw [h1, size_alloc]
  have B2 : Below w.heap.size w w2 := by rw [h2, h1]; exact (alloc_below w _).alloc (by rw [size_alloc]; omega) _
  clear h1 h2
  have hw1 : w.heap.size ≤ w1.heap.size := by omega
  refine ⟨_, _, _, blk_cell q1 0, (k_lCheck (h.below B2) hn).gives fun w3 B3' => ⟨_, rfl, ?_⟩⟩
  have B3 := B2.trans (B3'.mono B2.size)
  have p1 := blk_below q1 B3' (blk_lt q1)
  have p2 := blk_below q2 B3' (blk_lt q2)
  cases hck : checkL l with
  | false =>
    refine put_back p2 ?_
    rintro W' rfl
    exact lkE (by simp [dropL, hck]) DEnts.nil (B3.setCell hw1 _)
  | true =>
    have h12 := checkL_all12 hck
    refine ⟨_, _, _, blk_cell p1 0, (k_lplace (h.below B3) (ht.below B3) hr hn).gives fun w5 B5' => ⟨_, rfl, ?_⟩⟩
    have B5 := B3.trans (B5'.mono B3.size)
    have p15 := blk_below p1 B5' (blk_lt p1)
    have p25 := blk_below p2 B5' (blk_lt p2)
    refine cnd (fun g => ?_) fun g => ?_
    · refine put_back p25 ?_
      rintro W' rfl
      have : place l t < 0 := of_decide_eq_true g
      exact lkE (by simp [dropL, hck, this]) DEnts.nil (B5.setCell hw1 _)
    have hpl : ¬ place l t < 0 := of_decide_eq_false g
    rcases place_lt (l := l) (t := t) with h0 | ⟨at_, hat, hpk, hst1, hty1⟩
    · exact absurd h0 hpl
    obtain ⟨ps, hrow, hps, rfl⟩ := h.pairs
    have hpn : ps.length = n := by have := hrow.len; simpa using this.symm
    refine ⟨_, _, _, blk_cell p15 0, (k_CloneEnts (hrow.below B5) hn).mono ?_⟩
    rintro _ w7 ⟨a7, n7, c7, rfl, ho7, B7'⟩
    have hn7 : n7 = ps.length := by have := ho7.len; simpa using this
    have B7 := B5.trans (B7'.mono B5.size)
    have p27 := blk_below p25 B7' (blk_lt p25)
    refine ⟨_, _, _, rfl, ?_⟩
    rintro _ w8 rfl h8
    have r8 : w8.heap[w7.heap.size]? = some (.cells #[.slice none 0 0] 25) := by rw [h8]; exact blk_new _
    have B8 : Below w7.heap.size w7 w8 := by rw [h8]; exact alloc_below _ _
    clear h8
    refine ⟨blk_some r8 (by decide), blk_free r8 _, ?_⟩
    rintro w9 h9
    have r9 : w9.heap[w7.heap.size]? = some (.cells #[.slice a7 n7 c7] 25) := by rw [h9]; exact blk_set r8 0 _
    have B79 : Below w7.heap.size w7 w9 := by rw [h9]; exact B8.setCell (Nat.le_refl _) _
    have B9 := B7.trans (B79.mono B7.size)
    have p29 := blk_below p27 B79 (blk_lt p27)
    have ho9 : Own encEnt 3 94 w.heap.size w9 a7 n7 c7 (ps.map (·.1)) := (ho7.below B79).mono B5.size
    have lt29 : w1.heap.size < w7.heap.size := blk_lt p27
    clear h9 B8 r8
    refine ⟨_, _, _, blk_cell r9 0, ?_⟩
    refine ⟨fun i W => (Below w.heap.size w W ∧ W.heap[w1.heap.size]? = some (.cells #[.slice none 0 0] 25) ∧ W.heap[w7.heap.size]? = some (.cells #[.slice a7 n7 c7] 25)) ∧
        ∃ (k : Nat) (qs : List EP), i = k ∧ k ≤ n7 ∧ qs.map (·.2) = ps.map (·.2) ∧ Own encEnt 3 94 w.heap.size W a7 n7 c7 (qs.map (·.1)) ∧ (∀ p ∈ qs, EntSays p.1 p.2) ∧
        (∀ j (hj : j < qs.length), j < k → OwnTy w.heap.size W qs[j].1.ty qs[j].2.ty) ∧ (∀ j (hj : j < qs.length), k ≤ j → Row encId w qs[j].1.ty.a qs[j].1.ty.n qs[j].1.ty.c qs[j].2.ty ∧ qs[j].2.ty.length ≤ 12), fun i _ => n7 - i.toNat,
      ⟨⟨B9, p29, r9⟩, 0, ps, rfl, by omega, rfl, ho9, fun p hp => (hps p hp).says, fun j hj h => by omega, fun j hj _ => ⟨(hps _ (List.getElem_mem hj)).ty, h12 _ (List.mem_map.2 ⟨_, List.getElem_mem hj, rfl⟩)⟩⟩, ?_⟩
    rintro _ W _ ⟨⟨hB, qb, rb⟩, k, qs, rfl, hk, hsnd, ho, hsay, hown, hrest⟩
    have hql : qs.length = n7 := by have := congrArg List.length hsnd; simp at this; omega
    refine cnd (fun hc => ?_) fun hc => ?_
    · have hkm : k < n7 := by simpa using hc
      have hkq : k < qs.length := by omega
      refine ho.row.entN hkm fun hl => box_ent fun w12 s12 B12' => ?_
      have e0 : (qs.map (·.1))[k] = qs[k].1 := by simp
      rw [e0] at s12
      obtain ⟨hrk, hr12⟩ := hrest k hkq (Nat.le_refl _)
      rintro w13 rfl
      have B13' := B12'.drew
      have hB13 := hB.trans (B13'.mono hB.size)
      have rb13 := blk_below rb B13' (blk_lt rb)
      refine ⟨_, _, _, blk_cell rb13 0, _, _, _, blk_cell (blk_drew s12) 1, (k_CloneIds (hrk.below hB13) (by have := hrk.len; omega)).mono ?_⟩
      rintro _ w14 ⟨a5, n5, c5, rfl, ho5, B14'⟩
      have hB14 := hB13.trans (B14'.mono hB13.size)
      have rb14 := blk_below rb13 B14' (blk_lt rb13)
      have B1314 := B13'.trans (B14'.mono B13'.size)
      have ho14 := ho.below B1314
      obtain ⟨g', hga, hgl, hc1, hc2, hput, hgr, cs, hgb⟩ := ho14.put1 enEnt (i := k) (j := 1) hkm (by decide) (.slice a5 n5 c5) ⟨qs[k].1.st, ⟨a5, n5, c5⟩, qs[k].1.num⟩ (fun hl => by simp [encEnt])
      refine ⟨_, _, _, rfl, blk_cell rb14 0, _, hga, by omega, by omega, ?_⟩
      rw [Int.toNat_natCast]
      refine ⟨hc1, hc2, ?_⟩
      rintro w15 h15
      rw [← h15] at hput hgr
      have hn763 := ho7.2.1
      have hc63 := ho7.2.2.1
      rw [nx (by simp only [maxLen] at hc63; omega)]
      have hga' : (a7.map (·.block)) = some g' := by rw [hga]; rfl
      rw [← hga'] at hgr
      have far : ∀ {a' : Option Addr} {n' c' : Nat} {l' : List Int}, Own encId 1 32 w.heap.size w14 a' n' c' l' → Own encId 1 32 w.heap.size w15 a' n' c' l' := fun ho' => ho14.keepOwn hgr ho' (fun e => tyIdEnt e.symm)
      refine ⟨⟨⟨hB14.trans (ho14.belowOf hgr hB14.size), ho14.keepBlk hgr (blk_below qb B1314 (blk_lt qb)) (.inl (by decide)), ho14.keepBlk hgr rb14 (.inl (by decide))⟩, k + 1, qs.set k (⟨qs[k].1.st, ⟨a5, n5, c5⟩, qs[k].1.num⟩, qs[k].2), rfl, by omega, ?_, ?_, ?_, ?_, ?_⟩, dec hkm⟩
      · rw [List.map_set, ← hsnd]
        exact List.ext_getElem? fun j => by
          rw [List.getElem?_set]
          split
          · rename_i hkj; subst hkj; simp [hkq]
          · rfl
      · rw [List.map_set]; exact hput
      · intro p hp
        rcases List.mem_or_eq_of_mem_set hp with hp | rfl
        · exact hsay p hp
        · have := hsay _ (List.getElem_mem hkq); exact ⟨this.st, this.num, this.rng⟩
      · intro j hj hjk
        rw [List.getElem_set]
        split
        · exact far (ho5.mono hB13.size)
        · rename_i hne
          exact far ((hown j (by simpa using hj) (by omega)).below B1314)
      · intro j hj hjk
        rw [List.getElem_set_ne (by omega)]
        exact hrest j (by simpa using hj) (by omega)
    · have hkm : ¬ k < n7 := by simpa using hc
      have hatn : at_ < n7 := by simp at hat; omega
      obtain ⟨gb, ha, hgl, hcells, hput, hgrw⟩ := ho.put enEnt (i := at_) hatn (⟨2, ⟨none, 0, 0⟩, 0⟩ : REnt)
      have c0' := hcells 0 (by decide)
      rw [Addr.add_zero'] at c0'
      refine ⟨_, _, _, blk_cell rb 0, _, ha, by omega, by omega, ?_⟩
      rw [hpk, Int.toNat_natCast]
      refine ⟨c0'.1, c0'.2, (hcells 1 (by decide)).1, (hcells 1 (by decide)).2, (hcells 2 (by decide)).1, (hcells 2 (by decide)).2, ?_⟩
      rintro w16 h16
      have h16' : w16 = wrs W (Addr.add ⟨gb, 0, none⟩ (at_ * 3)) 0 (encEnt (⟨2, ⟨none, 0, 0⟩, 0⟩ : REnt)) := h16
      rw [← h16'] at hput hgrw
      have hga' : (a7.map (·.block)) = some gb := by rw [ha]; rfl
      rw [← hga'] at hgrw
      have rb16 := ho.keepBlk hgrw rb (.inl (by decide))
      have qb16 := ho.keepBlk hgrw qb (.inl (by decide))
      refine ⟨_, _, _, blk_cell rb16 0, put_back qb16 ?_⟩
      rintro W' rfl
      have hd : DEnts w.heap.size w16 a7 n7 c7 ((ps.map (·.2)).set at_ ⟨2, [], 0⟩) := by
        refine ⟨qs.set at_ (⟨2, ⟨none, 0, 0⟩, 0⟩, ⟨2, [], 0⟩), by rw [List.map_set, hsnd], by rw [List.map_set]; exact hput, fun p hp => ?_⟩
        rcases List.mem_or_eq_of_mem_set hp with hp | rfl
        · refine ⟨hsay p hp, ho.keepOwn hgrw ?_ (fun e => tyIdEnt e.symm)⟩
          obtain ⟨j, hj, rfl⟩ := List.mem_iff_getElem.1 hp
          exact hown j hj (by omega)
        · exact ⟨⟨rfl, rfl, fun x hx => by simp at hx, by simp [I64], by simp [I64]⟩, Own.nil⟩
      refine lkE (by simp only [dropL, hck, if_neg hpl, hpk, Int.toNat_natCast]; rfl) (hd.farB qb16 (by decide) (by decide) _) ((hB.trans (ho.belowOf hgrw hB.size)).setCell hw1 _)
end
end Go.Eng
namespace Go.Eng
open Go Go.RowKit Go.Proofs
set_option maxRecDepth 10000
def takenN (l : List Entry) : Nat := (l.filter fun e => e.st != 0).length
/-- What is asked of a slot, by the document. -/
def Ent7 (l : List Entry) (i : Nat) : Prop :=
  (((slot l i).st = 0 ∨ (slot l i).st = 2) ∧ (slot l i).ty = [] ∧ (slot l i).num = 0) ∨
  ((slot l i).st = 1 ∧ right3 (slot l i).ty = true ∧ 0 ≤ (slot l i).num ∧ FoundP l (slot l i).ty (i : Int) ∧ ∀ j, j < i → (slot l j).st = 1 → (slot l i).ty ≠ (slot l j).ty)
def Pow8 (n : Nat) : Prop := ∃ j, n = 8 * 2 ^ j
/-- May a lookup be, by the document? -/
def Right7 (l : List Entry) : Prop := Pow8 l.length ∧ (∀ i, i < l.length → Ent7 l i) ∧ 4 * takenN l ≤ 3 * l.length ∧ takenN l ≤ 4000
theorem takenN_snoc (l : List Entry) (x : Entry) : takenN (l ++ [x]) = takenN l + (if x.st = 0 then 0 else 1) := by
  simp only [takenN, List.filter_append, List.length_append]
  by_cases h : x.st = 0 <;> simp [h]
theorem takenN_le (l : List Entry) : takenN l ≤ l.length := List.length_filter_le _ _
theorem asks_no {w w' : World} {p : Prop} (h : ¬ p) (hB : Below w.heap.size w w') : Asks w p (.bool false) w' := ⟨false, rfl, by simp [h], hB⟩
section
variable {w : World} {a : Option Addr} {n c : Nat} {l : List Entry}
theorem k_r07Right (h : Ents w a n c l) (hn : n ≤ 1048576) : Cl Tryz.prog 48 #[.agg #[.slice a n c]] w (Asks w (Right7 l)) := by
  refine c48 _ _ _ ?_
  have hE := h
  obtain ⟨rs, hrow, hall⟩ := h
  have el := hall.1
  obtain rfl : n = l.length := by have := hrow.len; omega
  have hle := hrow.le
  rintro _ w1 rfl h1
  have q1 : w1.heap[w.heap.size]? = some (.cells #[.slice a l.length c] 25) := by rw [h1]; exact blk_new _
  have B1 : Below w.heap.size w w1 := by rw [h1]; exact alloc_below _ _
  clear h1
  refine ⟨fun many W => W = w1 ∧ ∃ j : Nat, many = ((8 * 2 ^ j : Nat) : Int) ∧ l.length ≤ 8 * 2 ^ j ∧ (∀ i, i < j → 8 * 2 ^ i < l.length) ∧ j ≤ 20, ?_, ?_⟩
  · refine ⟨fun many W => W = w1 ∧ ∃ j : Nat, many = ((8 * 2 ^ j : Nat) : Int) ∧ (∀ i, i < j → 8 * 2 ^ i < l.length) ∧ j ≤ 20, fun many _ => 100000000 - many.toNat, ⟨rfl, 0, rfl, by intros; omega, by decide⟩, ?_⟩
    rintro _ W _ ⟨rfl, j, rfl, hj, hj20⟩
    have hp : 2 ^ j ≤ 2 ^ 20 := Nat.pow_le_pow_right (by decide) hj20
    have hp0 : 0 < 2 ^ j := Nat.pow_pos (by decide)
    refine ⟨_, _, _, blk_cell q1 0, cnd (fun hc => ?_) fun hc => ?_⟩
    · have hlt : 8 * 2 ^ j < l.length := by simp only [decide_eq_true_eq] at hc; omega
      rw [wrap64 (by omega) (by omega)]
      have hj2 : j + 1 ≤ 20 := by
        rcases Nat.lt_or_ge j 20 with h | h
        · omega
        · have : j = 20 := by omega
          subst this; simp at hlt; omega
      refine ⟨⟨rfl, j + 1, by rw [Nat.pow_succ]; omega, fun i hi => ?_, hj2⟩, by simp only []; omega⟩
      by_cases hij : i = j
      · subst hij; exact hlt
      · exact hj i (by omega)
    · have hge : l.length ≤ 8 * 2 ^ j := by simp only [decide_eq_false_iff_not] at hc; omega
      exact ⟨rfl, j, rfl, hge, hj, hj20⟩
  · rintro _ W _ ⟨rfl, j, rfl, hge, hj, hj20⟩
    refine ⟨_, _, _, blk_cell q1 0, cnd (fun hc => ?_) fun hc => ?_⟩
    · refine asks_no ?_ B1
      rintro ⟨⟨j', hj'⟩, _⟩
      have hne : l.length ≠ 8 * 2 ^ j := by
        intro h0; rw [← h0] at hc; simp at hc
      rcases Nat.lt_or_ge j' j with h | h
      · have := hj j' h; omega
      · have := Nat.pow_le_pow_right (n := 2) (by decide) h; omega
    · have hlen : l.length = 8 * 2 ^ j := by
        have h0 : ((l.length : Nat) : Int) = ((8 * 2 ^ j : Nat) : Int) := by simpa using hc
        exact Int.ofNat.inj h0
      rw [← hlen]
      refine ⟨_, _, _, blk_cell q1 0, ?_⟩
      refine ⟨fun _ taken i W => (Below w.heap.size w W ∧ W.heap[w.heap.size]? = some (.cells #[.slice a l.length c] 25)) ∧ ∃ k : Nat, i = k ∧ k ≤ l.length ∧ taken = ((takenN (l.take k) : Nat) : Int) ∧ ∀ i, i < k → Ent7 l i, fun _ _ i _ => l.length - i.toNat, ⟨⟨B1, q1⟩, 0, rfl, by omega, rfl, by intros; omega⟩, ?_⟩
      rintro _ W0 _ _ _ ⟨⟨hB, q⟩, k, rfl, hk, rfl, hent⟩
      have htl := takenN_le (l.take k)
      have htk : (l.take k).length ≤ k := by simp; omega
      refine cnd (fun hc => ?_) fun hc => ?_
      · have hkn : k < l.length := by simpa using hc
        refine (hrow.below hB).entN hkn fun hl => box_ent fun w6 s6 B6' => ?_
        have B6 := hB.trans (B6'.mono hB.size)
        have q6 := blk_below q B6' (blk_lt q)
        have x := hall.2 k hl hkn
        have hsl : slot l k = l[k] := slot_eq hkn
        have no : ∀ W, Below w.heap.size w W → ¬ Ent7 l k → Asks w (Right7 l) (.bool false) W := fun W hB h => asks_no (fun hr => h (hr.2.1 k hkn)) hB
        have hsnoc := takenN_snoc (l.take k) l[k]
        rw [← take_one hkn] at hsnoc
        refine ⟨_, blk_cell s6 0, fun s W => W = w6 ∧ s = (rs[k].st == 0 || rs[k].st == 2), ?_, ?_⟩
        · refine cnd (fun g => ⟨rfl, by rw [g]; rfl⟩) fun g => ⟨rfl, by rw [g]; rfl⟩
        · rintro _ W _ ⟨rfl, rfl⟩
          refine cnd (fun g => ?_) fun g => cnd (fun g1 => ?_) fun g1 => no _ B6 ?_
          · have hst : (slot l k).st = 0 ∨ (slot l k).st = 2 := by rw [hsl, ← x.st]; simpa using g
            have hne1 : (slot l k).st ≠ 1 := by omega
            refine ⟨_, _, _, blk_cell s6 1, cnd (fun g2 => no _ B6 ?_) fun g2 => ⟨_, blk_cell s6 2, cnd (fun g3 => no _ B6 ?_) fun g3 => ⟨_, blk_cell s6 0, ?_⟩⟩⟩
            · rintro (⟨_, h, _⟩ | ⟨h, _⟩)
              · have := x.ty.len; rw [hsl] at h; rw [h] at this; simp at g2; simp at this; omega
              · exact hne1 h
            · rintro (⟨_, _, h⟩ | ⟨h, _⟩)
              · rw [hsl, ← x.num] at h; rw [h] at g3; simp at g3
              · exact hne1 h
            · have hty : (slot l k).ty = [] := by
                have := x.ty.len
                simp at g2
                rw [hsl]; exact List.eq_nil_of_length_eq_zero (by omega)
              have hnum : (slot l k).num = 0 := by rw [hsl, ← x.num]; simpa using g3
              have hentk : ∀ i, i < k + 1 → Ent7 l i := fun i hi => by
                by_cases hik : i = k
                · subst hik; exact .inl ⟨hst, hty, hnum⟩
                · exact hent i (by omega)
              rw [nx (k := k) (by omega)]
              refine cnd (fun g4 => ?_) fun g4 => ?_
              · rw [nx (by omega)]
                refine ⟨⟨⟨B6, q6⟩, k + 1, rfl, by omega, ?_, hentk⟩, dec hkn⟩
                rw [hsnoc, if_neg (by rw [← x.st]; simpa using g4)]
              · refine ⟨⟨⟨B6, q6⟩, k + 1, rfl, by omega, ?_, hentk⟩, dec hkn⟩
                rw [hsnoc, if_pos (by rw [← x.st]; simpa using g4)]; rfl
          · have hst : (slot l k).st = 1 := by rw [hsl, ← x.st]; simpa using g1
            have no1 : ∀ W, Below w.heap.size w W → ¬ (right3 (slot l k).ty = true ∧ 0 ≤ (slot l k).num ∧ FoundP l (slot l k).ty (k : Int) ∧ ∀ j, j < k → (slot l j).st = 1 → (slot l k).ty ≠ (slot l j).ty) → Asks w (Right7 l) (.bool false) W := by
              intro W hB h
              refine no W hB ?_
              rintro (⟨h0, _⟩ | ⟨_, h0⟩)
              · omega
              · exact h h0
            refine ⟨_, _, _, blk_cell s6 1, (k_r03Right (x.ty.below B6)).is ⟨_, rfl, cnd (fun g2 => no1 _ B6 ?_) fun g2 => ⟨_, blk_cell s6 2, cnd (fun g3 => no1 _ B6 ?_) fun g3 => ⟨_, _, _, blk_cell q6 0, _, _, _, blk_cell s6 1, (k_r07Found (hE.below B6) (x.ty.below B6) x.rng.1 hn (k : Int)).mono ?_⟩⟩⟩⟩
            · rintro ⟨h, _⟩; rw [hsl] at h; rw [h] at g2; cases g2
            · rintro ⟨_, h, _⟩; rw [hsl, ← x.num] at h
              have : rs[k].num < 0 := by simpa using g3
              omega
            · rintro _ w9 ⟨bf, rfl, hbf, B9'⟩
              have B9 := B6.trans (B9'.mono B6.size)
              have q9 := blk_below q6 B9' (blk_lt q6)
              have s9 := blk_below s6 B9' (blk_lt s6)
              have hr3 : right3 (slot l k).ty = true := by rw [hsl]; simpa using g2
              have hnum : 0 ≤ (slot l k).num := by rw [hsl, ← x.num]; simpa using g3
              refine ⟨_, rfl, cnd (fun g4 => no1 _ B9 ?_) fun g4 => ?_⟩
              · rintro ⟨_, _, h, _⟩; rw [hsl] at h; rw [hbf.2 h] at g4; cases g4
              have hfd : FoundP l (slot l k).ty (k : Int) := by rw [hsl]; exact hbf.1 (by simpa using g4)
              refine ⟨_, _, _, blk_cell q9 0, by omega, by omega, ?_⟩
              rw [Int.toNat_natCast]
              refine ⟨fun _ i W => ((Below w.heap.size w W ∧ W.heap[w.heap.size]? = some (.cells #[.slice a l.length c] 25)) ∧ W.heap[W0.heap.size]? = some (.cells #[.int .i64 rs[k].st, .slice rs[k].ty.a rs[k].ty.n rs[k].ty.c, .int .i64 rs[k].num] 94)) ∧
                  ∃ j : Nat, i = j ∧ j ≤ k ∧ ∀ i, i < j → (slot l i).st = 1 → (slot l k).ty ≠ (slot l i).ty, fun _ i _ => k - i.toNat, ⟨⟨⟨B9, q9⟩, s9⟩, 0, rfl, by omega, by intros; omega⟩, ?_⟩
              rintro _ W2 _ _ ⟨⟨⟨hB2, q2⟩, s2⟩, j2, rfl, hj2, hdis⟩
              refine cnd (fun g5 => ?_) fun g5 => ?_
              · have hjk : j2 < k := by simpa using g5
                obtain ⟨p2, hp2, h01, h02, hrest⟩ := (hrow.below hB2).entN (i := j2) (K := fun x ya yn yc z => x = (rs[j2]'(by omega)).st ∧ ya = (rs[j2]'(by omega)).ty.a ∧ yn = (rs[j2]'(by omega)).ty.n ∧ yc = (rs[j2]'(by omega)).ty.c ∧ z = (rs[j2]'(by omega)).num) (by omega) (fun hl => ⟨rfl, rfl, rfl, rfl, rfl⟩)
                refine ⟨p2, hp2, h01, by omega, ?_⟩
                obtain ⟨x18, y1, y2, y3, x20, e1, e2, e3, rfl, rfl, rfl, rfl, rfl⟩ := hrest
                refine ⟨_, _, _, _, _, e1, e2, e3, box_ent fun w12 s12 B12' => ?_⟩
                have B12 := hB2.trans (B12'.mono hB2.size)
                have q12 := blk_below q2 B12' (blk_lt q2)
                have s212 := blk_below s2 B12' (blk_lt s2)
                have hj2l : j2 < l.length := by omega
                have y := hall.2 j2 (by omega) hj2l
                have hslj : slot l j2 = l[j2] := slot_eq hj2l
                have next : ((slot l j2).st = 1 → (slot l k).ty ≠ (slot l j2).ty) → ∀ i, i < j2 + 1 → (slot l i).st = 1 → (slot l k).ty ≠ (slot l i).ty := by
                  intro h0 i hi
                  by_cases hij : i = j2
                  · subst hij; exact h0
                  · exact hdis i (by omega)
                rw [nx (by omega)]
                refine ⟨_, blk_cell s12 0, cnd (fun g6 => ?_) fun g6 => ?_⟩
                · have hstj : (slot l j2).st = 1 := by rw [hslj, ← y.st]; simpa using g6
                  refine ⟨_, _, _, blk_cell s212 1, _, _, _, blk_cell s12 1, (k_r03Same (x.ty.below B12) (y.ty.below B12)).tells fun w13 hq => ⟨_, rfl, cnd (fun g7 => no1 _ (B12.trans (hq.below _)) ?_) fun g7 => ?_⟩⟩
                  · rintro ⟨_, _, _, h⟩
                    refine h j2 hjk hstj ?_
                    rw [hsl, hslj]; simpa using g7
                  · refine ⟨⟨⟨⟨B12.trans (hq.below _), blk_below q12 (hq.below _) (blk_lt q12)⟩, blk_below s212 (hq.below _) (blk_lt s212)⟩, j2 + 1, rfl, by omega, next fun _ => ?_⟩, dec hjk⟩
                    rw [hsl, hslj]; simpa using g7
                · exact ⟨⟨⟨⟨B12, q12⟩, s212⟩, j2 + 1, rfl, by omega, next fun h0 => absurd h0 (by rw [hslj, ← y.st]; simpa using g6)⟩, dec hjk⟩
              · have hjk' : ¬ j2 < k := by simpa using g5
                have hjk : j2 = k := by omega
                subst hjk
                refine ⟨_, blk_cell s2 0, ?_⟩
                have hentk : ∀ i, i < j2 + 1 → Ent7 l i := fun i hi => by
                  by_cases hik : i = j2
                  · subst hik; exact .inr ⟨hst, hr3, hnum, hfd, hdis⟩
                  · exact hent i (by omega)
                have hne0 : rs[j2].st ≠ 0 := by rw [x.st, ← hsl, hst]; decide
                rw [nx (k := j2) (by omega)]
                refine cnd (fun g4 => ?_) fun g4 => absurd (by simpa using g4) hne0
                rw [nx (by omega)]
                refine ⟨⟨⟨hB2, q2⟩, j2 + 1, rfl, by omega, ?_, hentk⟩, dec hkn⟩
                rw [hsnoc, if_neg (by rw [← x.st]; exact hne0)]
          · have g' := g
            simp only [Bool.or_eq_false_iff, beq_eq_false_iff_ne] at g'
            have g1' : rs[k].st ≠ 1 := by simpa using g1
            rintro (⟨h0, _⟩ | ⟨h0, _⟩)
            · rw [hsl, ← x.st] at h0; exact h0.elim g'.1 g'.2
            · rw [hsl, ← x.st] at h0; exact g1' h0
      · have hkn : ¬ k < l.length := by simpa using hc
        obtain rfl : k = l.length := by omega
        rw [List.take_length] at htl ⊢
        rw [wrap64 (i := 4 * ((takenN l : Nat) : Int)) (by omega) (by omega), wrap64 (i := 3 * ((l.length : Nat) : Int)) (by omega) (by omega)]
        have hp8 : Pow8 l.length := ⟨j, hlen⟩
        refine cnd (fun g => ?_) fun g => asks_no ?_ hB
        · have h4 : 4 * takenN l ≤ 3 * l.length := by simp at g; omega
          refine ⟨_, rfl, ?_, hB⟩
          rw [decide_eq_true_iff]
          exact ⟨fun h => ⟨hp8, hent, h4, by omega⟩, fun h => by have := h.2.2.2; omega⟩
        · rintro ⟨_, _, h, _⟩; simp at g; omega
end
end Go.Eng
namespace Go.Eng
open Go Go.RowKit Go.Proofs
set_option maxRecDepth 10000
/-- Lengths that stay small. -/
def SmallN (l : List Node) : Prop := l.length ≤ 1000000 ∧ ∀ x ∈ l, x.ty.length ≤ 1000000 ∧ x.plus.length ≤ 1000000 ∧ x.less.length ≤ 1000000
def stp (row : List Stp) (i : Nat) : Stp := row.getD i default
theorem stp_eqAt {row : List Stp} {i : Nat} (h : i < row.length) : stp row i = row[i] := by simp [stp, h]
/-- The i-th step may be, by the document. -/
def stepOk12 (l : List Node) (n : Int) (row : List Stp) (plus : Bool) (i : Nat) : Bool :=
  (decide (i = 0) || decide ((stp row (i - 1)).1 < (stp row i).1)) && isN l (stp row i).2 && (decide ((stp row i).1 ∈ (node l n).ty) != plus) &&
  (if plus = true then decide (((stp row i).1, n) ∈ (node l (stp row i).2).less) && ((node l (stp row i).2).ty == with3 (node l n).ty (stp row i).1)
   else decide (((stp row i).1, n) ∈ (node l (stp row i).2).plus) && ((node l (stp row i).2).ty == without3 (node l n).ty (stp row i).1))
def steps12 (l : List Node) (n : Int) (row : List Stp) (plus : Bool) : Bool := (List.range row.length).all (stepOk12 l n row plus)
theorem Row.stpId {w : World} {a : Option Addr} {n c : Nat} {l : List Stp} (h : Row encStp w a n c l) {i : Nat} {K : Int → Prop} (hi : i < n) (hK : ∀ hl : i < l.length, K l[i].1) :
    ∃ p : Addr, a = some p ∧ 0 ≤ (i : Int) ∧ (i : Int) < (n : Int) ∧ ∃ x : Int, w.cell? (p.add ((i : Int).toNat * 2)) = some (.int .u64 x) ∧ K x := by
  obtain ⟨hl, p, hp, hc⟩ := h.atK enStp hi
  exact ⟨p, hp, by omega, by omega, _, hc 0 (by decide), hK hl⟩
theorem pre1 {k : Nat} (h0 : 0 < k) (h : k < 9223372036854775807) : IntKind.i64.wrap ((k : Int) - 1) = ((k - 1 : Nat) : Int) := by rw [wrap64 (by omega) (by omega)]; omega
theorem pre2 {k : Nat} (h : k < 9223372036854775806) : IntKind.i64.wrap ((k : Int) + 1 - 1) = (k : Int) := by rw [wrap64 (by omega) (by omega)]; omega
theorem isN_iff {l : List Node} {n : Int} (h : isN l n = true) : ∃ k : Nat, n = (k : Int) + 1 ∧ k < l.length := by
  simp only [isN, Bool.and_eq_true, decide_eq_true_eq] at h
  exact ⟨(n - 1).toNat, by omega, by omega⟩
section
variable {w : World} {a ra : Option Addr} {n c rn rc : Nat} {l : List Node} {row : List Stp}
theorem k_r12steps (h : Nodes w a n c l) (hs : SmallN l) {k0 : Nat} (hk0 : k0 < l.length) (hr : Row encStp w ra rn rc row) (hrs : ∀ s ∈ row, I64 s.2) (plus : Bool) :
    Cl Tryz.prog 97 #[.slice a n c, .int .i64 ((k0 : Int) + 1), .slice ra rn rc, .bool plus] w (Gives w (.bool (steps12 l ((k0 : Int) + 1) row plus))) := by
  refine c97 _ _ _ _ _ _ _ _ ?_
  have hE := h
  obtain ⟨rs, hrow, hall⟩ := h
  have el := hall.1
  obtain rfl : n = l.length := by have := hrow.len; omega
  have er := hr.len
  have hr63 := hr.n63
  have hs1 := hs.1
  unfold V97
  rw [pre2 (k := k0) (by omega)]
  refine hrow.nodeN hk0 fun hl0 => box_node fun w2 s2 B2' => ?_
  have x0 := hall.2 k0 hl0 hk0
  have hn0 : node l ((k0 : Int) + 1) = l[k0] := node_eq hk0
  refine ⟨fun _ i W => (Below w.heap.size w W ∧ W.heap[w.heap.size]? = some (.cells #[.bool rs[k0].used, .slice rs[k0].ty.a rs[k0].ty.n rs[k0].ty.c, .slice rs[k0].plus.a rs[k0].plus.n rs[k0].plus.c, .slice rs[k0].less.a rs[k0].less.n rs[k0].less.c] 56)) ∧ ∃ k : Nat, i = k ∧ k ≤ rn ∧ ∀ j, j < k → stepOk12 l ((k0 : Int) + 1) row plus j = true,
    fun _ i _ => rn - i.toNat, ⟨⟨B2', s2⟩, 0, rfl, by omega, by intros; omega⟩, ?_⟩
  rintro _ W _ _ ⟨⟨hB, q⟩, k, rfl, hk, hok⟩
  refine cnd (fun hc => ?_) fun hc => ?_
  · have hkn : k < rn := by simpa using hc
    refine (hr.below hB).stpN hkn fun hl => box_stp fun w5 s5 B5' => ?_
    have B6 := (hB.trans (B5'.mono hB.size)).drew
    have q6 := blk_drew (blk_below q B5' (blk_lt q))
    have s6 := blk_drew s5
    rintro _ rfl
    have hsk : stp row k = row[k] := stp_eqAt hl
    have h64 := hrs _ (List.getElem_mem hl)
    have no : ∀ W, Below w.heap.size w W → stepOk12 l ((k0 : Int) + 1) row plus k = false → Gives w (.bool (steps12 l ((k0 : Int) + 1) row plus)) (.bool false) W := by
      intro W hB hf
      refine ⟨?_, hB⟩
      have : steps12 l ((k0 : Int) + 1) row plus = false := by
        rw [steps12, List.all_eq_false]
        exact ⟨k, List.mem_range.2 hl, by rw [hf]; simp⟩
      rw [this]
    have yes : ∀ W, (Below w.heap.size w W ∧ W.heap[w.heap.size]? = some (.cells #[.bool rs[k0].used, .slice rs[k0].ty.a rs[k0].ty.n rs[k0].ty.c, .slice rs[k0].plus.a rs[k0].plus.n rs[k0].plus.c, .slice rs[k0].less.a rs[k0].less.n rs[k0].less.c] 56)) → stepOk12 l ((k0 : Int) + 1) row plus k = true →
        (Below w.heap.size w W ∧ W.heap[w.heap.size]? = some (.cells #[.bool rs[k0].used, .slice rs[k0].ty.a rs[k0].ty.n rs[k0].ty.c, .slice rs[k0].plus.a rs[k0].plus.n rs[k0].plus.c, .slice rs[k0].less.a rs[k0].less.n rs[k0].less.c] 56)) ∧ ∃ k' : Nat, ((k + 1 : Nat) : Int) = k' ∧ k' ≤ rn ∧ ∀ j, j < k' → stepOk12 l ((k0 : Int) + 1) row plus j = true := by
      intro W hW ht
      refine ⟨hW, k + 1, rfl, by omega, fun j hj => ?_⟩
      by_cases hjk : j = k
      · subst hjk; exact ht
      · exact hok j (by omega)
    rw [nx (k := k) (by omega)]
    refine cnd (fun g0 => ?_) fun g0 => ?_
    have hk0' : 0 < k := by simpa using g0
    rw [pre1 hk0' (by omega)]
    refine (hr.below B6).stpId (i := k - 1) (by omega) fun hl' => ⟨_, blk_cell s6 0, cnd (fun g1 => no _ B6 ?_) fun g1 => ?_⟩
    · have : ¬ row[k - 1].1 < row[k].1 := by have := of_decide_eq_true g1; omega
      have hk' : k ≠ 0 := by omega
      simp only [stepOk12, hsk, stp_eqAt hl', this, hk', decide_false, Bool.or_self, Bool.false_and]
    have hord : (decide (k = 0) || decide ((stp row (k - 1)).1 < (stp row k).1)) = true := by
      have : row[k - 1].1 < row[k].1 := by have := of_decide_eq_false g1; omega
      rw [hsk, stp_eqAt hl']; simp [this]
    clear g1 hl' hk0' g0
    rotate_left
    have hord : (decide (k = 0) || decide ((stp row (k - 1)).1 < (stp row k).1)) = true := by
      have : k = 0 := by simp at g0; omega
      simp [this]
    clear g0
    all_goals (
      refine ⟨_, blk_cell s6 1, (k_r12Is (hE.below B6) _ h64).is ⟨_, rfl, cnd (fun g1 => no _ B6 ?_) fun g1 => ?_⟩⟩
      · have : isN l row[k].2 = false := by simpa using g1
        simp only [stepOk12, hsk, this, Bool.and_false, Bool.false_and]
      have his : isN l row[k].2 = true := by simpa using g1
      clear g1
      refine ⟨_, _, _, blk_cell q6 1, _, blk_cell s6 0, (k_r03Has (x0.ty.below B6) _).tells fun w8 hq8 => ⟨_, rfl, cnd (fun g1 => no _ (B6.trans (hq8.below _)) ?_) fun g1 => ?_⟩⟩
      · have : (decide (row[k].1 ∈ l[k0].ty) != plus) = false := by unfold bne; rw [g1]; rfl
        simp only [stepOk12, hsk, hn0, this, Bool.and_false, Bool.false_and]
      have hhas : (decide (row[k].1 ∈ l[k0].ty) != plus) = true := by unfold bne; rw [g1]; rfl
      clear g1
      have B8 := B6.trans (hq8.below _)
      have q8 := blk_below q6 (hq8.below _) (blk_lt q6)
      have s8 := blk_below s6 (hq8.below _) (blk_lt s6)
      obtain ⟨k1, hk1, hk1l⟩ := isN_iff his
      have hn1 : node l row[k].2 = l[k1] := by rw [hk1]; exact node_eq hk1l
      refine ⟨_, blk_cell s8 1, ?_⟩
      rw [hk1, pre2 (k := k1) (by omega)]
      refine (hrow.below B8).nodeN hk1l fun hl1 => box_node fun w10 s10 B10' => ?_
      have x1 := hall.2 k1 hl1 hk1l
      have B10 := B8.trans (B10'.mono B8.size)
      have q10 := blk_below q8 B10' (blk_lt q8)
      have t10 := blk_below s8 B10' (blk_lt s8)
      refine ⟨_, blk_cell t10 0, box_stp fun w12 s12 B12' => ?_⟩
      have B13 := (B10.trans (B12'.mono B10.size)).drew
      have q13 := blk_drew (blk_below q10 B12' (blk_lt q10))
      have t13 := blk_drew (blk_below t10 B12' (blk_lt t10))
      have u13 := blk_drew (blk_below s10 B12' (blk_lt s10))
      have v13 := blk_drew s12
      rintro _ rfl
      cases plus with
      | true =>
        refine ⟨_, _, _, blk_cell u13 3, _, _, blk_cell v13 0, blk_cell v13 1, (k_r12has (x1.less.below B13) _ _).gives fun w14 B14' => ⟨_, rfl, cnd (fun g1 => no _ (B13.trans (B14'.mono B13.size)) ?_) fun g1 => ?_⟩⟩
        · have : decide ((row[k].1, (k0 : Int) + 1) ∈ l[k1].less) = false := by simpa using g1
          simp only [stepOk12, hsk, hn1, this, if_true, Bool.and_false, Bool.false_and]
        have hb : decide ((row[k].1, (k0 : Int) + 1) ∈ l[k1].less) = true := by simpa using g1
        have B14 := B13.trans (B14'.mono B13.size)
        refine ⟨_, _, _, blk_cell (blk_below u13 B14' (blk_lt u13)) 1, _, _, _, blk_cell (blk_below q13 B14' (blk_lt q13)) 1, _, blk_cell (blk_below t13 B14' (blk_lt t13)) 0, (k_r03With (x0.ty.below B14) _ (by have := x0.ty.len; have := (hs.2 _ (List.getElem_mem hk0)).1; omega)).mono ?_⟩
        rintro _ w15 ⟨a15, n15, c15, rfl, ho15, B15'⟩
        have B15 := B14.trans (B15'.mono B14.size)
        refine ⟨_, _, _, rfl, blk_cell (blk_below (blk_below u13 B14' (blk_lt u13)) B15' (Nat.lt_of_lt_of_le (blk_lt u13) B14'.size)) 1, (k_r03Same (x1.ty.below B15) ho15.row).tells fun w16 hq16 => ⟨_, rfl, cnd (fun g2 => no _ (B15.trans (hq16.below _)) ?_) fun g2 => ?_⟩⟩
        · have : (l[k1].ty == with3 l[k0].ty row[k].1) = false := by simpa using g2
          simp only [stepOk12, hsk, hn1, hn0, this, if_true, Bool.and_false]
        · have hs2 : (l[k1].ty == with3 l[k0].ty row[k].1) = true := by simpa using g2
          rintro _ rfl
          refine ⟨yes _ ⟨(B15.trans (hq16.below _)).drew, blk_drew (blk_below (blk_below (blk_below q13 B14' (blk_lt q13)) B15' (Nat.lt_of_lt_of_le (blk_lt q13) B14'.size)) (hq16.below _) (Nat.lt_of_lt_of_le (blk_lt q13) (Nat.le_trans B14'.size B15'.size)))⟩ ?_, dec hkn⟩
          rw [← hsk] at hb hs2 his hhas
          rw [← hsk] at hn1
          simp only [stepOk12, hord, his, hn0, hn1, hhas, hb, hs2, if_true, Bool.and_self]
      | false =>
        rintro _ rfl
        refine ⟨_, _, _, blk_cell (blk_drew u13) 2, _, _, blk_cell (blk_drew v13) 0, blk_cell (blk_drew v13) 1, (k_r12has (x1.plus.below B13.drew) _ _).gives fun w14 B14'' => ⟨_, rfl, cnd (fun g1 => no _ (B13.drew.trans (B14''.mono B13.size)) ?_) fun g1 => ?_⟩⟩
        · have : decide ((row[k].1, (k0 : Int) + 1) ∈ l[k1].plus) = false := by simpa using g1
          simp only [stepOk12, hsk, hn1, this, Bool.false_eq_true, if_false, Bool.and_false, Bool.false_and]
        have hb : decide ((row[k].1, (k0 : Int) + 1) ∈ l[k1].plus) = true := by simpa using g1
        have B14' : Below w12.drew.heap.size w12.drew w14 := (Below.refl _ _).drew.trans B14''
        have B14 := B13.trans (B14'.mono B13.size)
        refine ⟨_, _, _, blk_cell (blk_below u13 B14' (blk_lt u13)) 1, _, _, _, blk_cell (blk_below q13 B14' (blk_lt q13)) 1, _, blk_cell (blk_below t13 B14' (blk_lt t13)) 0, (k_r03Without (x0.ty.below B14) _ (by have := x0.ty.len; have := (hs.2 _ (List.getElem_mem hk0)).1; omega)).mono ?_⟩
        rintro _ w15 ⟨a15, n15, c15, rfl, ho15, B15'⟩
        have B15 := B14.trans (B15'.mono B14.size)
        refine ⟨_, _, _, rfl, blk_cell (blk_below (blk_below u13 B14' (blk_lt u13)) B15' (Nat.lt_of_lt_of_le (blk_lt u13) B14'.size)) 1, (k_r03Same (x1.ty.below B15) ho15.row).tells fun w16 hq16 => ⟨_, rfl, cnd (fun g2 => no _ (B15.trans (hq16.below _)) ?_) fun g2 => ?_⟩⟩
        · have : (l[k1].ty == without3 l[k0].ty row[k].1) = false := by simpa using g2
          simp only [stepOk12, hsk, hn1, hn0, this, Bool.false_eq_true, if_false, Bool.and_false]
        · have hs2 : (l[k1].ty == without3 l[k0].ty row[k].1) = true := by simpa using g2
          refine ⟨yes _ ⟨B15.trans (hq16.below _), blk_below (blk_below (blk_below q13 B14' (blk_lt q13)) B15' (Nat.lt_of_lt_of_le (blk_lt q13) B14'.size)) (hq16.below _) (Nat.lt_of_lt_of_le (blk_lt q13) (Nat.le_trans B14'.size B15'.size))⟩ ?_, dec hkn⟩
          rw [← hsk] at hb hs2 his hhas
          rw [← hsk] at hn1
          simp only [stepOk12, hord, his, hn0, hn1, hhas, hb, hs2, Bool.false_eq_true, if_false, Bool.and_self])
  · have hkn : ¬ k < rn := by simpa using hc
    refine ⟨?_, hB⟩
    have : steps12 l ((k0 : Int) + 1) row plus = true := by
      rw [steps12, List.all_eq_true]
      intro j hj
      exact hok j (by have := List.mem_range.1 hj; omega)
    rw [this]
end
end Go.Eng
namespace Go.Eng
open Go Go.RowKit Go.Proofs
set_option maxRecDepth 10000
/-- The i-th node may be, by the document. -/
def nodeOk12 (l : List Node) (i : Nat) : Bool :=
  if (node l ((i : Int) + 1)).used = true then
    right3 (node l ((i : Int) + 1)).ty && (findN l (node l ((i : Int) + 1)).ty == (i : Int) + 1) && steps12 l ((i : Int) + 1) (node l ((i : Int) + 1)).plus true && steps12 l ((i : Int) + 1) (node l ((i : Int) + 1)).less false
  else decide ((node l ((i : Int) + 1)).ty.length + (node l ((i : Int) + 1)).plus.length + (node l ((i : Int) + 1)).less.length = 0)
def manyN (l : List Node) : Nat := (l.filter fun x => x.used).length
def nodes12 (l : List Node) : Bool :=
  decide (0 < l.length) && (node l (l.length : Int)).used && (node l 1).used && decide ((node l 1).ty.length = 0) && (List.range l.length).all (nodeOk12 l) && decide (manyN l ≤ 4000)
theorem manyN_snoc (l : List Node) (x : Node) : manyN (l ++ [x]) = manyN l + (if x.used = true then 1 else 0) := by
  simp only [manyN, List.filter_append, List.length_append]
  by_cases h : x.used = true <;> simp [h]
theorem manyN_le (l : List Node) : manyN l ≤ l.length := List.length_filter_le _ _
/-- A graph. -/
structure PG where
  nodes : List Node
  slots : List Entry
/-- May a graph be, by the document? -/
def Right12 (G : PG) : Prop := nodes12 G.nodes = true ∧ Right7 G.slots ∧ all7 Entry.st Entry.ty G.slots = ents12 G.nodes
structure SmallG (G : PG) : Prop where
  n : SmallN G.nodes
  s : G.slots.length ≤ 1000000
  t : ∀ e ∈ G.slots, e.ty.length ≤ 1000000
section
variable {w : World} {a sa : Option Addr} {n c sn sc : Nat} {l : List Node} {G : PG}
theorem k_r12Nodes (h : Nodes w a n c l) (hs : SmallN l) : Cl Tryz.prog 47 #[.slice a n c] w (Gives w (.bool (nodes12 l))) := by
  refine c47 _ _ _ ?_
  have hE := h
  obtain ⟨rs, hrow, hall⟩ := h
  have el := hall.1
  obtain rfl : n = l.length := by have := hrow.len; omega
  have hs1 := hs.1
  have no : ∀ W, Below w.heap.size w W → nodes12 l = false → Gives w (.bool (nodes12 l)) (.bool false) W := fun W hB hf => ⟨by rw [hf], hB⟩
  unfold V47
  refine cnd (fun g => no _ (Below.refl _ _) ?_) fun g => ?_
  · have : l.length = 0 := by simpa using g
    simp [nodes12, this]
  have h0 : 0 < l.length := by
    have : l.length ≠ 0 := by intro h; rw [h] at g; simp at g
    omega
  clear g
  rw [pre1 (k := l.length) h0 (by omega)]
  refine hrow.nodeUsed (i := l.length - 1) (by omega) fun hl => cnd (fun g => no _ (Below.refl _ _) ?_) fun g => ?_
  · have e : node l (l.length : Int) = l[l.length - 1] := by
      have := node_eq (l := l) (k := l.length - 1) (by omega)
      rwa [show ((l.length - 1 : Nat) : Int) + 1 = (l.length : Int) by omega] at this
    have := (hall.2 (l.length - 1) hl (by omega)).used
    have hf : (node l (l.length : Int)).used = false := by rw [e, ← this]; simpa using g
    simp [nodes12, hf]
  have hlast : (node l (l.length : Int)).used = true := by
    have e : node l (l.length : Int) = l[l.length - 1] := by
      have := node_eq (l := l) (k := l.length - 1) (by omega)
      rwa [show ((l.length - 1 : Nat) : Int) + 1 = (l.length : Int) by omega] at this
    rw [e, ← (hall.2 (l.length - 1) hl (by omega)).used]; simpa using g
  clear g
  have e1 : node l 1 = l[0] := by
    have := node_eq (l := l) (k := 0) h0
    simpa using this
  refine hrow.nodeUsed (i := 0) (by omega) fun hl0 => cnd (fun g => no _ (Below.refl _ _) ?_) fun g => ?_
  · have hf : (node l 1).used = false := by rw [e1, ← (hall.2 0 hl0 h0).used]; simpa using g
    simp [nodes12, hf]
  have hfirst : (node l 1).used = true := by rw [e1, ← (hall.2 0 hl0 h0).used]; simpa using g
  clear g
  refine hrow.nodeTy (i := 0) (by omega) fun hl0 => cnd (fun g => no _ (Below.refl _ _) ?_) fun g => ?_
  · have := (hall.2 0 hl0 h0).ty.len
    have hf : ¬ (node l 1).ty.length = 0 := by rw [e1, ← this]; simp at g; omega
    simp only [nodes12, hf, decide_false, Bool.and_false, Bool.false_and]
  have hty1 : (node l 1).ty.length = 0 := by
    have := (hall.2 0 hl0 h0).ty.len
    rw [e1, ← this]; simp at g; omega
  clear g
  refine ⟨fun _ many i W => Below w.heap.size w W ∧ ∃ k : Nat, i = k ∧ k ≤ l.length ∧ many = ((manyN (l.take k) : Nat) : Int) ∧ ∀ j, j < k → nodeOk12 l j = true, fun _ _ i _ => l.length - i.toNat, ⟨Below.refl _ _, 0, rfl, by omega, rfl, by intros; omega⟩, ?_⟩
  rintro _ W _ _ _ ⟨hB, k, rfl, hk, rfl, hok⟩
  have hml := manyN_le (l.take k)
  have htk : (l.take k).length ≤ k := by simp; omega
  refine cnd (fun hc => ?_) fun hc => ?_
  · have hkn : k < l.length := by simpa using hc
    refine (hrow.below hB).nodeN hkn fun hl => box_node fun w3 s3 B3' => ?_
    have B3 := hB.trans (B3'.mono hB.size)
    have x := hall.2 k hl hkn
    have hnk : node l ((k : Int) + 1) = l[k] := node_eq hkn
    have hsm := hs.2 _ (List.getElem_mem hkn)
    have nok : ∀ W, Below w.heap.size w W → nodeOk12 l k = false → Gives w (.bool (nodes12 l)) (.bool false) W := by
      intro W hB hf
      refine no W hB ?_
      have : (List.range l.length).all (nodeOk12 l) = false := by
        rw [List.all_eq_false]
        exact ⟨k, List.mem_range.2 hkn, by rw [hf]; simp⟩
      simp only [nodes12, this, Bool.and_false, Bool.false_and]
    have yok : nodeOk12 l k = true → ∀ j, j < k + 1 → nodeOk12 l j = true := by
      intro ht j hj
      by_cases hjk : j = k
      · subst hjk; exact ht
      · exact hok j (by omega)
    have hsnoc := manyN_snoc (l.take k) l[k]
    rw [← take_one hkn] at hsnoc
    rw [nx (k := k) (by omega)]
    refine ⟨_, blk_cell s3 0, cnd (fun g => ?_) fun g => ?_⟩
    · have hu : l[k].used = false := by rw [← x.used]; simpa using g
      have t1 := x.ty.len; have t2 := x.plus.len; have t3 := x.less.len
      refine ⟨_, _, _, blk_cell s3 1, _, _, _, blk_cell s3 2, _, _, _, blk_cell s3 3, ?_⟩
      rw [wrap64 (i := ((rs[k].ty.n : Nat) : Int) + ((rs[k].plus.n : Nat) : Int)) (by omega) (by omega), wrap64 (by omega) (by omega)]
      refine cnd (fun g1 => nok _ B3 ?_) fun g1 => ?_
      · have hne : ¬ l[k].ty.length + l[k].plus.length + l[k].less.length = 0 := by
          have := of_decide_eq_true g1; omega
        simp only [nodeOk12, hnk, hu, Bool.false_eq_true, if_false, hne, decide_false]
      · have he : l[k].ty.length + l[k].plus.length + l[k].less.length = 0 := by
          have := of_decide_eq_false g1; omega
        refine ⟨⟨B3, k + 1, rfl, by omega, by rw [hsnoc, hu]; simp, yok ?_⟩, dec hkn⟩
        simp only [nodeOk12, hnk, hu, Bool.false_eq_true, if_false, he, decide_true]
    · have hu : l[k].used = true := by rw [← x.used]; simpa using g
      refine ⟨_, _, _, blk_cell s3 1, (k_r03Right (x.ty.below B3)).is ⟨_, rfl, cnd (fun g1 => nok _ B3 ?_) fun g1 => ⟨_, _, _, blk_cell s3 1, (k_r12Find (hE.below B3) (x.ty.below B3)).gives fun w5 B5' => ⟨_, rfl, ?_⟩⟩⟩⟩
      · have : right3 l[k].ty = false := by simpa using g1
        simp only [nodeOk12, hnk, hu, if_true, this, Bool.false_and]
      have h3 : right3 l[k].ty = true := by simpa using g1
      have B5 := B3.trans (B5'.mono B3.size)
      have s5 := blk_below s3 B5' (blk_lt s3)
      refine cnd (fun g2 => nok _ B5 ?_) fun g2 => ⟨_, _, _, blk_cell s5 2, ?_⟩
      · have : (findN l l[k].ty == (k : Int) + 1) = false := by
          have : ((k + 1 : Nat) : Int) = (k : Int) + 1 := by omega
          rw [this] at g2; simpa using g2
        simp only [nodeOk12, hnk, hu, if_true, this, Bool.and_false, Bool.false_and]
      have hf : (findN l l[k].ty == (k : Int) + 1) = true := by
        have : ((k + 1 : Nat) : Int) = (k : Int) + 1 := by omega
        rw [this] at g2; simpa using g2
      have hr1 : ∀ s ∈ l[k].plus, I64 s.2 := fun s hs => (x.rng.2 s (by simp [hs])).2.2
      have hr2 : ∀ s ∈ l[k].less, I64 s.2 := fun s hs => (x.rng.2 s (by simp [hs])).2.2
      refine (k_r12steps (hE.below B5) hs hkn (x.plus.below B5) hr1 true).gives fun w6 B6' => ⟨_, rfl, ?_⟩
      have B6 := B5.trans (B6'.mono B5.size)
      have s6 := blk_below s5 B6' (blk_lt s5)
      refine cnd (fun g3 => nok _ B6 ?_) fun g3 => ⟨_, _, _, blk_cell s6 3, ?_⟩
      · have : steps12 l ((k : Int) + 1) l[k].plus true = false := by simpa using g3
        simp only [nodeOk12, hnk, hu, if_true, this, Bool.and_false, Bool.false_and]
      have hp : steps12 l ((k : Int) + 1) l[k].plus true = true := by simpa using g3
      refine (k_r12steps (hE.below B6) hs hkn (x.less.below B6) hr2 false).gives fun w7 B7' => ⟨_, rfl, ?_⟩
      have B7 := B6.trans (B7'.mono B6.size)
      refine cnd (fun g4 => nok _ B7 ?_) fun g4 => ?_
      · have : steps12 l ((k : Int) + 1) l[k].less false = false := by simpa using g4
        simp only [nodeOk12, hnk, hu, if_true, this, Bool.and_false]
      have hl4 : steps12 l ((k : Int) + 1) l[k].less false = true := by simpa using g4
      rw [nx (by omega)]
      refine ⟨⟨B7, k + 1, rfl, by omega, by rw [hsnoc, hu]; simp, yok ?_⟩, dec hkn⟩
      simp only [nodeOk12, hnk, hu, if_true, h3, hf, hp, hl4, Bool.and_self]
  · have hkn : ¬ k < l.length := by simpa using hc
    obtain rfl : k = l.length := by omega
    refine ⟨?_, hB⟩
    rw [List.take_length]
    have hallok : (List.range l.length).all (nodeOk12 l) = true := by
      rw [List.all_eq_true]; intro j hj; exact hok j (List.mem_range.1 hj)
    have : decide (((manyN l : Nat) : Int) ≤ 4000) = decide (manyN l ≤ 4000) := by
      by_cases h : manyN l ≤ 4000
      · simp [h]; omega
      · simp [h]; omega
    rw [this]
    simp only [nodes12, h0, hlast, hfirst, hty1, hallok, decide_true, Bool.true_and]
theorem k_r12Right (h : Nodes w a n c G.nodes) (h2 : Ents w sa sn sc G.slots) (hs : SmallG G) : Cl Tryz.prog 11 #[.agg #[.slice a n c, .slice sa sn sc]] w (Asks w (Right12 G)) := by
  refine c11 _ _ _ _ _ _ ?_
  have hl1 : n = G.nodes.length := by obtain ⟨rs, h1, h2⟩ := h; have := h1.len; have := h2.1; omega
  have hl2 : sn = G.slots.length := by obtain ⟨rs, h1, h2⟩ := h2; have := h1.len; have := h2.1; omega
  have hs1 := hs.1.1; have hs2 := hs.2
  rintro _ w1 rfl h1
  have q1 : w1.heap[w.heap.size]? = some (.cells #[.slice a n c, .slice sa sn sc] 27) := by rw [h1]; exact blk_new _
  have B1 : Below w.heap.size w w1 := by rw [h1]; exact alloc_below _ _
  clear h1
  rintro _ rfl
  have q2 := blk_drew q1
  have B2 := B1.drew
  refine ⟨_, _, _, blk_cell q2 0, (k_r12Nodes (h.below B2) hs.1).gives fun w3 B3' => ⟨_, rfl, cnd (fun g => ?_) fun g => asks_no ?_ (B2.trans (B3'.mono B2.size))⟩⟩
  · have B3 := B2.trans (B3'.mono B2.size)
    have q3 := blk_below q2 B3' (blk_lt q2)
    refine ⟨_, _, _, blk_cell q3 1, (k_r07Right (h2.below B3) (by omega)).mono ?_⟩
    rintro _ w4 ⟨b4, rfl, hb4, B4'⟩
    have B4 := B3.trans (B4'.mono B3.size)
    have q4 := blk_below q3 B4' (blk_lt q3)
    refine ⟨_, rfl, cnd (fun g2 => ?_) fun g2 => asks_no ?_ B4⟩
    · refine ⟨_, _, _, blk_cell q4 1, _, _, _, blk_cell q4 0, (k_r07All (h2.below B4) (by omega)).mono ?_⟩
      rintro _ w5 ⟨a5, n5, c5, rfl, ho5, B5'⟩
      have B5 := B4.trans (B5'.mono B4.size)
      have q5 := blk_below q4 B5' (blk_lt q4)
      refine ⟨_, _, _, rfl, blk_cell q5 0, (k_r12Entries (h.below B5) (by omega)).mono ?_⟩
      rintro _ w6 ⟨a6, n6, c6, rfl, ho6, B6'⟩
      have B6 := B5.trans (B6'.mono B5.size)
      refine ⟨_, _, _, rfl, (k_r07Same (ho5.ents.below B6') ho6.ents).gives fun w7 B7' => ⟨_, rfl, _, rfl, ?_, B6.trans (B7'.mono B6.size)⟩⟩
      rw [decide_eq_true_iff]
      exact ⟨fun h => ⟨g, hb4.1 g2, h⟩, fun h => h.2.2⟩
    · rintro ⟨_, h, _⟩; rw [hb4.2 h] at g2; cases g2
  · rintro ⟨h, _⟩; rw [h] at g; cases g
end
end Go.Eng
namespace Go.Eng
open Go Go.RowKit Go.Proofs
set_option maxRecDepth 10000
/-- The i-th step may be, by the code. -/
def stepOkG (l : List Node) (n : Int) (row : List Stp) (plus : Bool) (i : Nat) : Bool :=
  (decide (i = 0) || decide ((stp row (i - 1)).1 < (stp row i).1)) && isN l (stp row i).2 && (has2 (node l n).ty (stp row i).1 != plus) &&
  (if plus = true then ((with2e (node l n).ty (stp row i).1).2 == 0) && ((node l (stp row i).2).ty == (with2e (node l n).ty (stp row i).1).1) && decide (((stp row i).1, n) ∈ (node l (stp row i).2).less)
   else ((without2e (node l n).ty (stp row i).1).2 == 0) && ((node l (stp row i).2).ty == (without2e (node l n).ty (stp row i).1).1) && decide (((stp row i).1, n) ∈ (node l (stp row i).2).plus))
def stepsG (l : List Node) (n : Int) (row : List Stp) (plus : Bool) : Bool := (List.range row.length).all (stepOkG l n row plus)
theorem cmpI_ge {x y : Int} : 0 ≤ cmpI x y ↔ ¬ x < y := by
  rw [← cmpI_lt]; omega
section
variable {w : World} {a ra sa : Option Addr} {n c rn rc sn sc : Nat} {l : List Node} {row : List Stp}
theorem k_gsteps (h : Nodes w a n c l) (hs : SmallN l) {k0 : Nat} (hk0 : k0 < l.length) (hr : Row encStp w ra rn rc row) (hrs : ∀ s ∈ row, I64 s.2) (plus : Bool) :
    Cl Tryz.prog 75 #[.agg #[.slice a n c, .slice sa sn sc], .int .i64 ((k0 : Int) + 1), .slice ra rn rc, .bool plus] w (Gives w (.bool (stepsG l ((k0 : Int) + 1) row plus))) := by
  refine c75 _ _ _ _ _ _ _ _ _ _ _ ?_
  have hE := h
  obtain ⟨rs, hrow, hall⟩ := h
  have el := hall.1
  obtain rfl : n = l.length := by have := hrow.len; omega
  have er := hr.len
  have hr63 := hr.n63
  have hs1 := hs.1
  unfold V75
  rw [pre2 (k := k0) (by omega)]
  rintro _ w1 rfl h1
  have q1 : w1.heap[w.heap.size]? = some (.cells #[.slice a l.length c, .slice sa sn sc] 27) := by rw [h1]; exact blk_new _
  have B1 : Below w.heap.size w w1 := by rw [h1]; exact alloc_below _ _
  clear h1
  refine ⟨_, _, _, blk_cell q1 0, (hrow.below B1).nodeTy hk0 fun hl0 => ?_⟩
  have x0 := hall.2 k0 hl0 hk0
  have hn0 : node l ((k0 : Int) + 1) = l[k0] := node_eq hk0
  refine ⟨fun ok i W => ok = true ∧ (Below w.heap.size w W ∧ W.heap[w.heap.size]? = some (.cells #[.slice a l.length c, .slice sa sn sc] 27)) ∧ ∃ k : Nat, i = k ∧ k ≤ rn ∧ ∀ j, j < k → stepOkG l ((k0 : Int) + 1) row plus j = true,
    fun _ i _ => rn - i.toNat, ⟨rfl, ⟨B1, q1⟩, 0, rfl, by omega, by intros; omega⟩, ?_⟩
  rintro _ W _ _ ⟨rfl, ⟨hB, q⟩, k, rfl, hk, hok⟩
  refine cnd (fun hc => ?_) fun hc => ?_
  · have hkn : k < rn := by simpa using hc
    refine (hr.below hB).stpN hkn fun hl => box_stp fun w5 s5 B5' => ?_
    have B6 := (hB.trans (B5'.mono hB.size)).drew
    have q6 := blk_drew (blk_below q B5' (blk_lt q))
    have s6 := blk_drew s5
    rintro _ rfl
    have hsk : stp row k = row[k] := stp_eqAt hl
    have h64 := hrs _ (List.getElem_mem hl)
    have no : ∀ W, Below w.heap.size w W → stepOkG l ((k0 : Int) + 1) row plus k = false → Gives w (.bool (stepsG l ((k0 : Int) + 1) row plus)) (.bool false) W := by
      intro W hB hf
      refine ⟨?_, hB⟩
      have : stepsG l ((k0 : Int) + 1) row plus = false := by
        rw [stepsG, List.all_eq_false]
        exact ⟨k, List.mem_range.2 hl, by rw [hf]; simp⟩
      rw [this]
    have yes : ∀ W, (Below w.heap.size w W ∧ W.heap[w.heap.size]? = some (.cells #[.slice a l.length c, .slice sa sn sc] 27)) → stepOkG l ((k0 : Int) + 1) row plus k = true →
        true = true ∧ (Below w.heap.size w W ∧ W.heap[w.heap.size]? = some (.cells #[.slice a l.length c, .slice sa sn sc] 27)) ∧ ∃ k' : Nat, ((k + 1 : Nat) : Int) = k' ∧ k' ≤ rn ∧ ∀ j, j < k' → stepOkG l ((k0 : Int) + 1) row plus j = true := by
      intro W hW ht
      refine ⟨rfl, hW, k + 1, rfl, by omega, fun j hj => ?_⟩
      by_cases hjk : j = k
      · subst hjk; exact ht
      · exact hok j (by omega)
    rw [nx (k := k) (by omega)]
    refine cnd (fun g0 => ?_) fun g0 => ?_
    have hk0' : 0 < k := by simpa using g0
    rw [pre1 hk0' (by omega)]
    refine (hr.below B6).stpN (i := k - 1) (by omega) fun hl' => ⟨_, _, blk_cell s6 0, blk_cell s6 1, k_gcompare.gives fun w7 B7' => ⟨_, rfl, cnd (fun g1 => no _ (B6.trans (B7'.mono B6.size)) ?_) fun g1 => ?_⟩⟩
    · have : ¬ row[k - 1].1 < row[k].1 := cmpI_ge.1 (of_decide_eq_true g1)
      have hk' : k ≠ 0 := by omega
      simp only [stepOkG, hsk, stp_eqAt hl', this, hk', decide_false, Bool.or_self, Bool.false_and]
    have hord : (decide (k = 0) || decide ((stp row (k - 1)).1 < (stp row k).1)) = true := by
      have : row[k - 1].1 < row[k].1 := by
        have := of_decide_eq_false g1
        rw [cmpI_ge] at this; exact Decidable.not_not.1 this
      rw [hsk, stp_eqAt hl']; simp [this]
    have B7 := B6.trans (B7'.mono B6.size)
    have q7 := blk_below q6 B7' (blk_lt q6)
    have s7 := blk_below s6 B7' (blk_lt s6)
    clear g1 hl' hk0' g0 B7' B6 q6 s6 B5' s5
    rotate_left
    have hord : (decide (k = 0) || decide ((stp row (k - 1)).1 < (stp row k).1)) = true := by
      have : k = 0 := by simp at g0; omega
      simp [this]
    have B7 := B6
    have q7 := q6
    have s7 := s6
    clear g0 B6 q6 s6 B5' s5
    all_goals (
      refine ⟨_, _, _, _, _, _, blk_cell q7 0, blk_cell q7 1, _, blk_cell s7 1, (k_gis (hE.below B7) _ h64).gives fun w8 B8' => ⟨_, rfl, ?_⟩⟩
      have B8 := B7.trans (B8'.mono B7.size)
      have q8 := blk_below q7 B8' (blk_lt q7)
      have s8 := blk_below s7 B8' (blk_lt s7)
      refine cnd (fun g1 => no _ B8 ?_) fun g1 => ?_
      · have : isN l row[k].2 = false := by simpa using g1
        simp only [stepOkG, hsk, this, Bool.and_false, Bool.false_and]
      have his : isN l row[k].2 = true := by simpa using g1
      clear g1
      refine ⟨_, blk_cell s8 0, (k_tHas (x0.ty.below B8) _).gives fun w9 B9' => ⟨_, rfl, ?_⟩⟩
      have B9 := B8.trans (B9'.mono B8.size)
      have q9 := blk_below q8 B9' (blk_lt q8)
      have s9 := blk_below s8 B9' (blk_lt s8)
      refine cnd (fun g1 => no _ B9 ?_) fun g1 => ?_
      · have : (has2 l[k0].ty row[k].1 != plus) = false := by unfold bne; rw [g1]; rfl
        simp only [stepOkG, hsk, hn0, this, Bool.and_false, Bool.false_and]
      have hhas : (has2 l[k0].ty row[k].1 != plus) = true := by unfold bne; rw [g1]; rfl
      clear g1
      obtain ⟨k1, hk1, hk1l⟩ := isN_iff his
      have hn1 : node l row[k].2 = l[k1] := by rw [hk1]; exact node_eq hk1l
      refine ⟨_, _, _, blk_cell q9 0, _, blk_cell s9 1, ?_⟩
      rw [hk1, pre2 (k := k1) (by omega)]
      refine (hrow.below B9).nodeN hk1l fun hl1 => box_node fun w10 s10 B10' => ?_
      have x1 := hall.2 k1 hl1 hk1l
      have B10 := B9.trans (B10'.mono B9.size)
      have q10 := blk_below q9 B10' (blk_lt q9)
      have t10 := blk_below s9 B10' (blk_lt s9)
      cases plus with
      | true =>
        refine ⟨_, blk_cell t10 0, (k_tWith (x0.ty.below B10) _).mono ?_⟩
        rintro _ w11 ⟨a11, n11, c11, rfl, hr11, B11'⟩
        have B11 := B10.trans (B11'.mono B10.size)
        have s11 := blk_below s10 B11' (blk_lt s10)
        have t11 := blk_below t10 B11' (blk_lt t10)
        have q11 := blk_below q10 B11' (blk_lt q10)
        refine ⟨_, _, _, _, rfl, _, _, _, blk_cell s11 3, cnd (fun g1 => no _ B11 ?_) fun g1 => ⟨_, _, _, blk_cell s11 1, (k_EqIds (x1.ty.below B11) hr11).tells fun w12 hq12 => ⟨_, rfl, cnd (fun g2 => no _ (B11.trans (hq12.below _)) ?_) fun g2 => ?_⟩⟩⟩
        · have : ((with2e l[k0].ty row[k].1).2 == 0) = false := by unfold bne at g1; simpa using g1
          simp only [stepOkG, hsk, hn0, this, if_true, Bool.and_false, Bool.false_and]
        · have : (l[k1].ty == (with2e l[k0].ty row[k].1).1) = false := by simpa using g2
          simp only [stepOkG, hsk, hn0, hn1, this, if_true, Bool.and_false, Bool.false_and]
        have he : ((with2e l[k0].ty row[k].1).2 == 0) = true := by unfold bne at g1; simpa using g1
        have hty : (l[k1].ty == (with2e l[k0].ty row[k].1).1) = true := by simpa using g2
        have B12 := B11.trans (hq12.below _)
        have t12 := blk_below t11 (hq12.below _) (blk_lt t11)
        refine ⟨_, blk_cell t12 0, (k_ContainsSteps (x1.less.below B12) _ _).gives fun w13 B13' => ⟨_, rfl, cnd (fun g3 => no _ (B12.trans (B13'.mono B12.size)) ?_) fun g3 => ?_⟩⟩
        · have : decide ((row[k].1, (k0 : Int) + 1) ∈ l[k1].less) = false := by simpa using g3
          simp only [stepOkG, hsk, hn1, this, if_true, Bool.and_false]
        · have hb : decide ((row[k].1, (k0 : Int) + 1) ∈ l[k1].less) = true := by simpa using g3
          refine ⟨yes _ ⟨B12.trans (B13'.mono B12.size), blk_below (blk_below q11 (hq12.below _) (blk_lt q11)) B13' (Nat.lt_of_lt_of_le (blk_lt q11) (hq12.below 0).size)⟩ ?_, dec hkn⟩
          rw [← hsk] at hb hty his hhas he
          rw [← hsk] at hn1
          simp only [stepOkG, hord, his, hn0, hn1, hhas, hb, hty, he, if_true, Bool.and_self]
      | false =>
        refine ⟨_, blk_cell t10 0, (k_tWithout (x0.ty.below B10) _).mono ?_⟩
        rintro _ w11 ⟨a11, n11, c11, rfl, hr11, B11'⟩
        have B11 := B10.trans (B11'.mono B10.size)
        have s11 := blk_below s10 B11' (blk_lt s10)
        have t11 := blk_below t10 B11' (blk_lt t10)
        have q11 := blk_below q10 B11' (blk_lt q10)
        refine ⟨_, _, _, _, rfl, _, _, _, blk_cell s11 2, cnd (fun g1 => no _ B11 ?_) fun g1 => ⟨_, _, _, blk_cell s11 1, (k_EqIds (x1.ty.below B11) hr11).tells fun w12 hq12 => ⟨_, rfl, cnd (fun g2 => no _ (B11.trans (hq12.below _)) ?_) fun g2 => ?_⟩⟩⟩
        · have : ((without2e l[k0].ty row[k].1).2 == 0) = false := by unfold bne at g1; simpa using g1
          simp only [stepOkG, hsk, hn0, this, Bool.false_eq_true, if_false, Bool.and_false, Bool.false_and]
        · have : (l[k1].ty == (without2e l[k0].ty row[k].1).1) = false := by simpa using g2
          simp only [stepOkG, hsk, hn0, hn1, this, Bool.false_eq_true, if_false, Bool.and_false, Bool.false_and]
        have he : ((without2e l[k0].ty row[k].1).2 == 0) = true := by unfold bne at g1; simpa using g1
        have hty : (l[k1].ty == (without2e l[k0].ty row[k].1).1) = true := by simpa using g2
        have B12 := B11.trans (hq12.below _)
        have t12 := blk_below t11 (hq12.below _) (blk_lt t11)
        refine ⟨_, blk_cell t12 0, (k_ContainsSteps (x1.plus.below B12) _ _).gives fun w13 B13' => ⟨_, rfl, cnd (fun g3 => no _ (B12.trans (B13'.mono B12.size)) ?_) fun g3 => ?_⟩⟩
        · have : decide ((row[k].1, (k0 : Int) + 1) ∈ l[k1].plus) = false := by simpa using g3
          simp only [stepOkG, hsk, hn1, this, Bool.false_eq_true, if_false, Bool.and_false]
        · have hb : decide ((row[k].1, (k0 : Int) + 1) ∈ l[k1].plus) = true := by simpa using g3
          refine ⟨yes _ ⟨B12.trans (B13'.mono B12.size), blk_below (blk_below q11 (hq12.below _) (blk_lt q11)) B13' (Nat.lt_of_lt_of_le (blk_lt q11) (hq12.below 0).size)⟩ ?_, dec hkn⟩
          rw [← hsk] at hb hty his hhas he
          rw [← hsk] at hn1
          simp only [stepOkG, hord, his, hn0, hn1, hhas, hb, hty, he, Bool.false_eq_true, if_false, Bool.and_self])
  · have hkn : ¬ k < rn := by simpa using hc
    refine ⟨?_, hB⟩
    have : stepsG l ((k0 : Int) + 1) row plus = true := by
      rw [stepsG, List.all_eq_true]
      intro j hj
      exact hok j (by have := List.mem_range.1 hj; omega)
    rw [this]
end
end Go.Eng
