/- Part 9 of the proof of GraphTurnsSaid. What is proved: what a call of each function leaves. Conditions: those that each theorem names. -/
import Derived.Test.YtfcnkaignjdpgaaGreatA8
set_option linter.unusedVariables false
set_option linter.unusedSimpArgs false
set_option linter.unusedSectionVars false
namespace Go.Eng
open Go Go.RowKit Go.Proofs
set_option maxRecDepth 10000
/-- Nodes of which one has a type, its number; the error: by the document. -/
def of12 (l : List Node) (t : List Int) : List Node × Int × Int :=
  if right3 t = false then ([], 0, 130) else if 0 < findN l t then (l, findN l t, 0) else if (ents12 l).length = 4000 then ([], 0, 6)
  else (setNode l (freeIx l) ⟨true, t, [], []⟩, (freeIx l : Int) + 1, 0)
/-- Nodes, a number and an error. -/
def NodE3 (w : World) (p : List Node × Int × Int) (v : Value) (w' : World) : Prop := ∃ a n c, v = .tuple #[.slice a n c, .int .i64 p.2.1, .int .i64 p.2.2] ∧ Nodes w' a n c p.1 ∧ Below w.heap.size w w'
theorem nodE3 {w w' : World} {p : List Node × Int × Int} {l : List Node} {m e : Int} {a : Option Addr} {n c : Nat} (hp : p = (l, m, e)) (h : Nodes w' a n c l) (hB : Below w.heap.size w w') : NodE3 w p (.tuple #[.slice a n c, .int .i64 m, .int .i64 e]) w' := by
  subst hp; exact ⟨_, _, _, rfl, h, hB⟩
theorem Nodes.nil {w : World} : Nodes w none 0 0 [] := ⟨[], Row.nil', All2.nil⟩
/-- Nodes whose row is one's own, all they hold lying in an elder world. -/
def CopyN (w0 : World) (w : World) (a : Option Addr) (n c : Nat) (l : List Node) : Prop := ∃ qs : List NP, qs.map (·.2) = l ∧ Own encNode 4 56 w0.heap.size w a n c (qs.map (·.1)) ∧ ∀ p ∈ qs, IsNode w0 p.1 p.2
theorem CopyN.nodes {w0 w : World} {a : Option Addr} {n c : Nat} {l : List Node} (h : CopyN w0 w a n c l) (hB : Below w0.heap.size w0 w) : Nodes w a n c l := by
  obtain ⟨qs, rfl, ho, hq⟩ := h
  exact ⟨_, ho.row, all2_npairs fun p hp => (hq p hp).below hB⟩
theorem CopyN.below {w0 w w' : World} {a : Option Addr} {n c : Nat} {l : List Node} (h : CopyN w0 w a n c l) (hB : Below w.heap.size w w') : CopyN w0 w' a n c l := by
  obtain ⟨qs, h1, ho, hq⟩ := h
  exact ⟨qs, h1, ho.below hB, hq⟩
section
variable {w : World} {a ta : Option Addr} {n c tn tc : Nat} {l : List Node} {t : List Int}
/-- append to an empty row: a copy. -/
theorem copy_nodes (h : Nodes w a n c l) (hs : n ≤ 1000010) {ty : TypeId} {K : Option Addr → Nat → Nat → World → Prop} (hK : ∀ a' n' c' w', CopyN w w' a' n' c' l → Below w.heap.size w w' → K a' n' c' w') :
    ∀ (b : Nat) (w4 : World), b = w.heap.size → w4 = w.alloc (.cells #[] 56) →
    ∃ (x4a : Option Addr) (x4n x4c : Nat) (w5 : World), Sem.run Tryz.prog (Builtin.append_ #[22, 22] ty #[.slice (some (Addr.mk b 0 none)) 0 0, .slice a n c]) w4 = .ok (.slice x4a x4n x4c) w5 ∧ K x4a x4n x4c w5 := by
  rintro b w4 rfl rfl
  obtain ⟨ps, hrow, hps, hpG⟩ := h.pairs
  have hB : Below w.heap.size w (w.alloc (.cells #[] 56)) := alloc_below _ _
  obtain ⟨a', n', c', w', hrun, ho, hg⟩ := app_own (a := some (Addr.mk w.heap.size 0 none)) (n := 0) (c := 0) (l := ([] : List RNode)) (lo := w.heap.size) (ty := ty) (c' := c) tyNodes enNode (Own.new enNode.len w [] (Nat.le_refl _) (Nat.zero_le _)) (by rw [size_alloc]; omega) (hrow.rd.below hB) hrow.nil (by simp only [maxLen]; omega) (by omega)
  exact ⟨_, _, _, _, hrun, hK _ _ _ _ ⟨ps, hpG, ho, hps⟩ (hB.grown hg (by rw [size_alloc]; omega) (fun k hk => by cases hk; exact Nat.le_refl _))⟩
theorem isN_freeQ {l : List Node} {k : Nat} (hk : k ≤ freeIx l) (hl : l.length ≤ 1000010) : I64 ((k : Int) + 1) := by
  have := freeIx_le l; simp only [I64]; omega
theorem k_r12Of (h : Nodes w a n c l) (hs : l.length ≤ 1000000) (ht : Row encId w ta tn tc t) (hr : Rng t) : Cl Tryz.prog 13 #[.slice a n c, .slice ta tn tc] w (NodE3 w (of12 l t)) := by
  refine c13 _ _ _ _ _ _ ?_
  have hnl := h.len
  refine (k_r03Right ht).is ⟨_, rfl, cnd (fun g => ?_) fun g => ?_⟩
  · have : right3 t = false := by simpa using g
    exact nodE3 (by simp [of12, this]) Nodes.nil (Below.refl _ _)
  have hr3 : right3 t = true := by simpa using g
  clear g
  refine (k_r12Find h ht).gives fun w2 B2 => ⟨_, rfl, cnd (fun g => ?_) fun g => ?_⟩
  · have : 0 < findN l t := of_decide_eq_true g
    exact nodE3 (by simp [of12, hr3, this]) (h.below B2) B2
  have hf : ¬ 0 < findN l t := of_decide_eq_false g
  clear g
  refine (k_r12Entries (h.below B2) (by omega)).mono ?_
  rintro _ w3 ⟨a3, n3, c3, rfl, ho3, B3'⟩
  have B3 := B2.trans (B3'.mono B2.size)
  have hn3 := ho3.ents.len
  refine ⟨_, _, _, rfl, cnd (fun g => ?_) fun g => ?_⟩
  · have : (ents12 l).length = 4000 := by simp at g; omega
    exact nodE3 (by simp [of12, hr3, hf, this]) Nodes.nil B3
  have h4 : ¬ (ents12 l).length = 4000 := by simp at g; omega
  clear g
  have hle := freeIx_le l
  refine copy_nodes (h.below B3) (by omega) fun a4 n4 c4 w5 hC B5' => ?_
  have B5 := B3.trans (B5'.mono B3.size)
  have hn4 : n4 = l.length := (hC.nodes B5').len
  refine ⟨fun m W => (Below w3.heap.size w3 W ∧ CopyN w3 W a4 n4 c4 l) ∧ ∃ k : Nat, m = (k : Int) + 1 ∧ k ≤ freeIx l, fun m _ => 10000000 - m.toNat, ⟨⟨B5', hC⟩, 0, rfl, by omega⟩, ?_⟩
  rintro _ W _ ⟨⟨hB, hCW⟩, k, rfl, hk⟩
  refine (k_r12Is (hCW.nodes hB) _ (isN_freeQ hk (by omega))).is ⟨_, rfl, ?_⟩
  rw [isN_free hk]
  refine cnd (fun g => ?_) fun g => ?_
  · have hlt : k < freeIx l := of_decide_eq_true g
    rw [wrap64 (by omega) (by omega)]
    exact ⟨⟨⟨hB, hCW⟩, k + 1, by omega, hlt⟩, by simp only []; omega⟩
  have hkf : freeIx l = k := by have := of_decide_eq_false g; omega
  clear g
  have hBw := B3.trans (hB.mono B3.size)
  obtain ⟨qs, hqs, ho, hq⟩ := hCW
  have hql : qs.length = n4 := by have := ho.len; simpa using this.symm
  have p2k : IntKind.i64.wrap ((k : Int) + 1 - 1) = (k : Int) := pre2 (by omega)
  rw [p2k]
  have fin : ∀ {W : World} {a' : Option Addr} {n' c' : Nat} {L : List NP}, Below w3.heap.size w3 W → Own encNode 4 56 w3.heap.size W a' n' c' (L.map (·.1)) → (∀ p ∈ L, IsNode w3 p.1 p.2) → k < n' → (L.map (·.2)).set k ⟨true, t, [], []⟩ = setNode l k ⟨true, t, [], []⟩ →
      ∃ p : Addr, a' = some p ∧ 0 ≤ ((k : Nat) : Int) ∧ ((k : Nat) : Int) < (n' : Int) ∧ ((W.cell? (p.add (((k : Nat) : Int).toNat * 4))).isSome = true ∧ W.frozen? (p.add (((k : Nat) : Int).toNat * 4)) = false ∧ ((W.cell? ((p.add (((k : Nat) : Int).toNat * 4)).add 1)).isSome = true ∧ W.frozen? ((p.add (((k : Nat) : Int).toNat * 4)).add 1) = false ∧ ((W.cell? ((p.add (((k : Nat) : Int).toNat * 4)).add 2)).isSome = true ∧ W.frozen? ((p.add (((k : Nat) : Int).toNat * 4)).add 2) = false ∧ ((W.cell? ((p.add (((k : Nat) : Int).toNat * 4)).add 3)).isSome = true ∧ W.frozen? ((p.add (((k : Nat) : Int).toNat * 4)).add 3) = false ∧
      (∀ w10 : World, w10 = (((W.setCell (p.add (((k : Nat) : Int).toNat * 4)) (.bool true)).setCell ((p.add (((k : Nat) : Int).toNat * 4)).add 1) (.slice ta tn tc)).setCell ((p.add (((k : Nat) : Int).toNat * 4)).add 2) (.slice none 0 0)).setCell ((p.add (((k : Nat) : Int).toNat * 4)).add 3) (.slice none 0 0) → NodE3 w (of12 l t) (.tuple #[.slice a' n' c', .int .i64 ((k : Int) + 1), .int .i64 0]) w10))))) := by
    intro W a' n' c' L hB ho hL hkn hset
    obtain ⟨gb, ha, hgl, hcells, hput, hgrw⟩ := ho.put enNode (i := k) hkn (⟨true, ⟨ta, tn, tc⟩, ⟨none, 0, 0⟩, ⟨none, 0, 0⟩⟩ : RNode)
    have c0' := hcells 0 (by decide)
    rw [Addr.add_zero'] at c0'
    refine ⟨_, ha, by omega, by omega, ?_⟩
    rw [Int.toNat_natCast]
    refine ⟨c0'.1, c0'.2, (hcells 1 (by decide)).1, (hcells 1 (by decide)).2, (hcells 2 (by decide)).1, (hcells 2 (by decide)).2, (hcells 3 (by decide)).1, (hcells 3 (by decide)).2, ?_⟩
    rintro w10 h10
    have h10' : w10 = wrs W (Addr.add ⟨gb, 0, none⟩ (k * 4)) 0 (encNode (⟨true, ⟨ta, tn, tc⟩, ⟨none, 0, 0⟩, ⟨none, 0, 0⟩⟩ : RNode)) := h10
    rw [← h10'] at hput hgrw
    have hB10 : Below w3.heap.size w3 w10 := hB.grown hgrw hB.size (fun k e => by cases e; exact hgl)
    refine nodE3 (l := setNode l k ⟨true, t, [], []⟩) ?_ ?_ (B3.trans (hB10.mono B3.size))
    · simp only [of12, hr3, hf, h4, hkf, Bool.true_eq_false, if_false]
    · refine CopyN.nodes (w0 := w3) ⟨L.set k ((⟨true, ⟨ta, tn, tc⟩, ⟨none, 0, 0⟩, ⟨none, 0, 0⟩⟩ : RNode), (⟨true, t, [], []⟩ : Node)), by rw [List.map_set]; exact hset, by rw [List.map_set]; exact hput, fun p hp => ?_⟩ hB10
      rcases List.mem_or_eq_of_mem_set hp with hp | rfl
      · exact hL p hp
      · exact ⟨rfl, ht.below B3, Row.nil', Row.nil', hr, fun s hs => by simp at hs⟩
  refine cnd (fun g => ?_) fun g => ?_
  · have hkn : k = n4 := by have := of_decide_eq_true g; omega
    refine app1 tyNodes enNode ho hB.size blankRN (by simp only [maxLen]; omega) (by omega) fun a6 c6 w9 ho9 hg9 => ?_
    refine fin (L := qs ++ [((blankRN, blankN) : NP)]) (hB.trans (ho.belowOf hg9 hB.size)) (by rw [List.map_append]; exact ho9) (fun p hp => ?_) (by omega) ?_
    · rcases List.mem_append.1 hp with hp | hp
      · exact hq p hp
      · simp only [List.mem_singleton] at hp
        subst hp; exact ⟨rfl, Row.nil', Row.nil', Row.nil', says_blankN.rng⟩
    · have : ¬ k < l.length := by omega
      rw [setNode, if_neg this, List.map_append, hqs, List.set_append_right _ _ (by omega), show k - l.length = 0 by omega]; rfl
  · have hkn : k < n4 := by have := of_decide_eq_false g; omega
    exact fin (L := qs) hB ho hq hkn (by rw [setNode, if_pos (by omega), hqs])
end
end Go.Eng
namespace Go.Eng
open Go Go.RowKit Go.Proofs
set_option maxRecDepth 10000
/-- Nodes of which one is not used; the error: by the document. -/
def drop12 (l : List Node) (n : Int) : List Node × Int :=
  if isN l n = false then ([], 2) else if n = 1 then ([], 2) else (trimN ((l.set (n - 1).toNat blankN).map (awayN n)), 0)
/-- Nodes, and an error. -/
def NodE2 (w : World) (p : List Node × Int) (v : Value) (w' : World) : Prop := ∃ a n c, v = .tuple #[.slice a n c, .int .i64 p.2] ∧ Nodes w' a n c p.1 ∧ Below w.heap.size w w'
theorem nodE2 {w w' : World} {p : List Node × Int} {l : List Node} {e : Int} {a : Option Addr} {n c : Nat} (hp : p = (l, e)) (h : Nodes w' a n c l) (hB : Below w.heap.size w w') : NodE2 w p (.tuple #[.slice a n c, .int .i64 e]) w' := by
  subst hp; exact ⟨_, _, _, rfl, h, hB⟩
section
variable {w : World} {a : Option Addr} {n c : Nat} {l : List Node}
theorem k_r12Drop (h : Nodes w a n c l) (hs : SmallN l) (h1 : ∀ h0 : 0 < l.length, l[0].used = true) {m : Int} (hm : I64 m) : Cl Tryz.prog 18 #[.slice a n c, .int .i64 m] w (NodE2 w (drop12 l m)) := by
  refine c18 _ _ _ _ ?_
  have hnl := h.len
  have hs1 := hs.1
  refine (k_r12Is h m hm).is ⟨_, rfl, cnd (fun g => ?_) fun g => cnd (fun g2 => ?_) fun g2 => ?_⟩
  · have : isN l m = false := by simpa using g
    exact nodE2 (by simp [drop12, this]) Nodes.nil (Below.refl _ _)
  · have hi : isN l m = true := by simpa using g
    have : m = 1 := by simpa using g2
    exact nodE2 (by simp [drop12, hi, this]) Nodes.nil (Below.refl _ _)
  have hi : isN l m = true := by simpa using g
  have hm1 : m ≠ 1 := by simpa using g2
  clear g g2
  obtain ⟨k0, rfl, hk0⟩ := isN_iff hi
  have hk00 : 0 < k0 := by omega
  have ht0 : ((k0 : Int) + 1 - 1).toNat = k0 := by omega
  obtain ⟨ps, hrow, hps, hpG⟩ := h.pairs
  have hpl : ps.length = n := by rw [hnl, ← hpG]; simp
  generalize hL9 : l.set k0 blankN = L9
  have hL9l : L9.length = n := by rw [← hL9, List.length_set]; omega
  refine ⟨fun oa on oc i W => Below w.heap.size w W ∧ ∃ (k : Nat) (qs : List NP), i = k ∧ k ≤ n ∧ qs.map (·.2) = (L9.take k).map (awayN ((k0 : Int) + 1)) ∧ Own encNode 4 56 w.heap.size W oa on oc (qs.map (·.1)) ∧
      ∀ p ∈ qs, NodeSays p.1 p.2 ∧ Row encId w p.1.ty.a p.1.ty.n p.1.ty.c p.2.ty ∧ Own encStp 2 71 w.heap.size W p.1.plus.a p.1.plus.n p.1.plus.c p.2.plus ∧ Own encStp 2 71 w.heap.size W p.1.less.a p.1.less.n p.1.less.c p.2.less, fun _ _ _ i _ => n - i.toNat,
    ⟨Below.refl _ _, 0, [], rfl, by omega, by simp, Own.nil, by simp⟩, ?_⟩
  rintro _ W oa on oc _ ⟨hB, k, qs, rfl, hk, hsnd, ho, hq⟩
  have hql : qs.length = k := by have := congrArg List.length hsnd; simp at this; omega
  have hon : on = k := by have := ho.len; simp at this; omega
  refine cnd (fun hc => ?_) fun hc => ?_
  · have hkn : k < n := by simpa using hc
    have hkp : k < ps.length := by omega
    have hX := hps _ (List.getElem_mem hkp)
    have hpk : ps[k].2 = l[k]'(by omega) := by
      have : (ps.map (·.2))[k]'(by simpa using hkp) = l[k]'(by omega) := by simp only [hpG]
      simpa using this
    refine (hrow.below hB).nodeN hkn fun hl => box_node fun w4 s4 B4' => ?_
    have e0 : (ps.map (·.1))[k] = ps[k].1 := by simp
    rw [e0] at s4
    have B4 := hB.trans (B4'.mono hB.size)
    have hsm := hs.2 _ (List.getElem_mem (show k < l.length by omega))
    rw [nx (by omega)]
    have hL9k : L9[k]'(by omega) = if k0 = k then blankN else l[k]'(by omega) := by subst hL9; exact List.getElem_set ..
    refine cnd (fun g => ?_) fun g => ?_
    have hkk : k0 = k := by
      have h0 : ((k + 1 : Nat) : Int) = (k0 : Int) + 1 := by simpa using g
      omega
    refine ⟨blk_some s4 (by simp), blk_free s4 _, blk_some s4 (j := 1) (by simp), blk_free s4 1, blk_some s4 (j := 2) (by simp), blk_free s4 2, blk_some s4 (j := 3) (by simp), blk_free s4 3, ?_⟩
    rintro w5 h5
    have s5 : w5.heap[W.heap.size]? = some (.cells #[.bool blankRN.used, .slice blankRN.ty.a blankRN.ty.n blankRN.ty.c, .slice blankRN.plus.a blankRN.plus.n blankRN.plus.c, .slice blankRN.less.a blankRN.less.n blankRN.less.c] 56) := by
      rw [h5]; exact blk_set (blk_set (blk_set (blk_set s4 0 _) 1 _) 2 _) 3 _
    have B5 : Below W.heap.size W w5 := by rw [h5]; exact (((B4'.setCell (Nat.le_refl _) _).setCell (Nat.le_refl _) _).setCell (Nat.le_refl _) _).setCell (Nat.le_refl _) _
    rintro _ rfl
    have hXX : IsNode w blankRN blankN := ⟨rfl, Row.nil', Row.nil', Row.nil', says_blankN.rng⟩
    have hLx : L9[k]'(by omega) = blankN := by rw [hL9k, if_pos hkk]
    have hbd : blankN.plus.length ≤ 1000000 ∧ blankN.less.length ≤ 1000000 := by simp [blankN]
    have s6 := blk_drew s5
    have B6' := B5.drew
    clear h5 s5 B5 s4 B4' B4 g hkk
    generalize w5.drew = w6 at s6 B6' ⊢
    generalize blankRN = X at s6 hXX
    generalize blankN = x at hXX hLx hbd
    rotate_left
    have hkk : k0 ≠ k := by
      intro h0; subst h0
      have : (((k0 + 1 : Nat) : Int) == (k0 : Int) + 1) = true := by rw [beq_iff_eq]; omega
      rw [this] at g; cases g
    rintro _ rfl
    have hXX : IsNode w ps[k].1 ps[k].2 := hX
    have hLx : L9[k]'(by omega) = ps[k].2 := by rw [hL9k, if_neg hkk, hpk]
    have hbd : ps[k].2.plus.length ≤ 1000000 ∧ ps[k].2.less.length ≤ 1000000 := by rw [hpk]; exact hsm.2
    have s6 := blk_drew s4
    have B6' := B4'.drew
    clear s4 B4' B4 g hkk
    generalize w4.drew = w6 at s6 B6' ⊢
    generalize ps[k].1 = X at s6 hXX
    generalize ps[k].2 = x at hXX hLx hbd
    all_goals (
      have B6 := hB.trans (B6'.mono hB.size)
      have h2 := hXX.plus.len; have h3 := hXX.less.len
      refine ⟨_, _, _, blk_cell s6 2, _, _, _, blk_cell s6 3, (k_r12away (hXX.plus.below B6) _ (by omega)).mono ?_⟩
      rintro _ w7 ⟨a7, n7, c7, rfl, ho7, B7'⟩
      have B7 := B6.trans (B7'.mono B6.size)
      have s7 := blk_below s6 B7' (blk_lt s6)
      refine ⟨_, _, _, rfl, blk_cell s7 3, (k_r12away (hXX.less.below B7) _ (by omega)).mono ?_⟩
      rintro _ w8 ⟨a8, n8, c8, rfl, ho8, B8'⟩
      have B8 := B7.trans (B8'.mono B7.size)
      have s8 := blk_below s7 B8' (blk_lt s7)
      refine ⟨_, _, _, rfl, blk_some s8 (j := 2) (by simp), blk_free s8 2, ?_⟩
      rintro w9 h9
      have s9 : w9.heap[W.heap.size]? = some (.cells #[.bool X.used, .slice X.ty.a X.ty.n X.ty.c, .slice a7 n7 c7, .slice X.less.a X.less.n X.less.c] 56) := by rw [h9]; exact blk_set s8 2 _
      refine ⟨blk_some s9 (j := 3) (by simp), blk_free s9 3, ?_⟩
      rintro w10 h10
      have s10 : w10.heap[W.heap.size]? = some (.cells #[.bool X.used, .slice X.ty.a X.ty.n X.ty.c, .slice a7 n7 c7, .slice a8 n8 c8] 56) := by rw [h10]; exact blk_set s9 3 _
      have B68 : Below W.heap.size W w8 := B6'.trans ((B7'.trans (B8'.mono B7'.size)).mono B6'.size)
      have B10W : Below W.heap.size W w10 := by rw [h10, h9]; exact (B68.setCell (Nat.le_refl _) _).setCell (Nat.le_refl _) _
      have B10 := hB.trans (B10W.mono hB.size)
      have hP : Own encStp 2 71 w.heap.size w10 a7 n7 c7 (awayS x.plus ((k0 : Int) + 1)) := by
        have h1 : Own encStp 2 71 w.heap.size w9 a7 n7 c7 (awayS x.plus ((k0 : Int) + 1)) := by rw [h9]; exact ((ho7.below B8').mono B6.size).far s8 (by decide) _
        rw [h10]; exact h1.far s9 (by decide) _
      have hL : Own encStp 2 71 w.heap.size w10 a8 n8 c8 (awayS x.less ((k0 : Int) + 1)) := by
        have h1 : Own encStp 2 71 w.heap.size w9 a8 n8 c8 (awayS x.less ((k0 : Int) + 1)) := by rw [h9]; exact (ho8.mono B7.size).far s8 (by decide) _
        rw [h10]; exact h1.far s9 (by decide) _
      have ho10 := ho.below B10W
      refine ⟨_, _, _, _, _, _, _, _, _, _, blk_cell s10 0, blk_cell s10 1, blk_cell s10 2, blk_cell s10 3, ?_⟩
      refine app1 tyNodes enNode ho10 B10.size (⟨X.used, X.ty, ⟨a7, n7, c7⟩, ⟨a8, n8, c8⟩⟩ : RNode) (by simp only [maxLen]; omega) (by omega) fun a' c' w12 ho12 hg12 => ?_
      refine ⟨⟨B10.trans (ho10.belowOf hg12 B10.size), k + 1, qs ++ [((⟨X.used, X.ty, ⟨a7, n7, c7⟩, ⟨a8, n8, c8⟩⟩ : RNode), awayN ((k0 : Int) + 1) x)], rfl, by omega, ?_, by rw [List.map_append]; exact ho12, fun p hp => ?_⟩, dec hkn⟩
      · rw [List.map_append, hsnd, take_one (show k < L9.length by omega), List.map_append, hLx]; rfl
      · rcases List.mem_append.1 hp with hp | hp
        · obtain ⟨p1, p2, p3, p4⟩ := hq p hp
          exact ⟨p1, p2, ho10.keepOwn hg12 (p3.below B10W) (by decide), ho10.keepOwn hg12 (p4.below B10W) (by decide)⟩
        · simp only [List.mem_singleton] at hp
          subst hp
          refine ⟨⟨hXX.used, hXX.rng.1, fun s hs => hXX.rng.2 s ?_⟩, hXX.ty, ho10.keepOwn hg12 hP (by decide), ho10.keepOwn hg12 hL (by decide)⟩
          rcases List.mem_append.1 hs with hs | hs
          · exact List.mem_append.2 (.inl (List.mem_filter.1 hs).1)
          · exact List.mem_append.2 (.inr (List.mem_filter.1 hs).1))
  · have hkn : ¬ k < n := by simpa using hc
    have hkn' : k = n := by omega
    rw [List.take_of_length_le (by omega)] at hsnd
    have hfirst : ∃ h0 : 0 < (L9.map (awayN ((k0 : Int) + 1))).length, ((L9.map (awayN ((k0 : Int) + 1)))[0]).used = true := by
      refine ⟨by simp; omega, ?_⟩
      have e2 : L9[0]'(by omega) = l[0]'(by omega) := by
        subst hL9; rw [List.getElem_set_ne (by omega)]
      simp only [List.getElem_map, awayN, e2]; exact h1 (by omega)
    generalize hLL : L9.map (awayN ((k0 : Int) + 1)) = LL at hfirst hsnd
    have hLLl : LL.length = n := by rw [← hLL]; simp; omega
    have hisn : ∀ p ∈ qs, IsNode W p.1 p.2 := fun p hp => by
      obtain ⟨p1, p2, p3, p4⟩ := hq p hp
      exact ⟨p1.used, p2.below hB, p3.row, p4.row, p1.rng⟩
    refine ⟨fun a2 n2 c2 W2 => W2 = W ∧ ∃ j : Nat, n2 = j ∧ 0 < j ∧ j ≤ n ∧ Own encNode 4 56 w.heap.size W a2 j c2 ((qs.take j).map (·.1)) ∧ ∀ i (hi : i < LL.length), j ≤ i → LL[i].used = false, fun _ n2 _ _ => n2,
      ⟨rfl, k, by omega, by omega, by omega, ?_, fun i hi hji => by omega⟩, ?_⟩
    · rw [List.take_of_length_le (by omega), ← hon]; exact ho
    rintro _ _ a2 j c2 ⟨rfl, _, rfl, hj0, hjn, hoj, hjno⟩
    have hjq : j - 1 < qs.length := by omega
    rw [pre1 hj0 (by omega)]
    refine hoj.row.nodeUsed (i := j - 1) (by omega) fun hl => ?_
    have e1 : ((qs.take j).map (·.1))[j - 1]'hl = qs[j - 1].1 := by simp
    have hjx : qs[j - 1].2 = LL[j - 1]'(by omega) := by
      have : (qs.map (·.2))[j - 1]'(by simpa using hjq) = LL[j - 1]'(by omega) := by simp only [hsnd]
      simpa using this
    have hu : ((qs.take j).map (·.1))[j - 1].used = (LL[j - 1]'(by omega)).used := by rw [e1, ← hjx]; exact (hisn _ (List.getElem_mem hjq)).used
    rw [hu]
    refine cnd (fun g => ?_) fun g => ?_
    · have hf : (LL[j - 1]'(by omega)).used = false := by simpa using g
      have hj1 : 1 < j := by
        rcases Nat.lt_or_ge 1 j with h1 | h1
        · exact h1
        · have : j = 1 := by omega
          subst this
          obtain ⟨_, hf0⟩ := hfirst
          exact absurd (hf0.symm.trans hf) (by decide)
      have hcap := hoj.2.1
      rw [Int.toNat_natCast, Int.toNat_natCast]
      refine ⟨by omega, by omega, ⟨rfl, j - 1, rfl, by omega, by omega, ?_, fun i hi hji => ?_⟩, by dsimp only; omega⟩
      · have := hoj.take enNode.len (j - 1) c2 (by omega) (by omega) (Nat.le_refl _)
        rwa [← List.map_take, List.take_take, Nat.min_eq_left (by omega)] at this
      · by_cases hij : i = j - 1
        · subst hij; exact hf
        · exact hjno i hi (by omega)
    · have ht : (LL[j - 1]'(by omega)).used = true := by simpa using g
      have htrim := trimN_eq hj0 (by omega) ht hjno
      refine nodE2 (l := LL.take j) ?_ ⟨_, hoj.row, ?_⟩ hB
      · rw [← htrim, ← hLL, ← hL9]
        simp only [drop12, hi, hm1, ht0, Bool.true_eq_false, if_false]
      · have := all2_npairs (ps := qs.take j) fun p hp => hisn p (List.mem_of_mem_take hp)
        rwa [List.map_take (f := fun p : NP => p.2), hsnd] at this
end
end Go.Eng
namespace Go.Eng
open Go Go.RowKit Go.Proofs
set_option maxRecDepth 10000
def setLess12 (l : List Node) (n : Int) (s : Stp) : List Node := l.set (n - 1).toNat ⟨(node l n).used, (node l n).ty, (node l n).plus, withS (node l n).less s⟩
def setPlus12 (l : List Node) (n : Int) (s : Stp) : List Node := l.set (n - 1).toNat ⟨(node l n).used, (node l n).ty, withS (node l n).plus s, (node l n).less⟩
def to12 (t : List Int) (id : Int) (plus : Bool) : List Int := if plus = true then with3 t id else without3 t id
/-- Nodes, a step being gone, and where to; the error: by the document. -/
def go12 (l : List Node) (n id : Int) (plus : Bool) : List Node × Int × Int :=
  if isN l n = false then ([], 0, 2)
  else if plus = true ∧ may3 id = false then ([], 0, 2)
  else if plus = true ∧ id ∈ (node l n).ty then (l, n, 0)
  else if plus = true ∧ (node l n).ty.length = 12 then ([], 0, 6)
  else if plus = false ∧ id ∉ (node l n).ty then ([], 0, 4)
  else if (of12 l (to12 (node l n).ty id plus)).2.2 ≠ 0 then ([], 0, (of12 l (to12 (node l n).ty id plus)).2.2)
  else (if plus = true then setPlus12 (setLess12 (of12 l (to12 (node l n).ty id plus)).1 (of12 l (to12 (node l n).ty id plus)).2.1 (id, n)) n (id, (of12 l (to12 (node l n).ty id plus)).2.1)
      else setPlus12 (setLess12 (of12 l (to12 (node l n).ty id plus)).1 n (id, (of12 l (to12 (node l n).ty id plus)).2.1)) (of12 l (to12 (node l n).ty id plus)).2.1 (id, n), (of12 l (to12 (node l n).ty id plus)).2.1, 0)
theorem findN_pos {l : List Node} {t : List Int} (h : 0 < findN l t) : ∃ k : Nat, findN l t = (k : Int) + 1 ∧ ∃ hk : k < l.length, l[k].used = true ∧ l[k].ty = t := by
  unfold findN at h ⊢
  cases hi : l.findIdx? (fun x => x.used && x.ty == t) with
  | none => rw [hi] at h; simp at h
  | some i =>
    obtain ⟨h1, h2, _⟩ := List.findIdx?_eq_some_iff_getElem.1 hi
    simp only [Bool.and_eq_true, beq_iff_eq] at h2
    exact ⟨i, rfl, h1, h2⟩
theorem of12_facts {l : List Node} {t : List Int} (he : (of12 l t).2.2 = 0) : (∃ k : Nat, (of12 l t).2.1 = (k : Int) + 1 ∧ k < (of12 l t).1.length) ∧ (∀ x ∈ (of12 l t).1, x ∈ l ∨ x = ⟨true, t, [], []⟩) ∧ l.length ≤ (of12 l t).1.length ∧ (of12 l t).1.length ≤ l.length + 1 ∧ right3 t = true := by
  unfold of12 at he ⊢
  cases h3 : right3 t with
  | false => simp [h3] at he
  | true =>
    by_cases hf : 0 < findN l t
    · obtain ⟨k, hk, hkl, _⟩ := findN_pos hf
      simp only [hf, Bool.true_eq_false, if_true, if_false]
      exact ⟨⟨k, hk, hkl⟩, fun x hx => .inl hx, Nat.le_refl _, by omega, trivial⟩
    · by_cases h4 : (ents12 l).length = 4000
      · simp [h3, hf, h4] at he
      · have hle := freeIx_le l
        have hl := setNode_len (x := ⟨true, t, [], []⟩) hle
        simp only [hf, h4, Bool.true_eq_false, if_false]
        refine ⟨⟨freeIx l, rfl, hl.2⟩, fun x hx => setNode_mem hx, hl.1, ?_, trivial⟩
        unfold setNode; split <;> simp
theorem rng_with3 {t : List Int} {id : Int} (h : Rng t) (hid : 0 ≤ id ∧ id < 18446744073709551616) : Rng (with3 t id) := by
  intro x hx
  unfold with3 at hx
  rcases List.mem_append.1 hx with hx | hx
  · exact h x (List.mem_filter.1 hx).1
  · rcases List.mem_cons.1 hx with rfl | hx
    · exact hid
    · exact h x (List.mem_filter.1 hx).1
theorem rng_without3 {t : List Int} {id : Int} (h : Rng t) : Rng (without3 t id) := fun x hx => h x (List.mem_filter.1 hx).1
theorem withS_rng {l : List Stp} {id to : Int} (h : ∀ s ∈ l, 0 ≤ s.1 ∧ s.1 < 18446744073709551616 ∧ I64 s.2) (h1 : 0 ≤ id ∧ id < 18446744073709551616) (h2 : I64 to) : ∀ s ∈ withS l (id, to), 0 ≤ s.1 ∧ s.1 < 18446744073709551616 ∧ I64 s.2 := by
  intro s hs
  unfold withS at hs
  rcases List.mem_append.1 hs with hs | hs
  · exact h s (List.mem_filter.1 hs).1
  · rcases List.mem_cons.1 hs with rfl | hs
    · exact ⟨h1.1, h1.2, h2⟩
    · exact h s (List.mem_filter.1 hs).1
/-- The two steps are put. -/
theorem tail12 {w w7 w9 : World} {a10 : Option Addr} {n10 c10 : Nat} {L : List Node} {kl km : Nat} {id x8 : Int} {p : List Node × Int × Int} (hC : CopyN w7 w9 a10 n10 c10 L) (B9 : Below w7.heap.size w7 w9) (B7 : Below w.heap.size w w7) (hkl : kl < L.length) (hkm : km < L.length) (hL : L.length ≤ 1000010)
    (hs : ∀ x ∈ L, x.plus.length ≤ 1000000 ∧ x.less.length ≤ 1000000) (hid : 0 ≤ id ∧ id < 18446744073709551616) (hp : p = (setPlus12 (setLess12 L ((kl : Int) + 1) (id, (km : Int) + 1)) ((km : Int) + 1) (id, (kl : Int) + 1), x8, 0)) :
    (∃ p2 : Addr, a10 = some p2 ∧ 0 ≤ (IntKind.i64.wrap ((kl : Int) + 1 - 1)) ∧ (IntKind.i64.wrap ((kl : Int) + 1 - 1)) < (n10 : Int) ∧
    (∃ (x11a : Option Addr) (x11n : Nat) (x11c : Nat), w9.cell? ((p2.add (((IntKind.i64.wrap ((kl : Int) + 1 - 1))).toNat * 4)).add 3) = some (.slice x11a x11n x11c) ∧
    (Cl Tryz.prog 59 #[.slice x11a x11n x11c, .agg #[.int .u64 id, .int .i64 ((km : Int) + 1)]] w9 fun v7 w11 => ∃ (x12a : Option Addr) (x12n : Nat) (x12c : Nat), v7 = .slice x12a x12n x12c ∧
    (∃ p3 : Addr, a10 = some p3 ∧ 0 ≤ (IntKind.i64.wrap ((kl : Int) + 1 - 1)) ∧ (IntKind.i64.wrap ((kl : Int) + 1 - 1)) < (n10 : Int) ∧ ((w11.cell? ((p3.add (((IntKind.i64.wrap ((kl : Int) + 1 - 1))).toNat * 4)).add 3)).isSome = true ∧ w11.frozen? ((p3.add (((IntKind.i64.wrap ((kl : Int) + 1 - 1))).toNat * 4)).add 3) = false ∧
    (∀ w12 : World, w12 = w11.setCell ((p3.add (((IntKind.i64.wrap ((kl : Int) + 1 - 1))).toNat * 4)).add 3) (.slice x12a x12n x12c) →
    (∃ p4 : Addr, a10 = some p4 ∧ 0 ≤ (IntKind.i64.wrap ((km : Int) + 1 - 1)) ∧ (IntKind.i64.wrap ((km : Int) + 1 - 1)) < (n10 : Int) ∧
    (∃ (x13a : Option Addr) (x13n : Nat) (x13c : Nat), w12.cell? ((p4.add (((IntKind.i64.wrap ((km : Int) + 1 - 1))).toNat * 4)).add 2) = some (.slice x13a x13n x13c) ∧
    (Cl Tryz.prog 59 #[.slice x13a x13n x13c, .agg #[.int .u64 id, .int .i64 ((kl : Int) + 1)]] w12 fun v8 w13 => ∃ (x14a : Option Addr) (x14n : Nat) (x14c : Nat), v8 = .slice x14a x14n x14c ∧
    (∃ p5 : Addr, a10 = some p5 ∧ 0 ≤ (IntKind.i64.wrap ((km : Int) + 1 - 1)) ∧ (IntKind.i64.wrap ((km : Int) + 1 - 1)) < (n10 : Int) ∧ ((w13.cell? ((p5.add (((IntKind.i64.wrap ((km : Int) + 1 - 1))).toNat * 4)).add 2)).isSome = true ∧ w13.frozen? ((p5.add (((IntKind.i64.wrap ((km : Int) + 1 - 1))).toNat * 4)).add 2) = false ∧
    (∀ w14 : World, w14 = w13.setCell ((p5.add (((IntKind.i64.wrap ((km : Int) + 1 - 1))).toNat * 4)).add 2) (.slice x14a x14n x14c) → NodE3 w p (.tuple #[.slice a10 n10 c10, .int .i64 x8, .int .i64 0]) w14)))))))))))) := by
  have e1 : IntKind.i64.wrap ((kl : Int) + 1 - 1) = (kl : Int) := pre2 (by omega)
  have e2 : IntKind.i64.wrap ((km : Int) + 1 - 1) = (km : Int) := pre2 (by omega)
  rw [e1, e2]
  have htl : ((kl : Nat) : Int).toNat = kl := Int.toNat_natCast kl
  have htm : ((km : Nat) : Int).toNat = km := Int.toNat_natCast km
  rw [htl, htm]
  obtain ⟨qs, hqs, ho, hq⟩ := hC
  have hql : qs.length = L.length := by rw [← hqs]; simp
  have hqn : qs.length = n10 := by have := ho.len; simpa using this.symm
  have hqG : ∀ i (hi : i < qs.length), qs[i].2 = L[i]'(by omega) := by
    intro i hi
    have : (qs.map (·.2))[i]'(by simpa using hi) = L[i]'(by omega) := by simp only [hqs]
    simpa using this
  have hkq : kl < qs.length := by omega
  have hmq : km < qs.length := by omega
  have hXl := hq _ (List.getElem_mem hkq)
  have hXm := hq _ (List.getElem_mem hmq)
  have hIl : I64 ((kl : Int) + 1) := by simp only [I64]; omega
  have hIm : I64 ((km : Int) + 1) := by simp only [I64]; omega
  obtain ⟨g, hl0, ha, hcell, _, _⟩ := ho.fieldB enNode (i := kl) (j := 3) (by omega) (by decide)
  have e0 : (qs.map (·.1))[kl]'hl0 = qs[kl].1 := by simp
  rw [e0] at hcell
  subst ha
  have hll := hXl.less.len
  have hsl := hs _ (List.getElem_mem hkl)
  rw [← hqG kl hkq] at hsl
  refine ⟨_, rfl, by omega, by omega, _, _, _, hcell, (k_r12with (hXl.less.below B9) id ((km : Int) + 1) (by omega)).mono ?_⟩
  rintro _ w11 ⟨a12, n12, c12, rfl, ho12, B11'⟩
  have B11 := B9.trans (B11'.mono B9.size)
  have ho11 := ho.below B11'
  obtain ⟨g', hga, hgl, hc1, hc2, hput1, hgr1, _⟩ := ho11.put1 enNode (i := kl) (j := 3) (by omega) (by decide) (.slice a12 n12 c12) ⟨qs[kl].1.used, qs[kl].1.ty, qs[kl].1.plus, ⟨a12, n12, c12⟩⟩ (fun hl => by simp [encNode])
  cases hga
  refine ⟨_, _, _, rfl, _, rfl, by omega, by omega, hc1, hc2, ?_⟩
  rintro w12 h12
  rw [← h12] at hput1 hgr1
  have hgr1' : w11.grownBy w12 ((some (⟨g, 0, none⟩ : Addr)).map (·.block)) := hgr1
  have B12 := B11.trans (ho11.belowOf hgr1' B11.size)
  have hoW := ho11.keepOwn hgr1' (ho12.mono B9.size) (by decide)
  obtain ⟨g', hl1, ha, hcell2, _, _⟩ := hput1.fieldB enNode (i := km) (j := 2) (by omega) (by decide)
  cases ha
  have e3 : ((qs.map (fun p : NP => p.1)).set kl (⟨qs[kl].1.used, qs[kl].1.ty, qs[kl].1.plus, ⟨a12, n12, c12⟩⟩ : RNode))[km]'hl1 = if kl = km then ⟨qs[kl].1.used, qs[kl].1.ty, qs[kl].1.plus, ⟨a12, n12, c12⟩⟩ else qs[km].1 := by
    rw [List.getElem_set]; split
    · rfl
    · simp
  have hplm : (((qs.map (fun p : NP => p.1)).set kl (⟨qs[kl].1.used, qs[kl].1.ty, qs[kl].1.plus, ⟨a12, n12, c12⟩⟩ : RNode))[km]'hl1).plus = qs[km].1.plus := by
    rw [e3]; split
    · rename_i he; subst he; rfl
    · rfl
  have hcell3 : w12.cell? ((Addr.add ⟨g, 0, none⟩ (km * 4)).add 2) = some (.slice qs[km].1.plus.a qs[km].1.plus.n qs[km].1.plus.c) := by
    rw [hcell2, ← hplm]; rfl
  have hlm := hXm.plus.len
  have hsm := hs _ (List.getElem_mem hkm)
  rw [← hqG km hmq] at hsm
  refine ⟨_, rfl, by omega, by omega, _, _, _, hcell3, (k_r12with (hXm.plus.below B12) id ((kl : Int) + 1) (by omega)).mono ?_⟩
  rintro _ w13 ⟨a14, n14, c14, rfl, ho14, B13'⟩
  have B13 := B12.trans (B13'.mono B12.size)
  have hput1' := hput1.below B13'
  obtain ⟨g', hga, _, hd1, hd2, hput2, hgr2, _⟩ := hput1'.put1 enNode (i := km) (j := 2) (by omega) (by decide) (.slice a14 n14 c14) ⟨(((qs.map (fun p : NP => p.1)).set kl (⟨qs[kl].1.used, qs[kl].1.ty, qs[kl].1.plus, ⟨a12, n12, c12⟩⟩ : RNode))[km]'hl1).used, (((qs.map (fun p : NP => p.1)).set kl (⟨qs[kl].1.used, qs[kl].1.ty, qs[kl].1.plus, ⟨a12, n12, c12⟩⟩ : RNode))[km]'hl1).ty, ⟨a14, n14, c14⟩, (((qs.map (fun p : NP => p.1)).set kl (⟨qs[kl].1.used, qs[kl].1.ty, qs[kl].1.plus, ⟨a12, n12, c12⟩⟩ : RNode))[km]'hl1).less⟩ (fun hl => by simp [encNode])
  cases hga
  refine ⟨_, _, _, rfl, _, rfl, by omega, by omega, hd1, hd2, ?_⟩
  rintro w14 h14
  rw [← h14] at hput2 hgr2
  have hgr2' : w13.grownBy w14 ((some (⟨g, 0, none⟩ : Addr)).map (·.block)) := hgr2
  have B14 := B13.trans (hput1'.belowOf hgr2' B13.size)
  have hoW14 := hput1'.keepOwn hgr2' (hoW.below B13') (by decide)
  have hoP14 := hput1'.keepOwn hgr2' (ho14.mono B12.size) (by decide)
  refine nodE3 hp ⟨_, hput2.row, ?_⟩ (B7.trans (B14.mono B7.size))
  -- what lies, and what it says
  have hLs : setLess12 L ((kl : Int) + 1) (id, (km : Int) + 1) = L.set kl ⟨qs[kl].2.used, qs[kl].2.ty, qs[kl].2.plus, withS qs[kl].2.less (id, (km : Int) + 1)⟩ := by
    rw [setLess12, node_eq hkl, show ((kl : Int) + 1 - 1).toNat = kl by omega, hqG kl hkq]
  have hLk : km < (L.set kl ⟨qs[kl].2.used, qs[kl].2.ty, qs[kl].2.plus, withS qs[kl].2.less (id, (km : Int) + 1)⟩).length := by simpa using hkm
  have hnm : node (L.set kl ⟨qs[kl].2.used, qs[kl].2.ty, qs[kl].2.plus, withS qs[kl].2.less (id, (km : Int) + 1)⟩) ((km : Int) + 1) = if kl = km then ⟨qs[kl].2.used, qs[kl].2.ty, qs[kl].2.plus, withS qs[kl].2.less (id, (km : Int) + 1)⟩ else qs[km].2 := by
    rw [node_eq hLk, List.getElem_set, hqG km hmq]
  rw [hLs, setPlus12, hnm, show ((km : Int) + 1 - 1).toNat = km by omega, e3]
  have hrl : IsNode w14 (⟨qs[kl].1.used, qs[kl].1.ty, qs[kl].1.plus, ⟨a12, n12, c12⟩⟩ : RNode) ⟨qs[kl].2.used, qs[kl].2.ty, qs[kl].2.plus, withS qs[kl].2.less (id, (km : Int) + 1)⟩ := by
    refine ⟨hXl.used, hXl.ty.below B14, hXl.plus.below B14, hoW14.row, hXl.rng.1, fun s hs => ?_⟩
    rcases List.mem_append.1 hs with hs | hs
    · exact hXl.rng.2 s (List.mem_append.2 (.inl hs))
    · exact withS_rng (fun s hs => hXl.rng.2 s (List.mem_append.2 (.inr hs))) hid hIm s hs
  refine ⟨by simp [hql], fun i hi1 hi2 => ?_⟩
  have hiq : i < qs.length := by simpa using hi1
  have hplusR : ∀ {x : Node}, (∀ s ∈ x.plus ++ x.less, 0 ≤ s.1 ∧ s.1 < 18446744073709551616 ∧ I64 s.2) → ∀ s ∈ withS x.plus (id, (kl : Int) + 1) ++ x.less, 0 ≤ s.1 ∧ s.1 < 18446744073709551616 ∧ I64 s.2 := by
    intro x hx s hs
    rcases List.mem_append.1 hs with hs | hs
    · exact withS_rng (fun s hs => hx s (List.mem_append.2 (.inl hs))) hid hIl s hs
    · exact hx s (List.mem_append.2 (.inr hs))
  by_cases him : km = i
  · subst him
    rw [List.getElem_set_self, List.getElem_set_self]
    by_cases hlm' : kl = km
    · simp only [if_pos hlm']
      have hqe : qs[km].2 = qs[kl].2 := by subst hlm'; rfl
      rw [hqe] at hoP14
      exact ⟨hrl.used, hrl.ty, hoP14.row, hrl.less, hrl.rng.1, hplusR hrl.rng.2⟩
    · simp only [if_neg hlm']
      exact ⟨hXm.used, hXm.ty.below B14, hoP14.row, hXm.less.below B14, hXm.rng.1, hplusR hXm.rng.2⟩
  · rw [List.getElem_set_ne him, List.getElem_set_ne him]
    by_cases hil : kl = i
    · subst hil
      rw [List.getElem_set_self, List.getElem_set_self]; exact hrl
    · rw [List.getElem_set_ne hil, List.getElem_set_ne hil, List.getElem_map, ← hqG i hiq]
      exact (hq _ (List.getElem_mem hiq)).below B14
section
variable {w : World} {a : Option Addr} {n c : Nat} {l : List Node}
set_option maxHeartbeats 1000000
theorem k_r12Go (h : Nodes w a n c l) (hs : SmallN l) {m id : Int} (hm : I64 m) (hid : 0 ≤ id ∧ id < 18446744073709551616) (plus : Bool) :
    Cl Tryz.prog 16 #[.slice a n c, .int .i64 m, .int .u64 id, .bool plus] w (NodE3 w (go12 l m id plus)) := by
  refine c16 _ _ _ _ _ _ ?_
  have hnl := h.len
  have hs1 := hs.1
  refine (k_r12Is h m hm).is ⟨_, rfl, cnd (fun g => ?_) fun g => ?_⟩
  · have : isN l m = false := by simpa using g
    exact nodE3 (by simp [go12, this]) Nodes.nil (Below.refl _ _)
  have hi : isN l m = true := by simpa using g
  clear g
  obtain ⟨k0, rfl, hk0⟩ := isN_iff hi
  have hnode : node l ((k0 : Int) + 1) = l[k0] := node_eq hk0
  have hp2 : IntKind.i64.wrap ((k0 : Int) + 1 - 1) = (k0 : Int) := pre2 (by omega)
  rw [hp2]
  obtain ⟨ps, hrow, hps, hpG⟩ := h.pairs
  have hpl : ps.length = n := by rw [hnl, ← hpG]; simp
  have hpk : ps[k0].2 = l[k0] := by
    have : (ps.map (·.2))[k0]'(by simp; omega) = l[k0] := by simp only [hpG]
    simpa using this
  have hX := hps _ (List.getElem_mem (show k0 < ps.length by omega))
  rw [hpk] at hX
  have e0 : (ps.map (·.1))[k0]'(by simp; omega) = ps[k0].1 := by simp
  have hsm := hs.2 _ (List.getElem_mem hk0)
  have htl := hX.ty.len
  refine hrow.nodeTy (i := k0) (by omega) fun hl => ?_
  rw [e0]
  refine (k_r03Has hX.ty id).tells fun w2 hq2 => ⟨_, rfl, ?_⟩
  have B2 : Below w.heap.size w w2 := hq2.below _
  have hI0 : I64 ((k0 : Int) + 1) := by simp only [I64]; omega
  cases plus with
  | true =>
    simp only [cond_true, cond_false, Bool.not_true, Bool.not_false]
    refine (k_r03May id).is ⟨_, rfl, cnd (fun g => ?_) fun g => ?_⟩
    · have : may3 id = false := by simpa using g
      exact nodE3 (by simp [go12, hi, this]) Nodes.nil B2
    have hmay : may3 id = true := by simpa using g
    clear g
    refine cnd (fun g => ?_) fun g => ?_
    · have : id ∈ l[k0].ty := by simpa using g
      exact nodE3 (by simp [go12, hi, hmay, hnode, this]) (h.below B2) B2
    have hno : id ∉ l[k0].ty := by simpa using g
    clear g
    refine cnd (fun g => ?_) fun g => ?_
    · have : l[k0].ty.length = 12 := by simp at g; omega
      exact nodE3 (by simp [go12, hi, hmay, hnode, hno, this]) Nodes.nil B2
    have h12 : ¬ l[k0].ty.length = 12 := by simp at g; omega
    clear g
    refine (k_r03Without (hX.ty.below B2) id (by omega)).mono ?_
    rintro _ w4 ⟨a4, n4, c4, rfl, ho4, B4'⟩
    have B4 := B2.trans (B4'.mono B2.size)
    refine ⟨_, _, _, rfl, fun ta tn tc W => ∃ B : Below w.heap.size w W, Row encId W ta tn tc (to12 l[k0].ty id true), (k_r03With (hX.ty.below B4) id (by omega)).mono ?_, ?_⟩
    · rintro _ w5 ⟨a5, n5, c5, rfl, ho5, B5'⟩
      exact ⟨_, _, _, rfl, B4.trans (B5'.mono B4.size), by simpa [to12] using ho5.row⟩
    rintro _ w6 ta tn tc ⟨B6, hto⟩
    have hrto : Rng (to12 l[k0].ty id true) := by simpa [to12] using rng_with3 hX.rng.1 hid
    refine (k_r12Of (h.below B6) hs1 hto hrto).mono ?_
    rintro _ w7 ⟨a7, n7, c7, rfl, hN7, B7'⟩
    have B7 := B6.trans (B7'.mono B6.size)
    have hF := of12_facts (l := l) (t := to12 l[k0].ty id true)
    generalize hQ : of12 l (to12 l[k0].ty id true) = Q at *
    refine ⟨_, _, _, _, _, rfl, cnd (fun g => ?_) fun g => ?_⟩
    · have hne : Q.2.2 ≠ 0 := by intro h0; rw [h0] at g; simp at g
      exact nodE3 (by simp [go12, hi, hmay, hnode, hno, h12, hQ, hne]) Nodes.nil B7
    have hQ2 : Q.2.2 = 0 := by simpa using g
    clear g
    obtain ⟨⟨k1, hk1, hk1l⟩, hmem, hlen1, hlen2, _⟩ := hF hQ2
    have hn7 := hN7.len
    have hI1 : I64 ((k1 : Int) + 1) := by simp only [I64]; omega
    have hgo : go12 l ((k0 : Int) + 1) id true = (setPlus12 (setLess12 Q.1 ((k1 : Int) + 1) (id, (k0 : Int) + 1)) ((k0 : Int) + 1) (id, (k1 : Int) + 1), (k1 : Int) + 1, 0) := by
      simp only [go12, hi, hmay, hnode, hno, h12, hQ, hQ2, hk1]; simp
    rw [hk1]
    refine copy_nodes hN7 (by omega) fun a10 n10 c10 w9 hC B9' => ?_
    refine ⟨fun ls mr W => W = w9 ∧ ∃ kl km : Nat, (ls = (kl : Int) + 1 ∧ mr = (km : Int) + 1) ∧ kl < Q.1.length ∧ km < Q.1.length ∧ go12 l ((k0 : Int) + 1) id true = (setPlus12 (setLess12 Q.1 ((kl : Int) + 1) (id, (km : Int) + 1)) ((km : Int) + 1) (id, (kl : Int) + 1), (k1 : Int) + 1, 0), ⟨rfl, k1, k0, ⟨rfl, rfl⟩, hk1l, by omega, hgo⟩, ?_⟩
    rintro _ _ _ _ ⟨rfl, kl, km, ⟨rfl, rfl⟩, hkl, hkm, hgo⟩
    have hsmQ : ∀ x ∈ Q.1, x.plus.length ≤ 1000000 ∧ x.less.length ≤ 1000000 := by
      intro x hx
      rcases hmem x hx with hx | rfl
      · exact (hs.2 x hx).2
      · simp
    exact tail12 (w := w) hC B9' B7 hkl hkm (by omega) hsmQ hid hgo
  | false =>
    simp only [cond_true, cond_false, Bool.not_true, Bool.not_false]
    refine cnd (fun g => ?_) fun g => ?_
    · have : id ∉ l[k0].ty := by simpa using g
      exact nodE3 (by simp [go12, hi, hnode, this]) Nodes.nil B2
    have hin : id ∈ l[k0].ty := by simpa using g
    clear g
    refine (k_r03Without (hX.ty.below B2) id (by omega)).mono ?_
    rintro _ w4 ⟨a4, n4, c4, rfl, ho4, B4'⟩
    have B4 := B2.trans (B4'.mono B2.size)
    refine ⟨_, _, _, rfl, fun ta tn tc W => ∃ B : Below w.heap.size w W, Row encId W ta tn tc (to12 l[k0].ty id false), ⟨B4, by simpa [to12] using ho4.row⟩, ?_⟩
    rintro _ w6 ta tn tc ⟨B6, hto⟩
    have hrto : Rng (to12 l[k0].ty id false) := by simpa [to12] using rng_without3 hX.rng.1
    refine (k_r12Of (h.below B6) hs1 hto hrto).mono ?_
    rintro _ w7 ⟨a7, n7, c7, rfl, hN7, B7'⟩
    have B7 := B6.trans (B7'.mono B6.size)
    have hF := of12_facts (l := l) (t := to12 l[k0].ty id false)
    generalize hQ : of12 l (to12 l[k0].ty id false) = Q at *
    refine ⟨_, _, _, _, _, rfl, cnd (fun g => ?_) fun g => ?_⟩
    · have hne : Q.2.2 ≠ 0 := by intro h0; rw [h0] at g; simp at g
      exact nodE3 (by simp [go12, hi, hnode, hin, hQ, hne]) Nodes.nil B7
    have hQ2 : Q.2.2 = 0 := by simpa using g
    clear g
    obtain ⟨⟨k1, hk1, hk1l⟩, hmem, hlen1, hlen2, _⟩ := hF hQ2
    have hn7 := hN7.len
    have hgo : go12 l ((k0 : Int) + 1) id false = (setPlus12 (setLess12 Q.1 ((k0 : Int) + 1) (id, (k1 : Int) + 1)) ((k1 : Int) + 1) (id, (k0 : Int) + 1), (k1 : Int) + 1, 0) := by
      simp only [go12, hi, hnode, hin, hQ, hQ2, hk1]; simp
    rw [hk1]
    refine copy_nodes hN7 (by omega) fun a10 n10 c10 w9 hC B9' => ?_
    refine ⟨fun ls mr W => W = w9 ∧ ∃ kl km : Nat, (ls = (kl : Int) + 1 ∧ mr = (km : Int) + 1) ∧ kl < Q.1.length ∧ km < Q.1.length ∧ go12 l ((k0 : Int) + 1) id false = (setPlus12 (setLess12 Q.1 ((kl : Int) + 1) (id, (km : Int) + 1)) ((km : Int) + 1) (id, (kl : Int) + 1), (k1 : Int) + 1, 0), ⟨rfl, k0, k1, ⟨rfl, rfl⟩, by omega, hk1l, hgo⟩, ?_⟩
    rintro _ _ _ _ ⟨rfl, kl, km, ⟨rfl, rfl⟩, hkl, hkm, hgo⟩
    have hsmQ : ∀ x ∈ Q.1, x.plus.length ≤ 1000000 ∧ x.less.length ≤ 1000000 := by
      intro x hx
      rcases hmem x hx with hx | rfl
      · exact (hs.2 x hx).2
      · simp
    exact tail12 (w := w) hC B9' B7 hkl hkm (by omega) hsmQ hid hgo
end
end Go.Eng
namespace Go.Eng
open Go Go.Proofs
set_option exponentiation.threshold 300
theorem isN_node {l : List Node} {n : Int} (h : isN l n = true) : ∃ (k : Nat) (hk : k < l.length), n = (k : Int) + 1 ∧ l[k].used = true ∧ node l n = l[k] := by
  obtain ⟨k, rfl, hk⟩ := isN_iff h
  simp only [isN, Bool.and_eq_true] at h
  rw [node_eq hk] at h
  exact ⟨k, hk, rfl, h.2, node_eq hk⟩
theorem isN_of {l : List Node} {k : Nat} (hk : k < l.length) (hu : l[k].used = true) : isN l ((k : Int) + 1) = true := by
  simp only [isN, node_eq hk, hu, Bool.and_true, Bool.and_eq_true, decide_eq_true_eq]; omega
theorem isN_eq {l : List Node} {k : Nat} (hk : k < l.length) : isN l ((k : Int) + 1) = l[k].used := by
  cases hu : l[k].used with
  | true => exact isN_of hk hu
  | false => simp [isN, node_eq hk, hu]
/-- What is asked of a step. -/
def StpP (l : List Node) (n : Int) (s : Stp) : Prop := isN l s.2 = true ∧ s.1 ∉ (node l n).ty ∧ (s.1, n) ∈ (node l s.2).less ∧ (node l s.2).ty = with3 (node l n).ty s.1
def StpL (l : List Node) (n : Int) (s : Stp) : Prop := isN l s.2 = true ∧ s.1 ∈ (node l n).ty ∧ (s.1, n) ∈ (node l s.2).plus ∧ (node l s.2).ty = without3 (node l n).ty s.1
theorem sorted_adj {l : List Int} (h : l.Pairwise (· < ·)) {i : Nat} (h1 : i + 1 < l.length) : l[i] < l[i + 1] := List.pairwise_iff_getElem.1 h i (i + 1) (by omega) h1 (by omega)
theorem steps12_iff {l : List Node} {n : Int} {row : List Stp} {plus : Bool} : steps12 l n row plus = true ↔ (keys row).Pairwise (· < ·) ∧ ∀ s ∈ row, if plus = true then StpP l n s else StpL l n s := by
  have hl : (keys row).length = row.length := by simp [keys]
  simp only [steps12, List.all_eq_true, List.mem_range]
  constructor
  · intro h
    constructor
    · refine adj_sorted fun i h1 => ?_
      have := h (i + 1) (by omega)
      simp only [stepOk12, Bool.and_eq_true, Bool.or_eq_true, decide_eq_true_eq] at this
      rcases this.1.1.1 with h2 | h2
      · omega
      · rw [Nat.add_sub_cancel, stp_eqAt (by omega), stp_eqAt (by omega)] at h2
        rw [keys_get (by omega), keys_get (by omega)]; exact h2
    · intro s hs
      obtain ⟨i, hi, rfl⟩ := List.mem_iff_getElem.1 hs
      have := h i hi
      simp only [stepOk12, stp_eqAt hi, Bool.and_eq_true] at this
      obtain ⟨⟨⟨_, h1⟩, h2⟩, h3⟩ := this
      cases plus with
      | true => simp at h2 h3 ⊢; exact ⟨h1, h2, h3.1, h3.2⟩
      | false => simp at h2 h3 ⊢; exact ⟨h1, h2, h3.1, h3.2⟩
  · rintro ⟨hs, h⟩ i hi
    have hm := h row[i] (List.getElem_mem hi)
    have h0 : i = 0 ∨ (stp row (i - 1)).1 < (stp row i).1 := by
      cases i with
      | zero => exact .inl rfl
      | succ i =>
        right
        rw [Nat.add_sub_cancel, stp_eqAt (by omega), stp_eqAt hi]
        have := sorted_adj hs (i := i) (by omega)
        rw [keys_get (by omega), keys_get (by omega)] at this; exact this
    simp only [stepOk12, stp_eqAt hi, Bool.and_eq_true, Bool.or_eq_true, decide_eq_true_eq]
    rw [stp_eqAt hi] at h0
    cases plus with
    | true =>
      simp only [if_true] at hm
      obtain ⟨h1, h2, h3, h4⟩ := hm
      refine ⟨⟨⟨h0, h1⟩, by simp [h2]⟩, by simp [h3, h4]⟩
    | false =>
      simp only [Bool.false_eq_true, if_false] at hm
      obtain ⟨h1, h2, h3, h4⟩ := hm
      refine ⟨⟨⟨h0, h1⟩, by simp [h2]⟩, by simp [h3, h4]⟩
/-- Nodes that may be. -/
structure N12 (l : List Node) : Prop where
  pos : 0 < l.length
  last : isN l (l.length : Int) = true
  one : isN l 1 = true
  ty1 : (node l 1).ty = []
  right : ∀ n, isN l n = true → right2 (node l n).ty = true
  uniq : ∀ n m, isN l n = true → isN l m = true → (node l n).ty = (node l m).ty → n = m
  free : ∀ i (h : i < l.length), l[i].used = false → l[i].ty = [] ∧ l[i].plus = [] ∧ l[i].less = []
  sorted : ∀ n, isN l n = true → SortedN (node l n)
  plus : ∀ n s, isN l n = true → s ∈ (node l n).plus → StpP l n s
  less : ∀ n s, isN l n = true → s ∈ (node l n).less → StpL l n s
  many : manyN l ≤ 4000
def RngN (l : List Node) : Prop := ∀ x ∈ l, Rng x.ty
theorem RngN.node {l : List Node} (h : RngN l) (n : Int) : Rng (node l n).ty := by
  unfold Eng.node
  rcases Nat.lt_or_ge (n - 1).toNat l.length with hl | hl
  · rw [List.getD_eq_getElem?_getD, List.getElem?_eq_getElem hl]; exact h _ (List.getElem_mem hl)
  · rw [List.getD_eq_getElem?_getD, List.getElem?_eq_none hl]; intro x hx; cases hx
/-- The first used node of a type. -/
theorem findN_self {l : List Node} {k : Nat} (hk : k < l.length) (hu : l[k].used = true) : ∃ j : Nat, findN l l[k].ty = (j : Int) + 1 ∧ j ≤ k ∧ ∃ hj : j < l.length, l[j].used = true ∧ l[j].ty = l[k].ty := by
  unfold findN
  cases hi : l.findIdx? (fun x => x.used && x.ty == l[k].ty) with
  | none =>
    rw [List.findIdx?_eq_none_iff] at hi
    have := hi _ (List.getElem_mem hk)
    simp [hu] at this
  | some j =>
    obtain ⟨h1, h2, h3⟩ := List.findIdx?_eq_some_iff_getElem.1 hi
    simp only [Bool.and_eq_true, beq_iff_eq] at h2
    refine ⟨j, rfl, ?_, h1, h2⟩
    rcases Nat.lt_or_ge k j with hlt | hge
    · have := h3 k hlt; simp [hu] at this
    · exact hge
theorem nodes12_iff {l : List Node} (hr : RngN l) : nodes12 l = true ↔ N12 l := by
  simp only [nodes12, Bool.and_eq_true, decide_eq_true_eq, List.all_eq_true, List.mem_range]
  constructor
  · rintro ⟨⟨⟨⟨⟨h1, h2⟩, h3⟩, h4⟩, h5⟩, h6⟩
    have ok : ∀ n, isN l n = true → right2 (node l n).ty = true ∧ findN l (node l n).ty = n ∧ steps12 l n (node l n).plus true = true ∧ steps12 l n (node l n).less false = true := by
      intro n hn
      obtain ⟨k, hk, rfl, hu, he⟩ := isN_node hn
      have := h5 k hk
      rw [nodeOk12, he, if_pos hu] at this
      simp only [Bool.and_eq_true, beq_iff_eq] at this
      obtain ⟨⟨⟨a1, a2⟩, a3⟩, a4⟩ := this
      rw [he]
      exact ⟨by rw [right_alike (hr _ (List.getElem_mem hk))]; exact a1, a2, a3, a4⟩
    refine ⟨h1, ?_, ?_, List.eq_nil_of_length_eq_zero h4, fun n hn => (ok n hn).1, fun n m hn hm he => ?_, fun i hi hu => ?_, fun n hn => ?_, fun n s hn hs => ?_, fun n s hn hs => ?_, h6⟩
    · simp only [isN, h2, Bool.and_true, Bool.and_eq_true, decide_eq_true_eq]; omega
    · simp only [isN, h3, Bool.and_true, Bool.and_eq_true, decide_eq_true_eq]; omega
    · rw [← (ok n hn).2.1, he, (ok m hm).2.1]
    · have := h5 i hi
      rw [nodeOk12, node_eq hi, if_neg (by rw [hu]; simp)] at this
      simp only [decide_eq_true_eq] at this
      exact ⟨List.eq_nil_of_length_eq_zero (by omega), List.eq_nil_of_length_eq_zero (by omega), List.eq_nil_of_length_eq_zero (by omega)⟩
    · exact ⟨(steps12_iff.1 (ok n hn).2.2.1).1, (steps12_iff.1 (ok n hn).2.2.2).1⟩
    · have := (steps12_iff.1 (ok n hn).2.2.1).2 s hs; simpa using this
    · have := (steps12_iff.1 (ok n hn).2.2.2).2 s hs; simpa using this
  · intro h
    have one : (node l 1).used = true := by
      obtain ⟨k, hk, _, hu, he⟩ := isN_node h.one; rw [he]; exact hu
    have last : (node l (l.length : Int)).used = true := by
      obtain ⟨k, hk, _, hu, he⟩ := isN_node h.last; rw [he]; exact hu
    refine ⟨⟨⟨⟨⟨h.pos, last⟩, one⟩, by rw [h.ty1]; rfl⟩, fun i hi => ?_⟩, h.many⟩
    unfold nodeOk12
    cases hu : (node l ((i : Int) + 1)).used with
    | false =>
      rw [if_neg (by simp)]
      rw [node_eq hi] at hu ⊢
      obtain ⟨a1, a2, a3⟩ := h.free i hi hu
      rw [a1, a2, a3]; rfl
    | true =>
      have hn : isN l ((i : Int) + 1) = true := isN_of hi (by rw [node_eq hi] at hu; exact hu)
      have hf : findN l (node l ((i : Int) + 1)).ty = (i : Int) + 1 := by
        have hu' := hu
        rw [node_eq hi] at hu' ⊢
        obtain ⟨j, e, hji, hj, huj, htj⟩ := findN_self hi hu'
        rw [e]
        refine h.uniq _ _ (isN_of hj huj) hn ?_
        rw [node_eq hj, node_eq hi]; exact htj
      have e1 : right3 (node l ((i : Int) + 1)).ty = true := by rw [← right_alike (hr.node _)]; exact h.right _ hn
      have e2 : steps12 l ((i : Int) + 1) (node l ((i : Int) + 1)).plus true = true := steps12_iff.2 ⟨(h.sorted _ hn).1, fun s hs => by simpa using h.plus _ s hn hs⟩
      have e3 : steps12 l ((i : Int) + 1) (node l ((i : Int) + 1)).less false = true := steps12_iff.2 ⟨(h.sorted _ hn).2, fun s hs => by simpa using h.less _ s hn hs⟩
      simp [e1, e2, e3, hf]
def entsU (l : List Node) : List Entry := (usedIx l).map (entN l)
theorem range_filter_succ (p : Nat → Bool) (k : Nat) : (List.range (k + 1)).filter p = (List.range k).filter p ++ (if p k = true then [k] else []) := by
  rw [List.range_succ, List.filter_append]
  congr 1
  simp only [List.filter_cons, List.filter_nil]
theorem entsTo_perm (l : List Node) : ∀ k, (entsTo l k).Perm (((List.range k).filter fun i : Nat => (node l ((i : Int) + 1)).used).map (entN l))
  | 0 => .refl _
  | k + 1 => by
    have ih := entsTo_perm l k
    rw [range_filter_succ]
    simp only [entsTo]
    split
    · rename_i hu
      simp only [hu, if_true, List.map_append, List.map_cons, List.map_nil]
      exact (with7_perm _ _ _).trans ((ih.cons _).trans (List.perm_append_singleton _ _).symm)
    · rename_i hu
      simp only [hu, Bool.false_eq_true, if_false, List.append_nil]
      exact ih
theorem ents12_perm (l : List Node) : (ents12 l).Perm (entsU l) := entsTo_perm l l.length
theorem entsTo_sorted (l : List Node) : ∀ k, (entsTo l k).Pairwise (fun p q => ¬ cmpL q.ty p.ty < 0)
  | 0 => .nil
  | k + 1 => by
    simp only [entsTo]; split
    · exact with7_sorted _ (entsTo_sorted l k)
    · exact entsTo_sorted l k
theorem ents12_sorted (l : List Node) : (ents12 l).Pairwise (fun p q => ¬ cmpL q.ty p.ty < 0) := entsTo_sorted l l.length
theorem ents12_len (l : List Node) : (ents12 l).length = manyN l := by
  rw [(ents12_perm l).length_eq, entsU, List.length_map, usedIx_len]
theorem checkL_keyInj {l : List Entry} (h : checkL l = true) : ∀ a ∈ all7 Entry.st Entry.ty l, ∀ b ∈ all7 Entry.st Entry.ty l, a.ty = b.ty → a = b := by
  intro a ha b hb ht
  have ha' := List.mem_filter.1 (all7_perm'.mem_iff.1 ha)
  have hb' := List.mem_filter.1 (all7_perm'.mem_iff.1 hb)
  exact checkL_inj h a ha'.1 b hb'.1 (by simpa using ha'.2) (by simpa using hb'.2) ht
theorem all7_ents {l : List Entry} {ns : List Node} (h : checkL l = true) : all7 Entry.st Entry.ty l = ents12 ns ↔ (usedE l).Perm (entsU ns) := by
  constructor
  · intro he
    have h1 : (all7 Entry.st Entry.ty l).Perm (usedE l) := all7_perm'
    rw [he] at h1
    exact h1.symm.trans (ents12_perm ns)
  · intro hp
    have hP : (all7 Entry.st Entry.ty l).Perm (ents12 ns) := all7_perm'.trans (hp.trans (ents12_perm ns).symm)
    refine List.Perm.eq_of_pairwise (le := fun p q => ¬ cmpL q.ty p.ty < 0) ?_ (all7_sorted _ _ _) (ents12_sorted ns) hP
    intro a b ha hb h1 h2
    rcases cmpL_tri a.ty b.ty with h3 | h3 | h3
    · exact absurd h3 h2
    · exact checkL_keyInj h a ha b (hP.mem_iff.2 hb) h3
    · exact absurd h3 h1
/-- A graph that may be. -/
structure RG (G : PG) : Prop where
  nodes : N12 G.nodes
  look : checkL G.slots = true
  ents : (usedE G.slots).Perm (entsU G.nodes)
structure RngG (G : PG) : Prop where
  nodes : RngN G.nodes
  slots : ∀ e ∈ G.slots, Rng e.ty
theorem right12_iff {G : PG} (hr : RngG G) (hn : G.slots.length < 2 ^ 62) : Right12 G ↔ RG G := by
  unfold Right12
  rw [nodes12_iff hr.nodes, right7_iff (fun e he _ => hr.slots e he) hn]
  constructor
  · rintro ⟨h1, h2, h3⟩; exact ⟨h1, h2, (all7_ents h2).1 h3⟩
  · rintro ⟨h1, h2, h3⟩; exact ⟨h1, h2, (all7_ents h2).2 h3⟩
end Go.Eng
namespace Go.Eng
open Go Go.Proofs
set_option exponentiation.threshold 300
theorem mem_entsU {l : List Node} {e : Entry} : e ∈ entsU l ↔ ∃ (k : Nat) (hk : k < l.length), l[k].used = true ∧ e = ⟨1, l[k].ty, (k : Int) + 1⟩ := by
  simp only [entsU, List.mem_map]
  constructor
  · rintro ⟨k, hk, rfl⟩
    obtain ⟨h1, h2⟩ := mem_usedIx.1 hk
    exact ⟨k, h1, h2, by rw [entN, node_eq h1]⟩
  · rintro ⟨k, hk, hu, rfl⟩
    exact ⟨k, mem_usedIx.2 ⟨hk, hu⟩, by rw [entN, node_eq hk]⟩
theorem findL_used {l : List Entry} (h : checkL l = true) {e : Entry} (he : e ∈ l) (hs : e.st = 1) : findL l e.ty = (e.num, true) := by
  obtain ⟨i, hi, rfl⟩ := List.mem_iff_getElem.1 he
  have := (checkL_used h hi hs).2.2
  have hn : ¬ ((i : Nat) : Int) < 0 := by omega
  simp only [findL, h, this, hn, Bool.true_eq_false, if_false, Int.toNat_natCast, slot_eq hi]
theorem RG.usedN {G : PG} (h : RG G) {k : Nat} (hk : k < G.nodes.length) (hu : G.nodes[k].used = true) : (⟨1, G.nodes[k].ty, (k : Int) + 1⟩ : Entry) ∈ G.slots :=
  (List.mem_filter.1 (h.ents.mem_iff.2 (mem_entsU.2 ⟨k, hk, hu, rfl⟩))).1
theorem has2_in {t : List Int} (h : right2 t = true) (x : Int) : has2 t x = decide (x ∈ t) := by simp [has2, h]
theorem stepOk_alike {l : List Node} {n : Int} {row : List Stp} {plus : Bool} {i : Nat} (hn : right2 (node l n).ty = true) (hall : ∀ m, isN l m = true → right2 (node l m).ty = true) : stepOkG l n row plus i = stepOk12 l n row plus i := by
  have hs := (right2_iff.1 hn).1
  unfold stepOkG stepOk12
  rw [has2_in hn]
  cases hm : isN l (stp row i).2 with
  | false => simp
  | true =>
    have hr := hall _ hm
    by_cases hx : (stp row i).1 ∈ (node l n).ty
    · cases plus with
      | true => simp [hx]
      | false =>
        have e1 : without2e (node l n).ty (stp row i).1 = (without3 (node l n).ty (stp row i).1, 0) := by simp [without2e, hn, hx, without_alike hs hx]
        rw [e1]; simp [Bool.and_comm, Bool.and_assoc]
    · cases plus with
      | false => simp [hx]
      | true =>
        by_cases ht : (node l (stp row i).2).ty = with3 (node l n).ty (stp row i).1
        · have hr' := hr
          rw [ht] at hr'
          obtain ⟨_, g1, g2⟩ := right2_iff.1 hr'
          have hmay := g1 (stp row i).1 (with3_mem.2 (.inl rfl))
          have hlen : ¬ 12 < (with3 (node l n).ty (stp row i).1).length := by omega
          have e1 : with2e (node l n).ty (stp row i).1 = (with3 (node l n).ty (stp row i).1, 0) := by simp [with2e, hn, hmay, with_alike hs, hlen]
          rw [e1]; simp [ht]
        · have e1 : (((with2e (node l n).ty (stp row i).1).2 == 0) && ((node l (stp row i).2).ty == (with2e (node l n).ty (stp row i).1).1)) = false := by
            unfold with2e
            rw [hn, with_alike hs]
            by_cases c1 : may2 (stp row i).1 = false
            · simp [c1]
            · by_cases c2 : 12 < (with3 (node l n).ty (stp row i).1).length
              · simp [c1, c2]
              · simp [c1, c2, ht]
          rw [if_pos rfl, if_pos rfl, e1]; simp [ht]
theorem steps_alike {l : List Node} {n : Int} {row : List Stp} {plus : Bool} (hn : right2 (node l n).ty = true) (hall : ∀ m, isN l m = true → right2 (node l m).ty = true) : stepsG l n row plus = steps12 l n row plus := by
  unfold stepsG steps12
  rw [show stepOkG l n row plus = stepOk12 l n row plus from funext fun i => stepOk_alike hn hall]
theorem chG_rg {G : PG} (h : ChG G) : RG G := by
  have right : ∀ n, isN G.nodes n = true → right2 (node G.nodes n).ty = true := by
    intro n hn
    obtain ⟨k, hk, rfl, hu, he⟩ := isN_node hn
    rw [he]; exact (h.node hk hu).1
  have st : ∀ n, isN G.nodes n = true → steps12 G.nodes n (node G.nodes n).plus true = true ∧ steps12 G.nodes n (node G.nodes n).less false = true := by
    intro n hn
    rw [← steps_alike (right n hn) right, ← steps_alike (right n hn) right]
    obtain ⟨k, hk, rfl, hu, he⟩ := isN_node hn
    rw [he]; exact (h.node hk hu).2.2
  refine ⟨⟨h.pos, h.last, h.one, List.eq_nil_of_length_eq_zero h.ty1, right, fun n m hn hm ht => ?_, fun i hi hu => h.free hi hu, fun n hn => ⟨(steps12_iff.1 (st n hn).1).1, (steps12_iff.1 (st n hn).2).1⟩, fun n s hn hs => ?_, fun n s hn hs => ?_, ?_⟩, h.look, ?_⟩
  · obtain ⟨k, hk, rfl, hu, he⟩ := isN_node hn
    obtain ⟨j, hj, rfl, hu', he'⟩ := isN_node hm
    rw [he, he'] at ht
    have e1 := (h.node hk hu).2.1
    have e2 := (h.node hj hu').2.1
    rw [ht, e2] at e1
    have := congrArg Prod.fst e1
    simp only at this; omega
  · simpa using (steps12_iff.1 (st n hn).1).2 s hs
  · simpa using (steps12_iff.1 (st n hn).2).2 s hs
  · rw [h.many]; exact all7_4000 h.look
  · have e1 : usedE G.slots = ((usedE G.slots).map (·.num)).map fun m => (⟨1, (node G.nodes m).ty, m⟩ : Entry) := by
      rw [List.map_map]
      conv => lhs; rw [← List.map_id (usedE G.slots)]
      refine List.map_congr_left fun e he => ?_
      obtain ⟨h1, h2⟩ := List.mem_filter.1 he
      have hs : e.st = 1 := by simpa using h2
      obtain ⟨i, hi, hn, hu, ht⟩ := h.slotNode h1 hs
      show e = _
      simp only [Function.comp]
      rw [hn, node_eq hi, ht, ← hn, ← hs]
    rw [e1]
    refine (h.nums.map _).trans ?_
    rw [List.map_map]
    exact .of_eq rfl
theorem RG.chg {G : PG} (h : RG G) : ChG G := by
  have hN := h.nodes
  refine ⟨hN.pos, hN.last, hN.one, by rw [hN.ty1]; rfl, h.look, fun i hi => ?_, ?_⟩
  · unfold nodeOkG
    cases hu : (node G.nodes ((i : Int) + 1)).used with
    | false =>
      rw [if_neg (by simp)]
      rw [node_eq hi] at hu ⊢
      obtain ⟨a1, a2, a3⟩ := hN.free i hi hu
      rw [a1, a2, a3]; rfl
    | true =>
      have hu' := hu
      rw [node_eq hi] at hu'
      have hn : isN G.nodes ((i : Int) + 1) = true := isN_of hi hu'
      have hf := findL_used h.look (h.usedN hi hu') rfl
      have e1 := hN.right _ hn
      have e2 : steps12 G.nodes ((i : Int) + 1) (node G.nodes ((i : Int) + 1)).plus true = true := steps12_iff.2 ⟨(hN.sorted _ hn).1, fun s hs => by simpa using hN.plus _ s hn hs⟩
      have e3 : steps12 G.nodes ((i : Int) + 1) (node G.nodes ((i : Int) + 1)).less false = true := steps12_iff.2 ⟨(hN.sorted _ hn).2, fun s hs => by simpa using hN.less _ s hn hs⟩
      rw [steps_alike e1 hN.right, steps_alike e1 hN.right, e1, e2, e3]
      rw [node_eq hi]
      simp only at hf
      rw [hf]; simp
  · have := h.ents.length_eq
    rw [entsU, List.length_map, usedIx_len] at this
    rw [← this, ← all7_perm'.length_eq]
theorem checkG_rg {G : PG} : checkG G = true ↔ RG G := (checkG_iff G).trans ⟨chG_rg, RG.chg⟩
end Go.Eng
namespace Go.Eng
open Go Go.RowKit Go.Proofs
set_option maxRecDepth 10000
def cutN (x : Node) : Node := ⟨x.used, x.ty.take 14, x.plus.take 20, x.less.take 20⟩
def cutE (e : Entry) : Entry := ⟨e.st, e.ty.take 14, e.num⟩
/-- What can be gone through of a graph. -/
def ownW (G : PG) : PG := ⟨(G.nodes.take 30).map cutN, (G.slots.take 128).map cutE⟩
theorem min30 (n : Nat) : (if (30 : Int) < (n : Int) then (30 : Int) else (n : Int)) = ((min n 30 : Nat) : Int) := by split <;> omega
theorem min14 (n : Nat) : (if (14 : Int) < (n : Int) then (14 : Int) else (n : Int)) = ((min n 14 : Nat) : Int) := by split <;> omega
theorem min20 (n : Nat) : (if (20 : Int) < (n : Int) then (20 : Int) else (n : Int)) = ((min n 20 : Nat) : Int) := by split <;> omega
theorem min128 (n : Nat) : (if (128 : Int) < (n : Int) then (128 : Int) else (n : Int)) = ((min n 128 : Nat) : Int) := by split <;> omega
theorem Row.cut {α : Type} {enc : α → List Value} {w : World} {a : Option Addr} {n c : Nat} {l : List α} (h : Row enc w a n c l) (k : Nat) : Row enc w a (min n k) c (l.take k) := by
  have hl := h.len
  refine ⟨?_, by have := h.le; omega, h.nil, h.max⟩
  have := h.rd.take (min n k) (by omega)
  have e : l.take (min n k) = l.take k := by rw [hl, ← List.take_take]; rw [List.take_of_length_le (l := l.take k) (by simp; omega)] <;> simp
  rwa [e] at this
section
variable {w : World} {a : Option Addr} {n c : Nat}
theorem k_CloneSteps {l : List Stp} (h : Row encStp w a n c l) (hs : n ≤ 1048576) : Cl Tryz.prog 46 #[.slice a n c] w (Made encStp 2 71 w l) := by
  refine c46 _ _ _ ⟨_, nil_eq tySteps.ht, ?_⟩
  cases a with
  | none =>
    have : l = [] := by
      rcases h.rd.2 with h0 | ⟨p, hp, _⟩
      · exact h0
      · simp at hp
    subst this
    exact ⟨_, _, _, rfl, Own.nil, Below.refl _ _⟩
  | some p =>
    rintro b w1 rfl rfl
    have hB : Below w.heap.size w (w.alloc (.cells #[] 71)) := (Below.refl _ _).alloc (Nat.le_refl _) _
    obtain ⟨a', n', c', w', hrun, ho, hg⟩ := app_own (a := some (Addr.mk w.heap.size 0 none)) (n := 0) (c := 0) (l := ([] : List Stp)) (lo := w.heap.size) (ty := 54) (c' := c) tySteps enStp (Own.new enStp.len w [] (Nat.le_refl _) (Nat.zero_le _)) (by rw [size_alloc]; omega) (h.rd.below hB) (by simp) (by simp only [maxLen]; omega) (by omega)
    exact ⟨_, _, _, _, hrun, _, _, _, rfl, ho, hB.grown hg (by rw [size_alloc]; omega) (fun k hk => by cases hk; exact Nat.le_refl _)⟩
end
section
variable {w : World} {a sa : Option Addr} {n c sn sc : Nat} {G : PG}
set_option maxHeartbeats 1000000
theorem k_wOwn (h : Grf w a n c sa sn sc G) : Cl Tryz.prog 9 #[.agg #[.slice a n c, .slice sa sn sc]] w (fun v w' => ∃ a' n' c' sa' sn' sc', v = .agg #[.slice a' n' c', .slice sa' sn' sc'] ∧ DNodes w.heap.size w' a' n' c' (ownW G).nodes ∧ DEnts w.heap.size w' sa' sn' sc' (ownW G).slots ∧ Below w.heap.size w w') := by
  refine c9 _ _ _ _ _ _ ?_
  obtain ⟨ps, hrow, hps, hpG⟩ := h.nodes.pairs
  obtain ⟨es, hrowE, hes, heG⟩ := h.slots.pairs
  have hpl : ps.length = n := by have := hrow.len; simpa using this.symm
  have hel : es.length = sn := by have := hrowE.len; simpa using this.symm
  rintro _ w1 rfl h1 _ w2 rfl h2 _ w3 rfl h3
  have q1 : w3.heap[w.heap.size]? = some (.cells #[.slice a n c, .slice sa sn sc] 27) := by rw [h3, h2, h1]; exact blk_alloc (blk_alloc (blk_new _))
  have q2 : w3.heap[w1.heap.size]? = some (.cells #[.slice none 0 0, .slice none 0 0] 27) := by rw [h3, h2]; exact blk_alloc (blk_new _)
  have q3 : w3.heap[w2.heap.size]? = some (.cells #[.slice none 0 0, .slice none 0 0] 27) := by rw [h3]; exact blk_new _
  have z1 : w1.heap.size = w.heap.size + 1 := by rw [h1, size_alloc]
  have z2 : w2.heap.size = w1.heap.size + 1 := by rw [h2, size_alloc]
  have B3 : Below w.heap.size w w3 := by rw [h3, h2, h1]; exact ((alloc_below w _).alloc (by rw [size_alloc]; omega) _).alloc (by rw [size_alloc, size_alloc]; omega) _
  clear h1 h2 h3
  have hle := hrow.le; have hleE := hrowE.le
  refine ⟨_, _, _, blk_cell q1 0, _, _, _, blk_cell q1 0, ?_⟩
  rw [min30 n]
  simp only [Int.toNat_natCast]
  refine ⟨by omega, by omega, fun _ W => (Below w.heap.size w W ∧ W.heap[w.heap.size]? = some (.cells #[.slice a n c, .slice sa sn sc] 27) ∧ W.heap[w1.heap.size]? = some (.cells #[.slice none 0 0, .slice none 0 0] 27)) ∧
      ∃ oa on oc, W.heap[w2.heap.size]? = some (.cells #[.slice oa on oc, .slice none 0 0] 27) ∧ DNodes w.heap.size W oa on oc (ownW G).nodes, ?_, ?_⟩
  · have hcut := hrow.cut 30
    rw [← List.map_take] at hcut
    refine ⟨fun i W => (Below w.heap.size w W ∧ W.heap[w.heap.size]? = some (.cells #[.slice a n c, .slice sa sn sc] 27) ∧ W.heap[w1.heap.size]? = some (.cells #[.slice none 0 0, .slice none 0 0] 27)) ∧
      ∃ oa on oc, W.heap[w2.heap.size]? = some (.cells #[.slice oa on oc, .slice none 0 0] 27) ∧ ∃ (k : Nat) (qs : List NP), i = k ∧ k ≤ min n 30 ∧ qs.map (·.2) = ((ps.take 30).take k).map (fun p => cutN p.2) ∧ Own encNode 4 56 w.heap.size W oa on oc (qs.map (·.1)) ∧ ∀ p ∈ qs, NodeSays p.1 p.2 ∧ OwnN w.heap.size W p.1 p.2,
      fun i _ => min n 30 - i.toNat, ⟨⟨B3, q1, q2⟩, _, _, _, q3, 0, [], rfl, by omega, rfl, Own.nil, by simp⟩, ?_⟩
    rintro _ W _ ⟨⟨hB, qb, qb2⟩, oa, on, oc, qo, k, qs, rfl, hk, hsnd, ho, hq⟩
    have hql : qs.length = k := by have := congrArg List.length hsnd; simp at this; omega
    have hon : on = k := by have := ho.len; simp at this; omega
    refine cnd (fun hc => ?_) fun hc => ?_
    · have hkn : k < min n 30 := by simp only [decide_eq_true_eq] at hc; omega
      have hkp : k < (ps.take 30).length := by simp; omega
      have hX := hps _ (List.mem_of_mem_take (List.getElem_mem hkp))
      refine (hcut.below hB).nodeN hkn fun hl => box_node fun w6 s6 B6' => ?_
      have e0 : ((ps.take 30).map (·.1))[k]'hl = (ps.take 30)[k].1 := by simp
      rw [e0] at s6
      generalize hXe : (ps.take 30)[k] = X at s6 hX
      obtain ⟨X, x⟩ := X
      dsimp only at s6 hX
      rintro _ rfl
      have s7 := blk_drew s6
      have B7' := B6'.drew
      clear s6 B6'
      generalize w6.drew = w7 at s7 B7' ⊢
      have B7 := hB.trans (B7'.mono hB.size)
      have l1 := hX.ty.le; have l2 := hX.plus.le; have l3 := hX.less.le
      refine ⟨_, _, _, blk_cell s7 1, _, _, _, blk_cell s7 1, ?_⟩
      rw [min14]
      refine ⟨by omega, by omega, _, _, _, blk_cell s7 2, _, _, _, blk_cell s7 2, ?_⟩
      rw [min20]
      refine ⟨by omega, by omega, _, _, _, blk_cell s7 3, _, _, _, blk_cell s7 3, ?_⟩
      rw [min20]
      simp only [Int.toNat_natCast]
      refine ⟨by omega, by omega, (k_CloneIds ((hX.ty.cut 14).below B7) (by omega)).mono ?_⟩
      rintro _ w8 ⟨a8, n8, c8, rfl, ho8, B8'⟩
      have B8 := B7.trans (B8'.mono B7.size)
      have s8 := blk_below s7 B8' (blk_lt s7)
      refine ⟨_, _, _, rfl, blk_cell s8 3, blk_cell s8 3, blk_cell s8 2, blk_cell s8 2, (k_CloneSteps ((hX.plus.cut 20).below B8) (by omega)).mono ?_⟩
      rintro _ w9 ⟨a9, n9, c9, rfl, ho9, B9'⟩
      have B9 := B8.trans (B9'.mono B8.size)
      have s9 := blk_below s8 B9' (blk_lt s8)
      refine ⟨_, _, _, rfl, blk_cell s9 3, blk_cell s9 3, (k_CloneSteps ((hX.less.cut 20).below B9) (by omega)).mono ?_⟩
      rintro _ w10 ⟨a10, n10, c10, rfl, ho10, B10'⟩
      have B10 := B9.trans (B10'.mono B9.size)
      have s10 := blk_below s9 B10' (blk_lt s9)
      have B710 : Below W.heap.size W w10 := B7'.trans (((B8'.trans (B9'.mono B8'.size)).trans (B10'.mono (Nat.le_trans B8'.size B9'.size))).mono B7'.size)
      have hN10 : OwnN w.heap.size w10 (⟨X.used, ⟨a8, n8, c8⟩, ⟨a9, n9, c9⟩, ⟨a10, n10, c10⟩⟩ : RNode) (cutN x) :=
        ⟨((ho8.below B9').below B10').mono B7.size, (ho9.below B10').mono B8.size, ho10.mono B9.size⟩
      refine ⟨_, _, _, rfl, blk_some s10 (j := 1) (by simp), blk_free s10 1, ?_⟩
      rintro w11 h11
      have s11 : w11.heap[W.heap.size]? = some (.cells #[.bool X.used, .slice a8 n8 c8, .slice X.plus.a X.plus.n X.plus.c, .slice X.less.a X.less.n X.less.c] 56) := by rw [h11]; exact blk_set s10 1 _
      have hN11 : OwnN w.heap.size w11 (⟨X.used, ⟨a8, n8, c8⟩, ⟨a9, n9, c9⟩, ⟨a10, n10, c10⟩⟩ : RNode) (cutN x) := by rw [h11]; exact hN10.farB s10 (by decide) (by decide) _
      have B11 : Below W.heap.size W w11 := by rw [h11]; exact B710.setCell (Nat.le_refl _) _
      refine ⟨blk_some s11 (j := 2) (by simp), blk_free s11 2, ?_⟩
      rintro w12 h12
      have s12 : w12.heap[W.heap.size]? = some (.cells #[.bool X.used, .slice a8 n8 c8, .slice a9 n9 c9, .slice X.less.a X.less.n X.less.c] 56) := by rw [h12]; exact blk_set s11 2 _
      have hN12 : OwnN w.heap.size w12 (⟨X.used, ⟨a8, n8, c8⟩, ⟨a9, n9, c9⟩, ⟨a10, n10, c10⟩⟩ : RNode) (cutN x) := by rw [h12]; exact hN11.farB s11 (by decide) (by decide) _
      have B12 : Below W.heap.size W w12 := by rw [h12]; exact B11.setCell (Nat.le_refl _) _
      refine ⟨blk_some s12 (j := 3) (by simp), blk_free s12 3, ?_⟩
      rintro w13 h13
      have s13 : w13.heap[W.heap.size]? = some (.cells #[.bool X.used, .slice a8 n8 c8, .slice a9 n9 c9, .slice a10 n10 c10] 56) := by rw [h13]; exact blk_set s12 3 _
      have hN13 : OwnN w.heap.size w13 (⟨X.used, ⟨a8, n8, c8⟩, ⟨a9, n9, c9⟩, ⟨a10, n10, c10⟩⟩ : RNode) (cutN x) := by rw [h13]; exact hN12.farB s12 (by decide) (by decide) _
      have B13 : Below W.heap.size W w13 := by rw [h13]; exact B12.setCell (Nat.le_refl _) _
      clear h11 h12 h13 s11 s12 hN10 hN11 hN12 B11 B12 s10 s9 s8 s7
      have hBW := hB.trans (B13.mono hB.size)
      have qo13 := blk_below qo B13 (blk_lt qo)
      have ho13 := ho.below B13
      refine ⟨_, _, _, blk_cell qo13 0, _, _, _, _, _, _, _, _, _, _, blk_cell s13 0, blk_cell s13 1, blk_cell s13 2, blk_cell s13 3, ?_⟩
      refine app1 tyNodes enNode ho13 hBW.size (⟨X.used, ⟨a8, n8, c8⟩, ⟨a9, n9, c9⟩, ⟨a10, n10, c10⟩⟩ : RNode) (by simp only [maxLen]; omega) (by omega) fun a' c' w15 ho15 hg15 => ?_
      have qo15 := ho13.keepBlk hg15 qo13 (.inl (by decide))
      have qb15 := ho13.keepBlk hg15 (blk_below qb B13 (blk_lt qb)) (.inl (by decide))
      have qb215 := ho13.keepBlk hg15 (blk_below qb2 B13 (blk_lt qb2)) (.inl (by decide))
      have B15 := hBW.trans (ho13.belowOf hg15 hBW.size)
      refine ⟨blk_some qo15 (by simp), blk_free qo15 _, ?_⟩
      rintro w16 h16
      rw [nx (by omega)]
      refine ⟨⟨⟨by rw [h16]; exact B15.setCell (by show w.heap.size ≤ w2.heap.size; omega) _, by rw [h16]; exact blk_far qb15 (by show w.heap.size ≠ w2.heap.size; omega) _, by rw [h16]; exact blk_far qb215 (by show w1.heap.size ≠ w2.heap.size; omega) _⟩, _, _, _, by rw [h16]; exact blk_set qo15 0 _, k + 1, qs ++ [((⟨X.used, ⟨a8, n8, c8⟩, ⟨a9, n9, c9⟩, ⟨a10, n10, c10⟩⟩ : RNode), cutN x)], rfl, by omega, ?_, ?_, fun p hp => ?_⟩, dec hkn⟩
      · rw [List.map_append, hsnd, take_one hkp, List.map_append, hXe]; rfl
      · rw [h16, List.map_append]; exact ho15.far qo15 (by decide) _
      · rw [h16]
        rcases List.mem_append.1 hp with hp | hp
        · exact ⟨(hq p hp).1, (((hq p hp).2.below B13).keepBy ho13 hg15 (by decide) (by decide)).farB qo15 (by decide) (by decide) _⟩
        · simp only [List.mem_singleton] at hp
          subst hp
          refine ⟨⟨hX.used, fun y hy => hX.rng.1 y (List.mem_of_mem_take hy), fun s hs => hX.rng.2 s ?_⟩, (hN13.keepBy ho13 hg15 (by decide) (by decide)).farB qo15 (by decide) (by decide) _⟩
          rcases List.mem_append.1 hs with hs | hs
          · exact List.mem_append.2 (.inl (List.mem_of_mem_take hs))
          · exact List.mem_append.2 (.inr (List.mem_of_mem_take hs))
    · have hkn : ¬ k < min n 30 := by simp only [decide_eq_false_iff_not] at hc; omega
      refine ⟨⟨hB, qb, qb2⟩, oa, on, oc, qo, qs, ?_, ho, hq⟩
      rw [hsnd, List.take_of_length_le (by simp; omega), ownW, ← hpG, ← List.map_take, List.map_map]; rfl
  · rintro _ W _ ⟨⟨hB, qb, qb2⟩, oa, on, oc, qo, hD⟩
    refine ⟨_, _, _, blk_cell qb 1, _, _, _, blk_cell qb 1, ?_⟩
    rw [min128]
    simp only [Int.toNat_natCast]
    have hcut := hrowE.cut 128
    rw [← List.map_take] at hcut
    refine ⟨by omega, by omega, fun i W => (Below w.heap.size w W ∧ W.heap[w.heap.size]? = some (.cells #[.slice a n c, .slice sa sn sc] 27) ∧ W.heap[w1.heap.size]? = some (.cells #[.slice none 0 0, .slice none 0 0] 27)) ∧ DNodes w.heap.size W oa on oc (ownW G).nodes ∧
      ∃ ea en ec, W.heap[w2.heap.size]? = some (.cells #[.slice oa on oc, .slice ea en ec] 27) ∧ ∃ (k : Nat) (qs : List EP), i = k ∧ k ≤ min sn 128 ∧ qs.map (·.2) = ((es.take 128).take k).map (fun p => cutE p.2) ∧ Own encEnt 3 94 w.heap.size W ea en ec (qs.map (·.1)) ∧ ∀ p ∈ qs, EntSays p.1 p.2 ∧ OwnTy w.heap.size W p.1.ty p.2.ty,
      fun i _ => min sn 128 - i.toNat, ⟨⟨hB, qb, qb2⟩, hD, _, _, _, qo, 0, [], rfl, by omega, rfl, Own.nil, by simp⟩, ?_⟩
    clear hB qb qb2 qo hD W
    rintro _ W _ ⟨⟨hB, qb, qb2⟩, hD, ea, en, ec, qo, k, qs, rfl, hk, hsnd, ho, hq⟩
    have hql : qs.length = k := by have := congrArg List.length hsnd; simp at this; omega
    have hon : en = k := by have := ho.len; simp at this; omega
    refine cnd (fun hc => ?_) fun hc => ?_
    · have hkn : k < min sn 128 := by simp only [decide_eq_true_eq] at hc; omega
      have hkp : k < (es.take 128).length := by simp; omega
      have hX := hes _ (List.mem_of_mem_take (List.getElem_mem hkp))
      refine (hcut.below hB).entN hkn fun hl => box_ent fun w6 s6 B6' => ?_
      have e0 : ((es.take 128).map (·.1))[k]'hl = (es.take 128)[k].1 := by simp
      rw [e0] at s6
      generalize hXe : (es.take 128)[k] = X at s6 hX
      obtain ⟨X, x⟩ := X
      dsimp only at s6 hX
      have B6 := hB.trans (B6'.mono hB.size)
      have l1 := hX.ty.le
      refine ⟨_, _, _, blk_cell s6 1, _, _, _, blk_cell s6 1, ?_⟩
      rw [min14]
      simp only [Int.toNat_natCast]
      refine ⟨by omega, by omega, (k_CloneIds ((hX.ty.cut 14).below B6) (by omega)).mono ?_⟩
      rintro _ w8 ⟨a8, n8, c8, rfl, ho8, B8'⟩
      have B8 := B6.trans (B8'.mono B6.size)
      have s8 := blk_below s6 B8' (blk_lt s6)
      refine ⟨_, _, _, rfl, blk_some s8 (j := 1) (by simp), blk_free s8 1, ?_⟩
      rintro w11 h11
      have s11 : w11.heap[W.heap.size]? = some (.cells #[.int .i64 X.st, .slice a8 n8 c8, .int .i64 X.num] 94) := by rw [h11]; exact blk_set s8 1 _
      have hN11 : OwnTy w.heap.size w11 (⟨a8, n8, c8⟩ : Hd) (x.ty.take 14) := by rw [h11]; exact (ho8.mono B6.size).far s8 (by decide) _
      have B11 : Below W.heap.size W w11 := by rw [h11]; exact (B6'.trans (B8'.mono B6'.size)).setCell (Nat.le_refl _) _
      clear h11 s8 s6
      have hBW := hB.trans (B11.mono hB.size)
      have qo11 := blk_below qo B11 (blk_lt qo)
      have ho11 := ho.below B11
      refine ⟨_, _, _, blk_cell qo11 1, _, _, _, _, _, blk_cell s11 0, blk_cell s11 1, blk_cell s11 2, ?_⟩
      refine app1 tyEnts enEnt ho11 hBW.size (⟨X.st, ⟨a8, n8, c8⟩, X.num⟩ : REnt) (by simp only [maxLen]; omega) (by omega) fun a' c' w15 ho15 hg15 => ?_
      have qo15 := ho11.keepBlk hg15 qo11 (.inl (by decide))
      have qb15 := ho11.keepBlk hg15 (blk_below qb B11 (blk_lt qb)) (.inl (by decide))
      have qb215 := ho11.keepBlk hg15 (blk_below qb2 B11 (blk_lt qb2)) (.inl (by decide))
      have B15 := hBW.trans (ho11.belowOf hg15 hBW.size)
      refine ⟨blk_some qo15 (j := 1) (by simp), blk_free qo15 1, ?_⟩
      rintro w16 h16
      rw [nx (by omega)]
      refine ⟨⟨⟨by rw [h16]; exact B15.setCell (by show w.heap.size ≤ w2.heap.size; omega) _, by rw [h16]; exact blk_far qb15 (by show w.heap.size ≠ w2.heap.size; omega) _, by rw [h16]; exact blk_far qb215 (by show w1.heap.size ≠ w2.heap.size; omega) _⟩, ?_, _, _, _, by rw [h16]; exact blk_set qo15 1 _, k + 1, qs ++ [((⟨X.st, ⟨a8, n8, c8⟩, X.num⟩ : REnt), cutE x)], rfl, by omega, ?_, ?_, fun p hp => ?_⟩, dec hkn⟩
      · rw [h16]
        refine DNodes.farB ?_ qo15 (by decide) (by decide) (by decide) _
        obtain ⟨q9, e1, e2, e3⟩ := hD.below B11
        exact ⟨q9, e1, ho11.keepOwn hg15 e2 (by decide), fun p hp => ⟨(e3 p hp).1, (e3 p hp).2.keepBy ho11 hg15 (by decide) (by decide)⟩⟩
      · rw [List.map_append, hsnd, take_one hkp, List.map_append, hXe]; rfl
      · rw [h16, List.map_append]; exact ho15.far qo15 (by decide) _
      · rw [h16]
        rcases List.mem_append.1 hp with hp | hp
        · exact ⟨(hq p hp).1, (ho11.keepOwn hg15 ((hq p hp).2.below B11) (by decide)).far qo15 (by decide) _⟩
        · simp only [List.mem_singleton] at hp
          subst hp
          exact ⟨⟨hX.st, hX.num, fun y hy => hX.rng.1 y (List.mem_of_mem_take hy), hX.rng.2⟩, (ho11.keepOwn hg15 hN11 (by decide)).far qo15 (by decide) _⟩
    · have hkn : ¬ k < min sn 128 := by simp only [decide_eq_false_iff_not] at hc; omega
      refine ⟨_, _, _, _, _, _, blk_cell qo 0, blk_cell qo 1, put_back2 qb2 fun W' hW' hq' => ?_⟩
      have qm := blk_set qb2 0 (.slice oa on oc)
      have hE : DEnts w.heap.size W ea en ec (ownW G).slots := by
        refine ⟨qs, ?_, ho, hq⟩
        rw [hsnd, List.take_of_length_le (by simp; omega), ownW, ← heG, ← List.map_take, List.map_map]; rfl
      refine ⟨_, _, _, _, _, _, rfl, ?_, ?_, ?_⟩
      · rw [hW']; exact (hD.farB qb2 (by decide) (by decide) (by decide) _).farB qm (by decide) (by decide) (by decide) _
      · rw [hW']; exact (hE.farB qb2 (by decide) (by decide) _).farB qm (by decide) (by decide) _
      · rw [hW']; exact (hB.setCell (by show w.heap.size ≤ w1.heap.size; omega) _).setCell (by show w.heap.size ≤ w1.heap.size; omega) _
end
end Go.Eng
namespace Go.Eng
open Go Go.RowKit Go.Proofs
set_option maxRecDepth 10000
/-- Just these nodes, and the lookup says them. -/
def SaysP (G : PG) (l : List Node) : Prop := G.nodes = l ∧ (l.length = 0 → G.slots.length = 0) ∧ (l.length ≠ 0 → Right7 G.slots ∧ all7 Entry.st Entry.ty G.slots = ents12 l)
section
variable {w : World} {a b sa sb : Option Addr} {n c m d sn sc sm sd : Nat} {G H : PG} {l l' : List Entry}
theorem k_wSame1 {r r' : REnt} {e e' : Entry} (h : IsEnt w r e) (h' : IsEnt w r' e') : Cl Tryz.prog 68 #[.agg (encEnt r).toArray, .agg (encEnt r').toArray] w (Gives w (.bool (decide (e = e')))) := by
  refine c68 r.st r.ty.a r.ty.n r.ty.c r.num r'.st r'.ty.a r'.ty.n r'.ty.c r'.num ?_
  rintro _ w1 rfl h1 _ w2 rfl h2
  have q1 : w2.heap[w.heap.size]? = some (.cells #[.int .i64 r.st, .slice r.ty.a r.ty.n r.ty.c, .int .i64 r.num] 94) := by rw [h2, h1]; exact blk_alloc (blk_new _)
  have q2 : w2.heap[w1.heap.size]? = some (.cells #[.int .i64 r'.st, .slice r'.ty.a r'.ty.n r'.ty.c, .int .i64 r'.num] 94) := by rw [h2]; exact blk_new _
  have B : Below w.heap.size w w2 := by rw [h2, h1]; exact (alloc_below w _).alloc (by rw [size_alloc]; omega) _
  have no : e ≠ e' → ∀ W, Below w.heap.size w W → Gives w (.bool (decide (e = e'))) (.bool false) W := fun hne W hB => ⟨by simp [hne], hB⟩
  refine ⟨_, blk_cell q1 0, _, blk_cell q2 0, cnd (fun g1 => ⟨_, blk_cell q1 2, _, blk_cell q2 2, cnd (fun g2 => ?_) fun g2 => no ?_ _ B⟩) fun g1 => no ?_ _ B⟩
  · refine ⟨_, _, _, blk_cell q1 1, _, _, _, blk_cell q2 1, (k_EqIds (h.ty.below B) (h'.ty.below B)).tells fun w3 hq => ⟨_, rfl, ?_, B.trans (hq.below _)⟩⟩
    have e1 : e.st = e'.st := by rw [← h.st, ← h'.st]; simpa using g1
    have e2 : e.num = e'.num := by rw [← h.num, ← h'.num]; simpa using g2
    by_cases ht : e.ty = e'.ty
    · rw [ent_beq.2 ⟨e1, ht, e2⟩]; simp
    · have : ¬ e = e' := fun h0 => ht (by rw [h0])
      simp [this, ht]
  · intro h0
    have : r.num = r'.num := by rw [h.num, h'.num, h0]
    rw [this] at g2; simp at g2
  · intro h0
    have : r.st = r'.st := by rw [h.st, h'.st, h0]
    rw [this] at g1; simp at g1
theorem k_EqFEnts (h1 : Ents w a n c l) (h2 : Ents w b m d l') : Cl Tryz.prog 67 #[.slice a n c, .slice b m d, .func (.func 68) #[] #[]] w (Gives w (.bool (decide (l = l')))) := by
  refine c67 _ _ _ _ _ _ 68 [] ?_
  obtain ⟨rs, hrow, hall⟩ := h1
  obtain ⟨rs', hrow', hall'⟩ := h2
  have el := hall.1; have el' := hall'.1
  obtain rfl : n = l.length := by have := hrow.len; omega
  obtain rfl : m = l'.length := by have := hrow'.len; omega
  have e3 := hrow.n63
  have no : ∀ W, Below w.heap.size w W → l ≠ l' → Gives w (.bool (decide (l = l'))) (.bool false) W := fun W hB h => ⟨by simp [h], hB⟩
  refine cnd (fun hc => no _ (Below.refl _ _) (by rintro rfl; simp at hc)) fun hc => ?_
  have hnm : l.length = l'.length := by simp at hc; omega
  refine ⟨fun _ i w' => Below w.heap.size w w' ∧ ∃ k : Nat, i = k ∧ k ≤ l.length ∧ l.take k = l'.take k, fun _ i _ => l.length - i.toNat, ⟨Below.refl _ _, 0, rfl, by omega, rfl⟩, ?_⟩
  rintro _ w1 s _ ⟨hB, k, rfl, hk, ht⟩
  refine cnd (fun hc => ?_) fun hc => ?_
  · have hkn : k < l.length := by simpa using hc
    have hkn' : k < l'.length := by omega
    refine (hrow.below hB).entN hkn fun hl => box_ent fun w3 s3 B3' => ?_
    have B3 := hB.trans (B3'.mono hB.size)
    refine (hrow'.below B3).entN hkn' fun hl' => box_ent fun w5 s5 B5' => ?_
    have B5 := B3.trans (B5'.mono B3.size)
    have s3' := blk_below s3 B5' (blk_lt s3)
    have x := hall.2 k hl hkn
    have y := hall'.2 k hl' hkn'
    refine ⟨_, _, _, _, _, blk_cell s3' 0, blk_cell s3' 1, blk_cell s3' 2, _, _, _, _, _, blk_cell s5 0, blk_cell s5 1, blk_cell s5 2, (k_wSame1 (x.below B5) (y.below B5)).gives fun w6 B6' => ⟨_, rfl, ?_⟩⟩
    have B6 := B5.trans (B6'.mono B5.size)
    refine cnd (fun g => no _ B6 ?_) fun g => ?_
    · rintro rfl; simp at g
    · have hxy : l[k] = l'[k] := by simpa using g
      rw [nx (by omega)]
      exact ⟨⟨B6, k + 1, rfl, by omega, by rw [take_one hkn, take_one hkn', ht, hxy]⟩, dec hkn⟩
  · have hkn : ¬ k < l.length := by simpa using hc
    rw [take_all (by omega), take_all (by omega)] at ht
    exact ⟨by simp [ht], hB⟩
theorem k_wSame (h1 : Grf w a n c sa sn sc G) (h2 : Grf w b m d sb sm sd H) : Cl Tryz.prog 20 #[.agg #[.slice a n c, .slice sa sn sc], .agg #[.slice b m d, .slice sb sm sd]] w (Asks w (G = H)) := by
  refine c20 _ _ _ _ _ _ _ _ _ _ _ _ ?_
  rintro _ w1 rfl g1 _ w2 rfl g2
  have q1 : w2.heap[w.heap.size]? = some (.cells #[.slice a n c, .slice sa sn sc] 27) := by rw [g2, g1]; exact blk_alloc (blk_new _)
  have q2 : w2.heap[w1.heap.size]? = some (.cells #[.slice b m d, .slice sb sm sd] 27) := by rw [g2]; exact blk_new _
  have B2 : Below w.heap.size w w2 := by rw [g2, g1]; exact (alloc_below w _).alloc (by rw [size_alloc]; omega) _
  clear g1 g2
  refine ⟨_, _, _, blk_cell q1 0, _, _, _, blk_cell q2 0, (k_r12Same (h1.nodes.below B2) (h2.nodes.below B2)).gives fun w3 B3' => ⟨_, rfl, ?_⟩⟩
  have B3 := B2.trans (B3'.mono B2.size)
  refine cnd (fun g => ?_) fun g => asks_no ?_ B3
  · have hN : G.nodes = H.nodes := by simpa using g
    refine ⟨_, _, _, blk_cell (blk_below q1 B3' (blk_lt q1)) 1, _, _, _, blk_cell (blk_below q2 B3' (blk_lt q2)) 1, (k_EqFEnts (h1.slots.below B3) (h2.slots.below B3)).gives fun w4 B4' => ⟨_, rfl, _, rfl, ?_, B3.trans (B4'.mono B3.size)⟩⟩
    rw [decide_eq_true_iff]
    obtain ⟨Gn, Gs⟩ := G
    obtain ⟨Hn, Hs⟩ := H
    dsimp only at hN ⊢
    subst hN
    simp
  · rintro rfl; simp at g
theorem k_wSays (h1 : Grf w a n c sa sn sc G) {L : List Node} (h2 : Nodes w b m d L) (hs : G.slots.length ≤ 1000000) (hL : L.length ≤ 1000000) : Cl Tryz.prog 19 #[.agg #[.slice a n c, .slice sa sn sc], .slice b m d] w (Asks w (SaysP G L)) := by
  refine c19 _ _ _ _ _ _ _ _ _ ?_
  have hm := h2.len
  have hsn := h1.slots.len
  rintro _ w1 rfl g1
  have q1 : w1.heap[w.heap.size]? = some (.cells #[.slice a n c, .slice sa sn sc] 27) := by rw [g1]; exact blk_new _
  have B1 : Below w.heap.size w w1 := by rw [g1]; exact alloc_below _ _
  clear g1
  refine ⟨_, _, _, blk_cell q1 0, (k_r12Same (h1.nodes.below B1) (h2.below B1)).gives fun w2 B2' => ⟨_, rfl, ?_⟩⟩
  have B2 := B1.trans (B2'.mono B1.size)
  have q2 := blk_below q1 B2' (blk_lt q1)
  refine cnd (fun g => asks_no ?_ B2) fun g => ?_
  · rintro ⟨h0, _⟩; rw [h0] at g; simp at g
  have hN : G.nodes = L := by simpa using g
  clear g
  refine cnd (fun g => ?_) fun g => ?_
  · have h0 : L.length = 0 := by simp at g; omega
    refine ⟨_, _, _, blk_cell q2 1, _, rfl, ?_, B2⟩
    rw [beq_iff_eq]
    exact ⟨fun h => ⟨hN, fun _ => by omega, fun hn => absurd h0 hn⟩, fun h => by have := h.2.1 h0; omega⟩
  · have h0 : L.length ≠ 0 := by
      intro h; rw [hm, h] at g; simp at g
    refine ⟨_, _, _, blk_cell q2 1, (k_r07Right (h1.slots.below B2) (by omega)).mono ?_⟩
    rintro _ w3 ⟨b3, rfl, hb3, B3'⟩
    have B3 := B2.trans (B3'.mono B2.size)
    have q3 := blk_below q2 B3' (blk_lt q2)
    refine ⟨_, rfl, cnd (fun g2 => ?_) fun g2 => asks_no ?_ B3⟩
    · refine ⟨_, _, _, blk_cell q3 1, (k_r07All (h1.slots.below B3) (by omega)).mono ?_⟩
      rintro _ w5 ⟨a5, n5, c5, rfl, ho5, B5'⟩
      have B5 := B3.trans (B5'.mono B3.size)
      refine ⟨_, _, _, rfl, (k_r12Entries (h2.below B5) (by omega)).mono ?_⟩
      rintro _ w6 ⟨a6, n6, c6, rfl, ho6, B6'⟩
      have B6 := B5.trans (B6'.mono B5.size)
      refine ⟨_, _, _, rfl, (k_r07Same (ho5.ents.below B6') ho6.ents).gives fun w7 B7' => ⟨_, rfl, _, rfl, ?_, B6.trans (B7'.mono B6.size)⟩⟩
      rw [decide_eq_true_iff]
      exact ⟨fun h => ⟨hN, fun h9 => absurd h9 h0, fun _ => ⟨hb3.1 g2, h⟩⟩, fun h => (h.2.2 h0).2⟩
    · rintro ⟨_, _, h⟩; rw [hb3.2 (h h0).1] at g2; cases g2
end
end Go.Eng
namespace Go.Eng
open Go Go.Proofs
set_option exponentiation.threshold 300
theorem perm_of_mem {α : Type} [DecidableEq α] {l l' : List α} (h : l.Nodup) (h' : l'.Nodup) (he : ∀ x, x ∈ l ↔ x ∈ l') : l.Perm l' :=
  (pigeon_perm h (fun x hx => (he x).1 hx) (pigeon h' fun x hx => (he x).2 hx)).symm
theorem mem_entsN {l : List Node} {e : Entry} : e ∈ entsU l ↔ ∃ n, isN l n = true ∧ e = ⟨1, (node l n).ty, n⟩ := by
  rw [mem_entsU]
  constructor
  · rintro ⟨k, hk, hu, rfl⟩; exact ⟨(k : Int) + 1, isN_of hk hu, by rw [node_eq hk]⟩
  · rintro ⟨n, hn, rfl⟩
    obtain ⟨k, hk, rfl, hu, he⟩ := isN_node hn
    exact ⟨k, hk, hu, by rw [he]⟩
theorem entsU_nodup (l : List Node) : (entsU l).Nodup := by
  unfold entsU
  rw [List.nodup_iff_pairwise_ne, List.pairwise_map]
  refine (usedIx_nodup l).imp fun hab he => hab ?_
  have := congrArg Entry.num he
  simp only [entN] at this; omega
theorem find_alike {G : PG} (h : RG G) (t : List Int) : findL G.slots t = (findN G.nodes t, decide (0 < findN G.nodes t)) := by
  by_cases hf : 0 < findN G.nodes t
  · obtain ⟨k, hk, hkl, hu, ht⟩ := findN_pos hf
    have := findL_used h.look (h.usedN hkl hu) rfl
    simp only [ht] at this
    rw [this, hk, decide_eq_true (by omega : 0 < ((k : Nat) : Int) + 1)]
  · have h0 : findN G.nodes t = 0 := by
      unfold findN at hf ⊢
      split <;> rename_i hi
      · rw [hi] at hf; simp only at hf; omega
      · rfl
    have hno : (findL G.slots t).2 = false := by
      cases h2 : (findL G.slots t).2 with
      | false => rfl
      | true =>
        exfalso
        obtain ⟨i, hi, _, hu, ht⟩ := h.chg.find h2
        obtain ⟨j, e, _⟩ := findN_self hi hu
        rw [ht] at e; omega
    rw [h0]
    unfold findL at hno ⊢
    rw [h.look] at hno ⊢
    simp only [Bool.true_eq_false, if_false] at hno ⊢
    split
    · simp
    · rename_i hp; rw [if_neg hp] at hno; simp at hno
theorem findN_none {l : List Node} {t : List Int} (h : ¬ 0 < findN l t) {n : Int} (hn : isN l n = true) : (node l n).ty ≠ t := by
  intro ht
  obtain ⟨k, hk, rfl, hu, he⟩ := isN_node hn
  obtain ⟨j, e, _⟩ := findN_self hk hu
  rw [he] at ht
  rw [ht] at e; omega
theorem setNode_length {l : List Node} {k : Nat} (hk : k ≤ l.length) (x : Node) : (setNode l k x).length = max l.length (k + 1) := by
  unfold setNode; split
  · rw [List.length_set]; omega
  · simp; omega
theorem node_setNode {l : List Node} {k : Nat} (hk : k ≤ l.length) (x : Node) {n : Int} (hn : 1 ≤ n) : node (setNode l k x) n = if n = (k : Int) + 1 then x else node l n := by
  obtain ⟨j, rfl⟩ : ∃ j : Nat, n = (j : Int) + 1 := ⟨(n - 1).toNat, by omega⟩
  have e1 : ((j : Int) + 1 - 1).toNat = j := by omega
  have e2 : ((j : Int) + 1 = (k : Int) + 1) ↔ j = k := by omega
  simp only [node, e1, e2, List.getD_eq_getElem?_getD]
  unfold setNode
  split
  · rw [List.getElem?_set]
    by_cases hjk : k = j
    · subst hjk; simp [*]
    · rw [if_neg hjk, if_neg (Ne.symm hjk)]
  · have : k = l.length := by omega
    subst this
    by_cases hjk : j = l.length
    · subst hjk; simp
    · rw [if_neg hjk]
      rcases Nat.lt_or_ge j l.length with hl | hl
      · rw [List.getElem?_append_left hl]
      · rw [List.getElem?_append_right hl, List.getElem?_eq_none hl, List.getElem?_eq_none (by simp; omega)]
theorem isN_setNode {l : List Node} {k : Nat} (hk : k ≤ l.length) (x : Node) (n : Int) : isN (setNode l k x) n = if n = (k : Int) + 1 then x.used else isN l n := by
  by_cases hn : 1 ≤ n
  · unfold isN
    rw [node_setNode hk x hn, setNode_length hk]
    by_cases he : n = (k : Int) + 1
    · simp only [if_pos he]
      have h2 : n ≤ ((max l.length (k + 1) : Nat) : Int) := by omega
      simp [hn, h2]
    · simp only [if_neg he]
      by_cases hl : n ≤ (l.length : Int)
      · have h2 : n ≤ ((max l.length (k + 1) : Nat) : Int) := by omega
        simp [hl, h2]
      · have h2 : ¬ n ≤ ((max l.length (k + 1) : Nat) : Int) := by omega
        simp [hl, h2]
  · have he : ¬ n = (k : Int) + 1 := by omega
    simp [isN, hn, he]
theorem isN_freeIx (l : List Node) : isN l ((freeIx l : Int) + 1) = false := by rw [isN_free (Nat.le_refl _)]; simp
theorem StpP.keep {l l' : List Node} {n : Int} {s : Stp} (h : StpP l n s) (h1 : node l' n = node l n) (h2 : node l' s.2 = node l s.2) (h3 : isN l' s.2 = isN l s.2) : StpP l' n s := by
  unfold StpP at h ⊢; rw [h1, h2, h3]; exact h
theorem StpL.keep {l l' : List Node} {n : Int} {s : Stp} (h : StpL l n s) (h1 : node l' n = node l n) (h2 : node l' s.2 = node l s.2) (h3 : isN l' s.2 = isN l s.2) : StpL l' n s := by
  unfold StpL at h ⊢; rw [h1, h2, h3]; exact h
theorem isN_ge {l : List Node} {n : Int} (h : isN l n = true) : 1 ≤ n := by
  simp only [isN, Bool.and_eq_true, decide_eq_true_eq] at h; exact h.1.1
theorem entsU_setNode {l : List Node} {k : Nat} (hk : k ≤ l.length) (hfree : isN l ((k : Int) + 1) = false) {t : List Int} {p q : List Stp} : (entsU (setNode l k ⟨true, t, p, q⟩)).Perm (⟨1, t, (k : Int) + 1⟩ :: entsU l) := by
  refine perm_of_mem (entsU_nodup _) (List.nodup_cons.2 ⟨fun hm => ?_, entsU_nodup _⟩) fun e => ?_
  · obtain ⟨n, hn, he⟩ := mem_entsN.1 hm
    have := congrArg Entry.num he
    simp only at this
    rw [← this, hfree] at hn; cases hn
  · rw [List.mem_cons, mem_entsN, mem_entsN]
    constructor
    · rintro ⟨n, hn, rfl⟩
      rw [node_setNode hk _ (isN_ge hn)]
      rw [isN_setNode hk] at hn
      by_cases he : n = (k : Int) + 1
      · left; simp [he]
      · right; rw [if_neg he] at hn; exact ⟨n, hn, by rw [if_neg he]⟩
    · rintro (rfl | ⟨n, hn, rfl⟩)
      · refine ⟨(k : Int) + 1, by rw [isN_setNode hk, if_pos rfl], ?_⟩
        rw [node_setNode hk _ (by omega), if_pos rfl]
      · have he : n ≠ (k : Int) + 1 := by rintro rfl; rw [hfree] at hn; cases hn
        exact ⟨n, by rw [isN_setNode hk, if_neg he]; exact hn, by rw [node_setNode hk _ (isN_ge hn), if_neg he]⟩
theorem manyN_entsU (l : List Node) : manyN l = (entsU l).length := by rw [entsU, List.length_map, usedIx_len]
theorem N12.put {l : List Node} (h : N12 l) {t : List Int} (ht : right2 t = true) (hf : ¬ 0 < findN l t) (hm : manyN l ≠ 4000) : N12 (setNode l (freeIx l) ⟨true, t, [], []⟩) := by
  have hk := freeIx_le l
  have hfree := isN_freeIx l
  generalize freeIx l = k at *
  have hne : ∀ n, isN l n = true → n ≠ (k : Int) + 1 := by rintro n hn rfl; rw [hfree] at hn; cases hn
  have hnode : ∀ n, isN l n = true → node (setNode l k ⟨true, t, [], []⟩) n = node l n := fun n hn => by rw [node_setNode hk _ (isN_ge hn), if_neg (hne n hn)]
  have his : ∀ n, isN l n = true → isN (setNode l k ⟨true, t, [], []⟩) n = true := fun n hn => by rw [isN_setNode hk, if_neg (hne n hn)]; exact hn
  have hnew : node (setNode l k ⟨true, t, [], []⟩) ((k : Int) + 1) = ⟨true, t, [], []⟩ := by rw [node_setNode hk _ (by omega), if_pos rfl]
  have hor : ∀ n, isN (setNode l k ⟨true, t, [], []⟩) n = true → n = (k : Int) + 1 ∨ isN l n = true := by
    intro n hn
    rw [isN_setNode hk] at hn
    by_cases he : n = (k : Int) + 1
    · exact .inl he
    · rw [if_neg he] at hn; exact .inr hn
  have hlen := setNode_length hk (⟨true, t, [], []⟩ : Node)
  have hpos := h.pos
  refine ⟨by omega, ?_, his 1 h.one, by rw [hnode 1 h.one]; exact h.ty1, fun n hn => ?_, fun n m hn hm' he => ?_, fun i hi hu => ?_, fun n hn => ?_, fun n s hn hs => ?_, fun n s hn hs => ?_, ?_⟩
  · rw [hlen, isN_setNode hk]
    by_cases he : ((max l.length (k + 1) : Nat) : Int) = (k : Int) + 1
    · rw [if_pos he]
    · rw [if_neg he, show max l.length (k + 1) = l.length by omega]; exact h.last
  · rcases hor n hn with rfl | hn
    · rw [hnew]; exact ht
    · rw [hnode n hn]; exact h.right n hn
  · rcases hor n hn with rfl | hn
    · rcases hor m hm' with rfl | hm'
      · rfl
      · rw [hnew, hnode m hm'] at he
        exact absurd he.symm (findN_none hf hm')
    · rcases hor m hm' with rfl | hm'
      · rw [hnew, hnode n hn] at he
        exact absurd he (findN_none hf hn)
      · rw [hnode n hn, hnode m hm'] at he
        exact h.uniq n m hn hm' he
  · have e1 : node (setNode l k ⟨true, t, [], []⟩) ((i : Int) + 1) = (setNode l k ⟨true, t, [], []⟩)[i] := node_eq hi
    rw [node_setNode hk _ (by omega)] at e1
    by_cases he : (i : Int) + 1 = (k : Int) + 1
    · rw [if_pos he] at e1; rw [← e1] at hu; cases hu
    · rw [if_neg he] at e1
      have hil : i < l.length := by omega
      rw [node_eq hil] at e1
      rw [← e1] at hu ⊢
      exact h.free i hil hu
  · rcases hor n hn with rfl | hn
    · rw [hnew]; exact ⟨.nil, .nil⟩
    · rw [hnode n hn]; exact h.sorted n hn
  · rcases hor n hn with rfl | hn
    · rw [hnew] at hs; cases hs
    · rw [hnode n hn] at hs
      have := h.plus n s hn hs
      exact this.keep (hnode n hn) (hnode _ this.1) (by rw [his _ this.1, this.1])
  · rcases hor n hn with rfl | hn
    · rw [hnew] at hs; cases hs
    · rw [hnode n hn] at hs
      have := h.less n s hn hs
      exact this.keep (hnode n hn) (hnode _ this.1) (by rw [his _ this.1, this.1])
  · have := (entsU_setNode hk hfree (t := t) (p := []) (q := [])).length_eq
    have h2 := h.many
    rw [manyN_entsU, this, List.length_cons, ← manyN_entsU]; omega
theorem all7_many {G : PG} (h : RG G) : (all7 Entry.st Entry.ty G.slots).length = manyN G.nodes := by
  rw [all7_perm'.length_eq, h.ents.length_eq, ← manyN_entsU]
/-- A graph of which a node has a type: by the code and by the document. -/
theorem of_alike {G : PG} (h : RG G) {t : List Int} (hr : Rng t) :
    (ofG G t).1.nodes = (of12 G.nodes t).1 ∧ (ofG G t).2 = (of12 G.nodes t).2 ∧ ((ofG G t).1.slots.length ≤ max G.slots.length 16004 ∧ (ofG G t).1.nodes.length ≤ G.nodes.length + 1) ∧ ((ofG G t).2.2 ≠ 0 → (ofG G t).1 = ⟨[], []⟩) ∧
    ((ofG G t).2.2 = 0 → RG (ofG G t).1 ∧ isN (ofG G t).1.nodes (ofG G t).2.1 = true ∧ (node (ofG G t).1.nodes (ofG G t).2.1).ty = t ∧ ∀ n, isN G.nodes n = true → isN (ofG G t).1.nodes n = true ∧ node (ofG G t).1.nodes n = node G.nodes n) := by
  have hra := right_alike hr
  have hfa := find_alike h t
  unfold ofG of12
  rw [← hra, hfa, ents12_len]
  cases h2 : right2 t with
  | false => simp
  | true =>
    by_cases hf : 0 < findN G.nodes t
    · simp only [hf, decide_true, Bool.true_eq_false, if_true, if_false]
      obtain ⟨k, hk, hkl, hu, ht⟩ := findN_pos hf
      refine ⟨trivial, trivial, ⟨by omega, by omega⟩, fun h => absurd rfl h, fun _ => ⟨h, ?_, ?_, fun n hn => ⟨hn, trivial⟩⟩⟩
      · rw [hk]; exact isN_of hkl hu
      · rw [hk, node_eq hkl]; exact ht
    · have hpl : place G.slots t < 0 := by
        rcases Int.lt_or_le (place G.slots t) 0 with h0 | h0
        · exact h0
        · exfalso
          have h3 : (findL G.slots t).2 = true := by simp [findL, h.look, show ¬ place G.slots t < 0 by omega]
          rw [hfa] at h3; simp [hf] at h3
      have hk := freeIx_le G.nodes
      by_cases hm : manyN G.nodes = 4000
      · have hpe : putL G.slots t ((freeIx G.nodes : Int) + 1) = ([], 6) := by
          simp only [putL, h.look, h2, Bool.true_eq_false, if_false, show ¬ ((freeIx G.nodes : Int) + 1) < 0 by omega, show ¬ 0 ≤ place G.slots t by omega, all7_many h, hm, if_true]
        simp [hf, hm, hpe]
      · obtain ⟨p1, p2, p3⟩ := put_ok (num := (freeIx G.nodes : Int) + 1) h.look h2 (by omega) hpl (by rw [all7_many h]; exact hm)
        have hlen : (putL G.slots t ((freeIx G.nodes : Int) + 1)).1.length ≤ max G.slots.length 16004 := by
          have e : putL G.slots t ((freeIx G.nodes : Int) + 1) = (laidL (all7 Entry.st Entry.ty G.slots ++ [⟨1, t, (freeIx G.nodes : Int) + 1⟩]) (manyOf ((all7 Entry.st Entry.ty G.slots).length + 1)), 0) := by
            simp only [putL, h.look, h2, Bool.true_eq_false, if_false, show ¬ ((freeIx G.nodes : Int) + 1) < 0 by omega, show ¬ 0 ≤ place G.slots t by omega, all7_many h, hm]
          rw [e]
          show (laidL _ _).length ≤ _
          rw [laidL_len]
          have := all7_4000 h.look
          have h2 := manyOf_le ((all7 Entry.st Entry.ty G.slots).length + 1)
          have := all7_many h
          omega
        have hnl : (setNode G.nodes (freeIx G.nodes) ⟨true, t, [], []⟩).length ≤ G.nodes.length + 1 := by rw [setNode_length hk]; omega
        simp only [hf, hm, p1, decide_false, Bool.true_eq_false, Bool.false_eq_true, if_false, ne_eq, not_true_eq_false]
        refine ⟨trivial, trivial, ⟨hlen, hnl⟩, False.elim, fun _ => ⟨⟨h.nodes.put h2 hf hm, p2, ?_⟩, ?_, ?_, fun n hn => ?_⟩⟩
        · refine p3.trans ((h.ents.cons _).trans (entsU_setNode hk (isN_freeIx _)).symm)
        · rw [isN_setNode hk, if_pos rfl]
        · rw [node_setNode hk _ (by omega), if_pos rfl]
        · have he : n ≠ (freeIx G.nodes : Int) + 1 := by rintro rfl; rw [isN_freeIx] at hn; cases hn
          exact ⟨by rw [isN_setNode hk, if_neg he]; exact hn, by rw [node_setNode hk _ (isN_ge hn), if_neg he]⟩
/-- A graph that may be says its nodes. -/
theorem RG.says {G : PG} (h : RG G) (hr : RngN G.nodes) (hn : G.slots.length < 2 ^ 62) : SaysP G G.nodes := by
  refine ⟨rfl, fun h0 => by have := h.nodes.pos; omega, fun _ => ⟨(right7_iff (fun e he hs => ?_) hn).2 h.look, (all7_ents h.look).2 h.ents⟩⟩
  have hm : e ∈ usedE G.slots := List.mem_filter.2 ⟨he, by simp [hs]⟩
  obtain ⟨n, _, rfl⟩ := mem_entsN.1 (h.ents.mem_iff.1 hm)
  exact hr.node n
theorem says_nil : SaysP ⟨[], []⟩ [] := ⟨rfl, fun _ => rfl, fun h => absurd rfl h⟩
end Go.Eng
namespace Go.Eng
open Go Go.Proofs
set_option exponentiation.threshold 300
theorem keys_mem {l : List Stp} {x : Int} : x ∈ keys l ↔ ∃ y, (x, y) ∈ l := by
  simp only [keys, List.mem_map]
  constructor
  · rintro ⟨⟨a, b⟩, h, rfl⟩; exact ⟨b, h⟩
  · rintro ⟨y, h⟩; exact ⟨_, h, rfl⟩
theorem withS_mem {l : List Stp} {s x : Stp} : x ∈ withS l s ↔ x = s ∨ (x ∈ l ∧ x.1 ≠ s.1) := by
  simp only [withS, List.mem_append, List.mem_cons, List.mem_filter, decide_eq_true_eq]
  constructor
  · rintro (⟨h1, h2⟩ | rfl | ⟨h1, h2⟩)
    · exact .inr ⟨h1, by omega⟩
    · exact .inl rfl
    · exact .inr ⟨h1, by omega⟩
  · rintro (rfl | ⟨h1, h2⟩)
    · exact .inr (.inl rfl)
    · rcases Int.lt_or_gt_of_ne h2 with h | h
      · exact .inl ⟨h1, h⟩
      · exact .inr (.inr ⟨h1, h⟩)
theorem keys_withS (l : List Stp) (s : Stp) : keys (withS l s) = with3 (keys l) s.1 := by
  simp only [keys, withS, with3, List.map_append, List.map_cons, List.filter_map]
  rfl
theorem at2_cons_lt {y x : Int} {l : List Int} (h : y < x) : at2 (y :: l) x = at2 l x + 1 := by simp [at2, h]
theorem at2_cons_ge {y x : Int} {l : List Int} (h : ¬ y < x) : at2 (y :: l) x = 0 := by simp [at2, h]
theorem putS_withS : ∀ {l : List Stp}, (keys l).Pairwise (· < ·) → ∀ {id to : Int}, (id ∈ keys l → (id, to) ∈ l) → putS l id to = withS l (id, to)
  | [], _, id, to, _ => by simp [putS, withS, keys, at2]
  | (a, b) :: l, h, id, to, hin => by
    have hk : keys ((a, b) :: l) = a :: keys l := rfl
    rw [hk] at h
    obtain ⟨h1, h2⟩ := List.pairwise_cons.1 h
    by_cases hlt : a < id
    · have hin' : id ∈ keys l → (id, to) ∈ l := by
        intro hm
        have := hin (by rw [hk]; exact List.mem_cons_of_mem _ hm)
        rcases List.mem_cons.1 this with he | he
        · have := congrArg Prod.fst he; simp only at this; omega
        · exact he
      have ih := putS_withS h2 hin'
      have hid : (id ∈ keys ((a, b) :: l)) ↔ id ∈ keys l := by rw [hk, List.mem_cons]; constructor
                                                               · rintro (rfl | h); · omega
                                                                 · exact h
                                                               · exact .inr
      have e1 : putS ((a, b) :: l) id to = (a, b) :: putS l id to := by
        unfold putS
        by_cases hm : id ∈ keys l
        · rw [if_pos (hid.2 hm), if_pos hm]
        · rw [if_neg (fun h => hm (hid.1 h)), if_neg hm, hk, at2_cons_lt hlt]; rfl
      have e2 : withS ((a, b) :: l) (id, to) = (a, b) :: withS l (id, to) := by
        have hn : ¬ id < a := by omega
        simp only [withS, List.filter_cons, hlt, hn, decide_true, decide_false, if_true, Bool.false_eq_true, if_false, List.cons_append]
      rw [e1, e2, ih]
    · have f1 : l.filter (fun x => decide (x.1 < id)) = [] := by
        rw [List.filter_eq_nil_iff]; intro z hz
        have := h1 z.1 (keys_mem.2 ⟨z.2, hz⟩); simp; omega
      have f2 : l.filter (fun x => decide (id < x.1)) = l := by
        rw [List.filter_eq_self]; intro z hz
        have := h1 z.1 (keys_mem.2 ⟨z.2, hz⟩); simp; omega
      by_cases he : a = id
      · subst he
        have hm : (a, to) ∈ (a, b) :: l := hin (by rw [hk]; exact List.mem_cons_self)
        have hb : to = b := by
          rcases List.mem_cons.1 hm with he | he
          · exact congrArg Prod.snd he
          · have := h1 a (keys_mem.2 ⟨to, he⟩); omega
        subst hb
        have : a ∈ keys ((a, to) :: l) := by rw [hk]; exact List.mem_cons_self
        unfold putS; rw [if_pos this]
        simp [withS, List.filter_cons, f1, f2]
      · have hgt : id < a := by omega
        have hno : id ∉ keys ((a, b) :: l) := by
          rw [hk, List.mem_cons]; rintro (rfl | hm)
          · exact he rfl
          · have := h1 id hm; omega
        unfold putS; rw [if_neg hno, hk, at2_cons_ge hlt]
        simp [withS, List.filter_cons, f1, f2, hlt, hgt]
theorem node_set {l : List Node} {n : Int} {x : Node} {m : Int} (h1 : 1 ≤ n) (h2 : n ≤ (l.length : Int)) (hm : 1 ≤ m) : node (l.set (n - 1).toNat x) m = if m = n then x else node l m := by
  unfold node
  simp only [List.getD_eq_getElem?_getD]
  rw [List.getElem?_set]
  by_cases h : m = n
  · subst h
    have : (m - 1).toNat < l.length := by omega
    rw [if_pos rfl, if_pos this, if_pos rfl]; rfl
  · have : ¬ (n - 1).toNat = (m - 1).toNat := by omega
    rw [if_neg this, if_neg h]
theorem nodes_ext {l l' : List Node} (h : l.length = l'.length) (hn : ∀ k : Nat, k < l.length → node l ((k : Int) + 1) = node l' ((k : Int) + 1)) : l = l' := by
  refine List.ext_getElem h fun k h1 h2 => ?_
  have := hn k h1
  rwa [node_eq h1, node_eq h2] at this
/-- A step by one id more leads from lo to hi. -/
def lnk (l : List Node) (lo hi id : Int) : List Node := setPlus12 (setLess12 l hi (id, lo)) lo (id, hi)
theorem lnk_length (l : List Node) (lo hi id : Int) : (lnk l lo hi id).length = l.length := by simp [lnk, setPlus12, setLess12]
theorem isN_le {l : List Node} {n : Int} (h : isN l n = true) : 1 ≤ n ∧ n ≤ (l.length : Int) := by
  simp only [isN, Bool.and_eq_true, decide_eq_true_eq] at h; exact h.1
section
variable {l : List Node} {lo hi id : Int}
theorem node_lnk (h1 : isN l lo = true) (h2 : isN l hi = true) (hne : lo ≠ hi) {m : Int} (hm : 1 ≤ m) : node (lnk l lo hi id) m =
    if m = lo then ⟨(node l lo).used, (node l lo).ty, withS (node l lo).plus (id, hi), (node l lo).less⟩
    else if m = hi then ⟨(node l hi).used, (node l hi).ty, (node l hi).plus, withS (node l hi).less (id, lo)⟩ else node l m := by
  have b1 := isN_le h1; have b2 := isN_le h2
  unfold lnk setPlus12 setLess12
  rw [node_set b1.1 (by rw [List.length_set]; exact b1.2) hm]
  by_cases e1 : m = lo
  · rw [if_pos e1, if_pos e1, node_set b2.1 b2.2 b1.1, if_neg hne]
  · rw [if_neg e1, if_neg e1, node_set b2.1 b2.2 hm]
theorem lnk_used (h1 : isN l lo = true) (h2 : isN l hi = true) (hne : lo ≠ hi) {m : Int} (hm : 1 ≤ m) : (node (lnk l lo hi id) m).used = (node l m).used ∧ (node (lnk l lo hi id) m).ty = (node l m).ty := by
  rw [node_lnk h1 h2 hne hm]
  split
  · rename_i e; subst e; exact ⟨rfl, rfl⟩
  · split
    · rename_i e; subst e; exact ⟨rfl, rfl⟩
    · exact ⟨rfl, rfl⟩
theorem isN_lnk (h1 : isN l lo = true) (h2 : isN l hi = true) (hne : lo ≠ hi) (m : Int) : isN (lnk l lo hi id) m = isN l m := by
  unfold isN
  rw [lnk_length]
  by_cases hm : 1 ≤ m
  · rw [(lnk_used h1 h2 hne hm).1]
  · simp [hm]
theorem entsU_lnk (h1 : isN l lo = true) (h2 : isN l hi = true) (hne : lo ≠ hi) : entsU (lnk l lo hi id) = entsU l := by
  unfold entsU usedIx
  rw [lnk_length]
  have e : (fun i : Nat => (node (lnk l lo hi id) ((i : Int) + 1)).used) = fun i : Nat => (node l ((i : Int) + 1)).used := funext fun i => (lnk_used h1 h2 hne (by omega)).1
  rw [e]
  refine List.map_congr_left fun i _ => ?_
  simp only [entN, (lnk_used (m := (i : Int) + 1) h1 h2 hne (by omega)).2]
/-- Where two nodes' types differ by an id, each's row has no step by it elsewhere. -/
theorem N12.plusKey (h : N12 l) (h1 : isN l lo = true) (h2 : isN l hi = true) (ht : (node l hi).ty = with3 (node l lo).ty id) (hk : id ∈ keys (node l lo).plus) : (id, hi) ∈ (node l lo).plus := by
  obtain ⟨y, hy⟩ := keys_mem.1 hk
  have := h.plus lo _ h1 hy
  have e := h.uniq y hi this.1 h2 (by rw [ht]; exact this.2.2.2)
  rw [← e]; exact hy
theorem N12.lessKey (h : N12 l) (h1 : isN l lo = true) (h2 : isN l hi = true) (ht : (node l lo).ty = without3 (node l hi).ty id) (hk : id ∈ keys (node l hi).less) : (id, lo) ∈ (node l hi).less := by
  obtain ⟨y, hy⟩ := keys_mem.1 hk
  have := h.less hi _ h2 hy
  have e := h.uniq y lo this.1 h1 (by rw [ht]; exact this.2.2.2)
  rw [← e]; exact hy
theorem key_one {r : List Stp} (h : (keys r).Pairwise (· < ·)) {x y z : Int} (h1 : (x, y) ∈ r) (h2 : (x, z) ∈ r) : y = z := by
  have hnd : (r.map (·.1)).Nodup := (show (keys r).Nodup from h.imp fun hab => by omega)
  exact congrArg Prod.snd (nodup_map_inj hnd h1 h2 rfl)
theorem withS_old {r : List Stp} (h : (keys r).Pairwise (· < ·)) {s : Stp} (hk : s.1 ∈ keys r → s ∈ r) {x : Stp} (hx : x ∈ r) : x ∈ withS r s := by
  rw [withS_mem]
  by_cases he : x.1 = s.1
  · left
    have hs := hk (keys_mem.2 ⟨x.2, by rw [← he]; exact hx⟩)
    refine Prod.ext he (key_one h (x := s.1) (y := x.2) (z := s.2) ?_ hs)
    rw [← he]; exact hx
  · exact .inr ⟨hx, he⟩
theorem N12.link (h : N12 l) (h1 : isN l lo = true) (h2 : isN l hi = true) (hid : id ∉ (node l lo).ty) (ht : (node l hi).ty = with3 (node l lo).ty id) : N12 (lnk l lo hi id) := by
  have hne : lo ≠ hi := by
    rintro rfl
    exact hid (by rw [ht]; exact with3_mem.2 (.inl rfl))
  have hsrt : (node l lo).ty.Pairwise (· < ·) := (right2_iff.1 (h.right lo h1)).1
  have ht' : (node l lo).ty = without3 (node l hi).ty id := by rw [ht, without_with hsrt hid]
  have his := fun m => isN_lnk (id := id) h1 h2 hne m
  have hty : ∀ m, isN l m = true → (node (lnk l lo hi id) m).ty = (node l m).ty := fun m hm => (lnk_used h1 h2 hne (isN_ge hm)).2
  have hkp := h.plusKey h1 h2 ht
  have hkl := h.lessKey h1 h2 ht'
  have hP : ∀ m s, isN l m = true → (s ∈ (node (lnk l lo hi id) m).plus ↔ s ∈ (node l m).plus ∨ (m = lo ∧ s = (id, hi))) := by
    intro m s hm
    rw [node_lnk h1 h2 hne (isN_ge hm)]
    by_cases e : m = lo
    · rw [if_pos e]; subst e
      constructor
      · intro hs
        rcases withS_mem.1 hs with rfl | hs
        · exact .inr ⟨rfl, rfl⟩
        · exact .inl hs.1
      · rintro (hs | ⟨_, rfl⟩)
        · exact withS_old (h.sorted _ h1).1 hkp hs
        · exact withS_mem.2 (.inl rfl)
    · rw [if_neg e]
      have : ∀ x : Node, x.plus = (node l m).plus → (s ∈ x.plus ↔ s ∈ (node l m).plus ∨ m = lo ∧ s = (id, hi)) := by
        intro x hx; rw [hx]
        exact ⟨.inl, fun h => h.elim (fun h => h) fun h => absurd h.1 e⟩
      apply this
      split
      · rename_i e2; subst e2; rfl
      · rfl
  have hL : ∀ m s, isN l m = true → (s ∈ (node (lnk l lo hi id) m).less ↔ s ∈ (node l m).less ∨ (m = hi ∧ s = (id, lo))) := by
    intro m s hm
    rw [node_lnk h1 h2 hne (isN_ge hm)]
    by_cases e : m = lo
    · rw [if_pos e]; subst e
      exact ⟨.inl, fun h => h.elim (fun h => h) fun h => absurd h.1 hne⟩
    · rw [if_neg e]
      by_cases e2 : m = hi
      · rw [if_pos e2]; subst e2
        constructor
        · intro hs
          rcases withS_mem.1 hs with rfl | hs
          · exact .inr ⟨rfl, rfl⟩
          · exact .inl hs.1
        · rintro (hs | ⟨_, rfl⟩)
          · exact withS_old (h.sorted _ h2).2 hkl hs
          · exact withS_mem.2 (.inl rfl)
      · rw [if_neg e2]
        exact ⟨.inl, fun h => h.elim (fun h => h) fun h => absurd h.1 e2⟩
  have hlen := lnk_length l lo hi id
  refine ⟨by rw [hlen]; exact h.pos, by rw [hlen, his]; exact h.last, by rw [his]; exact h.one, by rw [hty 1 h.one]; exact h.ty1, fun n hn => ?_, fun n m hn hm he => ?_, fun i hi' hu => ?_, fun n hn => ?_, fun n s hn hs => ?_, fun n s hn hs => ?_, ?_⟩
  · rw [his] at hn; rw [hty n hn]; exact h.right n hn
  · rw [his] at hn hm; rw [hty n hn, hty m hm] at he; exact h.uniq n m hn hm he
  · have hil : i < l.length := by omega
    have e1 : node (lnk l lo hi id) ((i : Int) + 1) = (lnk l lo hi id)[i] := node_eq hi'
    have hnu : isN l ((i : Int) + 1) = false := by
      rw [← his, isN_eq hi']; exact hu
    rw [node_lnk h1 h2 hne (by omega), if_neg (by rintro e; rw [e, h1] at hnu; cases hnu), if_neg (by rintro e; rw [e, h2] at hnu; cases hnu), node_eq hil] at e1
    rw [← e1] at hu ⊢
    exact h.free i hil hu
  · rw [his] at hn
    rw [node_lnk h1 h2 hne (isN_ge hn)]
    have hs := h.sorted n hn
    split
    · rename_i e; subst e
      exact ⟨by rw [keys_withS]; exact with3_sorted hs.1 _, hs.2⟩
    · split
      · rename_i e; subst e
        exact ⟨hs.1, by rw [keys_withS]; exact with3_sorted hs.2 _⟩
      · exact hs
  · rw [his] at hn
    rcases (hP n s hn).1 hs with hs | ⟨rfl, rfl⟩
    · obtain ⟨a1, a2, a3, a4⟩ := h.plus n s hn hs
      exact ⟨by rw [his]; exact a1, by rw [hty n hn]; exact a2, (hL s.2 _ a1).2 (.inl a3), by rw [hty n hn, hty _ a1]; exact a4⟩
    · exact ⟨by rw [his]; exact h2, by rw [hty _ h1]; exact hid, (hL hi _ h2).2 (.inr ⟨rfl, rfl⟩), by rw [hty _ h1, hty _ h2]; exact ht⟩
  · rw [his] at hn
    rcases (hL n s hn).1 hs with hs | ⟨rfl, rfl⟩
    · obtain ⟨a1, a2, a3, a4⟩ := h.less n s hn hs
      exact ⟨by rw [his]; exact a1, by rw [hty n hn]; exact a2, (hP s.2 _ a1).2 (.inl a3), by rw [hty n hn, hty _ a1]; exact a4⟩
    · exact ⟨by rw [his]; exact h1, by rw [hty _ h2, ht]; exact with3_mem.2 (.inl rfl), (hP lo _ h1).2 (.inr ⟨rfl, rfl⟩), by rw [hty _ h1, hty _ h2]; exact ht'⟩
  · rw [manyN_entsU, entsU_lnk h1 h2 hne, ← manyN_entsU]; exact h.many
/-- What the code does, both ways. -/
theorem addPL_lnk (h : N12 l) (h1 : isN l lo = true) (h2 : isN l hi = true) (hid : id ∉ (node l lo).ty) (ht : (node l hi).ty = with3 (node l lo).ty id) :
    addLess (addPlus l lo id hi) hi id lo = lnk l lo hi id ∧ addPlus (addLess l hi id lo) lo id hi = lnk l lo hi id := by
  have hne : lo ≠ hi := by
    rintro rfl
    exact hid (by rw [ht]; exact with3_mem.2 (.inl rfl))
  have hsrt : (node l lo).ty.Pairwise (· < ·) := (right2_iff.1 (h.right lo h1)).1
  have ht' : (node l lo).ty = without3 (node l hi).ty id := by rw [ht, without_with hsrt hid]
  have hp := putS_withS (h.sorted _ h1).1 (h.plusKey h1 h2 ht)
  have hl := putS_withS (h.sorted _ h2).2 (h.lessKey h1 h2 ht')
  have b1 := isN_le h1; have b2 := isN_le h2
  constructor
  · refine nodes_ext (by simp [addLess, addPlus, lnk_length]) fun k hk => ?_
    have k1 : (1 : Int) ≤ (k : Int) + 1 := by omega
    rw [node_lnk h1 h2 hne k1]
    unfold addLess
    rw [node_set b2.1 (by simp [addPlus]; exact b2.2) k1]
    unfold addPlus
    rw [node_set b1.1 b1.2 k1, node_set b1.1 b1.2 b2.1, if_neg (Ne.symm hne), hp, hl]
    by_cases e : (k : Int) + 1 = hi
    · rw [if_pos e, if_neg (by omega), if_pos e]
    · rw [if_neg e, if_neg e]
  · refine nodes_ext (by simp [addLess, addPlus, lnk_length]) fun k hk => ?_
    have k1 : (1 : Int) ≤ (k : Int) + 1 := by omega
    rw [node_lnk h1 h2 hne k1]
    unfold addPlus
    rw [node_set b1.1 (by simp [addLess]; exact b1.2) k1]
    unfold addLess
    rw [node_set b2.1 b2.2 k1, node_set b2.1 b2.2 b1.1, if_neg hne, hp, hl]
end
end Go.Eng
namespace Go.Eng
open Go Go.Proofs
set_option exponentiation.threshold 300
def turn2 (plus : Bool) : List Int → Int → List Int × Int := if plus = true then with2e else without2e
/-- What the answers have in common. -/
structure Alike (G : PG) (r : PG × Int × Int) (q : List Node × Int × Int) (t : List Int) : Prop where
  nodes : r.1.nodes = q.1
  rest : r.2 = q.2
  len : r.1.slots.length ≤ max G.slots.length 16004 ∧ r.1.nodes.length ≤ G.nodes.length + 1
  err : r.2.2 ≠ 0 → r.1 = ⟨[], []⟩ ∧ r.2.1 = 0
  ok : r.2.2 = 0 → RG r.1 ∧ isN r.1.nodes r.2.1 = true ∧ (node r.1.nodes r.2.1).ty = t ∧ ∀ n, isN G.nodes n = true → isN r.1.nodes n = true ∧ (node r.1.nodes n).ty = (node G.nodes n).ty
theorem alike_err {G : PG} {t : List Int} {e : Int} (h : e ≠ 0) : Alike G (⟨[], []⟩, 0, e) ([], 0, e) t := ⟨rfl, rfl, ⟨Nat.zero_le _, Nat.zero_le _⟩, fun _ => ⟨rfl, rfl⟩, fun h' => absurd h' h⟩
theorem alike_same {G : PG} {n : Int} (h : RG G) (hi : isN G.nodes n = true) : Alike G (G, n, 0) (G.nodes, n, 0) (node G.nodes n).ty := ⟨rfl, rfl, ⟨by dsimp only; omega, by dsimp only; omega⟩, fun h => absurd rfl h, fun _ => ⟨h, hi, rfl, fun n h => ⟨h, rfl⟩⟩⟩
theorem of_alike' {G : PG} (h : RG G) {t : List Int} (hr : Rng t) : Alike G (ofG G t) (of12 G.nodes t) t := by
  obtain ⟨h1, h2, h3, h4, h5⟩ := of_alike h hr
  refine ⟨h1, h2, h3, fun he => ⟨h4 he, ?_⟩, fun he => ?_⟩
  · unfold ofG at he ⊢
    split
    · rfl
    · rename_i c1; rw [if_neg c1] at he
      split
      · rename_i c2; rw [if_pos c2] at he; exact absurd rfl he
      · rename_i c2; rw [if_neg c2] at he
        split
        · rfl
        · rename_i c3; rw [if_neg c3] at he; exact absurd rfl he
  · obtain ⟨a1, a2, a3, a4⟩ := h5 he
    exact ⟨a1, a2, a3, fun n hn => ⟨(a4 n hn).1, by rw [(a4 n hn).2]⟩⟩
theorem with3_id {l : List Int} (h : l.Pairwise (· < ·)) {x : Int} (hx : x ∈ l) : with3 l x = l := by
  rw [← with_alike h, with2, if_pos hx]
theorem RG.link {G : PG} (h : RG G) {lo hi id : Int} (h1 : isN G.nodes lo = true) (h2 : isN G.nodes hi = true) (hid : id ∉ (node G.nodes lo).ty) (ht : (node G.nodes hi).ty = with3 (node G.nodes lo).ty id) : RG ⟨lnk G.nodes lo hi id, G.slots⟩ := by
  have hne : lo ≠ hi := by
    rintro rfl
    exact hid (by rw [ht]; exact with3_mem.2 (.inl rfl))
  exact ⟨h.nodes.link h1 h2 hid ht, h.look, by show (usedE G.slots).Perm (entsU (lnk G.nodes lo hi id)); rw [entsU_lnk h1 h2 hne]; exact h.ents⟩
/-- What comes of a step, once the type of where it leads is there. -/
theorem go_end {G : PG} (h : RG G) {t : List Int} {id n : Int} {plus : Bool} (hr : Rng t) (hi : isN G.nodes n = true)
    (ht : if plus = true then id ∉ (node G.nodes n).ty ∧ t = with3 (node G.nodes n).ty id else id ∈ (node G.nodes n).ty ∧ t = without3 (node G.nodes n).ty id) :
    Alike G (if (ofG G t).2.2 ≠ 0 then (⟨[], []⟩, 0, (ofG G t).2.2) else (⟨if plus = true then addLess (addPlus (ofG G t).1.nodes n id (ofG G t).2.1) (ofG G t).2.1 id n
      else addPlus (addLess (ofG G t).1.nodes n id (ofG G t).2.1) (ofG G t).2.1 id n, (ofG G t).1.slots⟩, (ofG G t).2.1, 0))
      (if (of12 G.nodes t).2.2 ≠ 0 then ([], 0, (of12 G.nodes t).2.2) else (if plus = true then setPlus12 (setLess12 (of12 G.nodes t).1 (of12 G.nodes t).2.1 (id, n)) n (id, (of12 G.nodes t).2.1)
      else setPlus12 (setLess12 (of12 G.nodes t).1 n (id, (of12 G.nodes t).2.1)) (of12 G.nodes t).2.1 (id, n), (of12 G.nodes t).2.1, 0)) t := by
  have hA := of_alike' h hr
  have e2 := hA.rest
  have e1 := hA.nodes
  rw [← e2, ← e1]
  by_cases he : (ofG G t).2.2 = 0
  · simp only [he, ne_eq, not_true_eq_false, if_false]
    obtain ⟨hR, hm, hmt, hold⟩ := hA.ok he
    have hl := hA.len
    clear hA e1 e2 he
    generalize (ofG G t).1 = H at *
    generalize (ofG G t).2.1 = m at *
    obtain ⟨hn1, hn2⟩ := hold n hi
    cases plus with
    | true =>
      simp only [if_true] at ht ⊢
      obtain ⟨ht1, ht2⟩ := ht
      have hid' : id ∉ (node H.nodes n).ty := by rw [hn2]; exact ht1
      have ht' : (node H.nodes m).ty = with3 (node H.nodes n).ty id := by rw [hmt, hn2, ht2]
      have hne : n ≠ m := by rintro rfl; exact hid' (by rw [ht']; exact with3_mem.2 (.inl rfl))
      obtain ⟨a1, a2⟩ := addPL_lnk hR.nodes hn1 hm hid' ht'
      rw [a1]
      refine ⟨rfl, rfl, ⟨hl.1, by show (lnk _ _ _ _).length ≤ _; rw [lnk_length]; exact hl.2⟩, fun h => absurd rfl h, fun _ => ⟨hR.link hn1 hm hid' ht', ?_, ?_, fun k hk => ?_⟩⟩
      · show isN (lnk H.nodes n m id) m = true
        rw [isN_lnk hn1 hm hne]; exact hm
      · show (node (lnk H.nodes n m id) m).ty = t
        rw [(lnk_used hn1 hm hne (isN_ge hm)).2, hmt]
      · show isN (lnk H.nodes n m id) k = true ∧ (node (lnk H.nodes n m id) k).ty = _
        rw [isN_lnk hn1 hm hne, (lnk_used hn1 hm hne (isN_ge hk)).2]; exact hold k hk
    | false =>
      simp only [Bool.false_eq_true, if_false] at ht ⊢
      obtain ⟨ht1, ht2⟩ := ht
      have hs : (node G.nodes n).ty.Pairwise (· < ·) := (right2_iff.1 (h.nodes.right n hi)).1
      have hid' : id ∉ (node H.nodes m).ty := by rw [hmt, ht2, without3_mem]; exact fun h => h.2 rfl
      have ht' : (node H.nodes n).ty = with3 (node H.nodes m).ty id := by rw [hmt, hn2, ht2, with_without hs ht1]
      have hne : m ≠ n := by rintro rfl; exact hid' (by rw [ht']; exact with3_mem.2 (.inl rfl))
      obtain ⟨a1, a2⟩ := addPL_lnk hR.nodes hm hn1 hid' ht'
      rw [a2]
      refine ⟨rfl, rfl, ⟨hl.1, by show (lnk _ _ _ _).length ≤ _; rw [lnk_length]; exact hl.2⟩, fun h => absurd rfl h, fun _ => ⟨hR.link hm hn1 hid' ht', ?_, ?_, fun k hk => ?_⟩⟩
      · show isN (lnk H.nodes m n id) m = true
        rw [isN_lnk hm hn1 hne]; exact hm
      · show (node (lnk H.nodes m n id) m).ty = t
        rw [(lnk_used hm hn1 hne (isN_ge hm)).2, hmt]
      · show isN (lnk H.nodes m n id) k = true ∧ (node (lnk H.nodes m n id) k).ty = _
        rw [isN_lnk hm hn1 hne, (lnk_used hm hn1 hne (isN_ge hk)).2]; exact hold k hk
  · simp only [he, ne_eq, not_false_eq_true, if_true]; exact alike_err he
theorem go_alike {G : PG} (h : RG G) (hr : RngG G) {id : Int} (hid : 0 ≤ id ∧ id < 18446744073709551616) (n : Int) (plus : Bool) :
    Alike G (goneG (turn2 plus) G n id plus) (go12 G.nodes n id plus) (to12 (node G.nodes n).ty id plus) := by
  have hc := checkG_rg.2 h
  unfold goneG go12
  rw [if_neg (by rw [hc]; simp)]
  cases hi : isN G.nodes n with
  | false => simp only [if_true]; exact alike_err (by decide)
  | true =>
    simp only [Bool.true_eq_false, if_false]
    have h2 := h.nodes.right n hi
    have hs := (right2_iff.1 h2).1
    have h12 := (right2_iff.1 h2).2.2
    have hrng := hr.nodes.node n
    cases plus with
    | true =>
      simp only [turn2, to12, true_and, if_true, Bool.true_eq_false, false_and, if_false]
      rw [← may_alike hid]
      cases hm : may2 id with
      | false =>
        have e : with2e (node G.nodes n).ty id = ([], 2) := by simp [with2e, h2, hm]
        simp only [e, if_true, ne_eq, show ¬ ((2 : Int) = 0) by decide, not_false_eq_true]; exact alike_err (by decide)
      | true =>
        simp only [Bool.true_eq_false, if_false]
        by_cases hin : id ∈ (node G.nodes n).ty
        · rw [if_pos hin]
          have e : with2e (node G.nodes n).ty id = ((node G.nodes n).ty, 0) := by
            have : ¬ 12 < (node G.nodes n).ty.length := by omega
            simp [with2e, h2, hm, with2, hin, this]
          simp only [e, ne_eq, not_true_eq_false, if_false, if_true, with3_id hs hin]; exact alike_same h hi
        · rw [if_neg hin]
          have hlen := with3_len hs id
          rw [if_neg hin] at hlen
          by_cases h12' : (node G.nodes n).ty.length = 12
          · rw [if_pos h12']
            have e : with2e (node G.nodes n).ty id = ([], 6) := by
              have : 12 < (with3 (node G.nodes n).ty id).length := by omega
              simp [with2e, h2, hm, with_alike hs, this]
            simp only [e, ne_eq, show ¬ ((6 : Int) = 0) by decide, not_false_eq_true, if_true]; exact alike_err (by decide)
          · rw [if_neg h12']
            have e : with2e (node G.nodes n).ty id = (with3 (node G.nodes n).ty id, 0) := by
              have : ¬ 12 < (with3 (node G.nodes n).ty id).length := by omega
              simp [with2e, h2, hm, with_alike hs, this]
            have hne : ¬ with3 (node G.nodes n).ty id = (node G.nodes n).ty := fun he => hin (by rw [← he]; exact with3_mem.2 (.inl rfl))
            simp only [e, ne_eq, not_true_eq_false, if_false, hne]
            have := go_end (plus := true) (t := with3 (node G.nodes n).ty id) (id := id) h (rng_with3 hrng hid) hi ⟨hin, rfl⟩
            simpa only [if_true, ne_eq] using this
    | false =>
      simp only [turn2, to12, true_and, if_true, Bool.false_eq_true, false_and, if_false]
      by_cases hin : id ∈ (node G.nodes n).ty
      · have hnn : ¬ id ∉ (node G.nodes n).ty := fun h => h hin
        have e : without2e (node G.nodes n).ty id = (without3 (node G.nodes n).ty id, 0) := by simp [without2e, h2, hin, without_alike hs hin]
        have hne : ¬ without3 (node G.nodes n).ty id = (node G.nodes n).ty := fun he => by rw [← he] at hin; exact (without3_mem.1 hin).2 rfl
        simp only [e, hnn, ne_eq, not_true_eq_false, if_false, hne]
        have := go_end (plus := false) (t := without3 (node G.nodes n).ty id) (id := id) h (rng_without3 hrng) hi ⟨hin, rfl⟩
        simpa only [Bool.false_eq_true, if_false, ne_eq] using this
      · simp only [hin, not_false_eq_true, if_true]
        have e : without2e (node G.nodes n).ty id = ([], 4) := by simp [without2e, h2, hin]
        simp only [e, ne_eq, show ¬ ((4 : Int) = 0) by decide, not_false_eq_true, if_true]; exact alike_err (by decide)
end Go.Eng
namespace Go.Eng
open Go Go.Proofs
set_option exponentiation.threshold 300
theorem last_used : ∀ (l : List Node), (∃ i, ∃ h : i < l.length, l[i].used = true) → ∃ k, 0 < k ∧ ∃ h : k ≤ l.length, (∃ h' : k - 1 < l.length, l[k - 1].used = true) ∧ ∀ j (hj : j < l.length), k ≤ j → l[j].used = false := by
  intro l
  have : ∀ m, m ≤ l.length → (∃ i, ∃ h : i < l.length, i < m ∧ l[i].used = true) → ∃ k, 0 < k ∧ k ≤ m ∧ (∃ h' : k - 1 < l.length, l[k - 1].used = true) ∧ ∀ j (hj : j < l.length), k ≤ j → j < m → l[j].used = false := by
    intro m
    induction m with
    | zero => rintro _ ⟨i, _, h, _⟩; omega
    | succ m ih =>
      rintro hm ⟨i, hi, him, hu⟩
      cases hl : l[m].used with
      | true => exact ⟨m + 1, by omega, by omega, ⟨by omega, by simpa using hl⟩, fun j hj h1 h2 => by omega⟩
      | false =>
        have hne : i ≠ m := by rintro rfl; rw [hl] at hu; cases hu
        obtain ⟨k, h1, h2, h3, h4⟩ := ih (by omega) ⟨i, hi, by omega, hu⟩
        refine ⟨k, h1, by omega, h3, fun j hj a b => ?_⟩
        by_cases hjm : j = m
        · subst hjm; exact hl
        · exact h4 j hj a (by omega)
  rintro ⟨i, hi, hu⟩
  obtain ⟨k, h1, h2, h3, h4⟩ := this l.length (Nat.le_refl _) ⟨i, hi, hi, hu⟩
  exact ⟨k, h1, h2, h3, fun j hj hk => h4 j hj hk hj⟩
/-- Nodes without one. -/
def lessN (l : List Node) (m : Int) : List Node := trimN ((l.set (m - 1).toNat blankN).map (awayN m))
theorem node_take {l : List Node} {k : Nat} {n : Int} (hn : 1 ≤ n) (hk : n ≤ (k : Int)) : node (l.take k) n = node l n := by
  unfold node
  simp only [List.getD_eq_getElem?_getD]
  rw [List.getElem?_take, if_pos (by omega)]
theorem node_map {l : List Node} {f : Node → Node} {n : Int} (hn : 1 ≤ n) (hl : n ≤ (l.length : Int)) : node (l.map f) n = f (node l n) := by
  obtain ⟨k, rfl⟩ : ∃ k : Nat, n = (k : Int) + 1 := ⟨(n - 1).toNat, by omega⟩
  rw [node_eq (by simp; omega), node_eq (by omega), List.getElem_map]
section
variable {l : List Node} {m : Int}
theorem lessN_facts (h : N12 l) (hm : isN l m = true) (h1 : m ≠ 1) : isN (lessN l m) ((lessN l m).length : Int) = true ∧ 0 < (lessN l m).length ∧ (lessN l m).length ≤ l.length ∧ (∀ n, isN (lessN l m) n = (isN l n && n != m)) ∧
    (∀ n, isN l n = true → n ≠ m → node (lessN l m) n = awayN m (node l n)) ∧ (∀ i (hi : i < (lessN l m).length) (hi' : i < l.length), (i : Int) + 1 ≠ m → (lessN l m)[i] = awayN m l[i]) ∧ ∀ i (hi : i < (lessN l m).length), (i : Int) + 1 = m → (lessN l m)[i] = awayN m blankN := by
  have b := isN_le hm
  have hnode : ∀ n, 1 ≤ n → n ≤ (l.length : Int) → node ((l.set (m - 1).toNat blankN).map (awayN m)) n = if n = m then awayN m blankN else awayN m (node l n) := by
    intro n a1 a2
    rw [node_map a1 (by rw [List.length_set]; exact a2), node_set b.1 b.2 a1]
    split <;> rfl
  have hL : ((l.set (m - 1).toNat blankN).map (awayN m)).length = l.length := by simp
  have hisL : ∀ n, isN ((l.set (m - 1).toNat blankN).map (awayN m)) n = (isN l n && n != m) := by
    intro n
    unfold isN
    rw [hL]
    by_cases a1 : 1 ≤ n
    · by_cases a2 : n ≤ (l.length : Int)
      · rw [hnode n a1 a2]
        by_cases e : n = m
        · subst e; simp [awayN, blankN]
        · simp [e, awayN]
      · simp [a2]
    · simp [a1]
  unfold lessN
  generalize (l.set (m - 1).toNat blankN).map (awayN m) = L at *
  obtain ⟨k1, hk1, e1, hu1, _⟩ := isN_node (show isN L 1 = true by rw [hisL, h.one]; simp; omega)
  obtain ⟨k, h0, hk, ⟨hk', hu⟩, hno⟩ := last_used L ⟨k1, hk1, hu1⟩
  rw [trimN_eq h0 hk hu hno]
  have hlen : (L.take k).length = k := by rw [List.length_take]; omega
  have his : ∀ n, isN (L.take k) n = isN L n := by
    intro n
    by_cases a1 : 1 ≤ n
    · obtain ⟨j, rfl⟩ : ∃ j : Nat, n = (j : Int) + 1 := ⟨(n - 1).toNat, by omega⟩
      rcases Nat.lt_or_ge j L.length with hj | hj
      · rcases Nat.lt_or_ge j k with hjk | hjk
        · rw [isN_eq (by omega), isN_eq hj, List.getElem_take]
        · rw [isN_eq hj, hno j hj hjk]
          have : ¬ (j : Int) + 1 ≤ ((L.take k).length : Int) := by omega
          simp [isN, this]; intro _ h'; omega
      · have n1 : ¬ (j : Int) + 1 ≤ ((L.take k).length : Int) := by omega
        have n2 : ¬ (j : Int) + 1 ≤ (L.length : Int) := by omega
        unfold isN
        simp only [n1, n2, decide_false, Bool.and_false, Bool.false_and]
    · simp [isN, a1]
  refine ⟨?_, by omega, by omega, fun n => by rw [his, hisL], fun n hn hne => ?_, fun i hi hi' hne => ?_, fun i hi he => ?_⟩
  · rw [his, hlen]
    have := isN_of hk' hu
    rwa [show ((k - 1 : Nat) : Int) + 1 = (k : Int) by omega] at this
  · have hn' := isN_le hn
    have : isN (L.take k) n = true := by rw [his, hisL, hn]; simpa using hne
    have h2 := isN_le this
    rw [node_take h2.1 (by omega), hnode n hn'.1 hn'.2, if_neg hne]
  · have e1 := hnode ((i : Int) + 1) (by omega) (by omega)
    rw [if_neg hne, node_eq (by omega), node_eq hi'] at e1
    rw [List.getElem_take]; exact e1
  · have e1 := hnode ((i : Int) + 1) (by omega) (by omega)
    rw [if_pos he, node_eq (by omega)] at e1
    rw [List.getElem_take]; exact e1
theorem awayS_mem {r : List Stp} {x : Int} {s : Stp} : s ∈ awayS r x ↔ s ∈ r ∧ s.2 ≠ x := by simp [awayS]
theorem awayS_sorted {r : List Stp} (h : (keys r).Pairwise (· < ·)) (x : Int) : (keys (awayS r x)).Pairwise (· < ·) := by
  unfold keys at h ⊢
  rw [List.pairwise_map] at h ⊢
  exact h.filter _
theorem entsU_lessN (h : N12 l) (hm : isN l m = true) (h1 : m ≠ 1) : (entsU l).Perm (⟨1, (node l m).ty, m⟩ :: entsU (lessN l m)) := by
  obtain ⟨_, _, _, f3, f4, _, _⟩ := lessN_facts h hm h1
  have hty : ∀ n, isN l n = true → n ≠ m → (node (lessN l m) n).ty = (node l n).ty := fun n hn hne => by rw [f4 n hn hne]; rfl
  refine perm_of_mem (entsU_nodup _) (List.nodup_cons.2 ⟨fun hx => ?_, entsU_nodup _⟩) fun e => ?_
  · obtain ⟨n, hn, he⟩ := mem_entsN.1 hx
    have := congrArg Entry.num he
    simp only at this
    rw [f3, ← this] at hn; simp at hn
  · rw [List.mem_cons, mem_entsN, mem_entsN]
    constructor
    · rintro ⟨n, hn, rfl⟩
      by_cases e : n = m
      · subst e; exact .inl rfl
      · exact .inr ⟨n, by rw [f3, hn]; simpa using e, by rw [hty n hn e]⟩
    · rintro (rfl | ⟨n, hn, rfl⟩)
      · exact ⟨m, hm, rfl⟩
      · rw [f3] at hn
        simp only [Bool.and_eq_true, bne_iff_ne, ne_eq] at hn
        exact ⟨n, hn.1, by rw [hty n hn.1 hn.2]⟩
theorem N12.away (h : N12 l) (hm : isN l m = true) (h1 : m ≠ 1) : N12 (lessN l m) := by
  obtain ⟨f0, f1, f2, f3, f4, f5, f6⟩ := lessN_facts h hm h1
  have hor : ∀ n, isN (lessN l m) n = true → isN l n = true ∧ n ≠ m := by
    intro n hn; rw [f3] at hn; simpa using hn
  have hof : ∀ n, isN l n = true → n ≠ m → isN (lessN l m) n = true := by intro n hn hne; rw [f3, hn]; simpa using hne
  have hty : ∀ n, isN l n = true → n ≠ m → (node (lessN l m) n).ty = (node l n).ty := fun n hn hne => by rw [f4 n hn hne]; rfl
  refine ⟨f1, f0, hof 1 h.one (Ne.symm h1), by rw [hty 1 h.one (Ne.symm h1)]; exact h.ty1, fun n hn => ?_, fun n k hn hk he => ?_, fun i hi hu => ?_, fun n hn => ?_, fun n s hn hs => ?_, fun n s hn hs => ?_, ?_⟩
  · obtain ⟨a, b⟩ := hor n hn; rw [hty n a b]; exact h.right n a
  · obtain ⟨a, b⟩ := hor n hn
    obtain ⟨c, d⟩ := hor k hk
    rw [hty n a b, hty k c d] at he; exact h.uniq n k a c he
  · by_cases e : (i : Int) + 1 = m
    · rw [f6 i hi e]; exact ⟨rfl, rfl, rfl⟩
    · have e1 := f5 i hi (by omega) e
      rw [e1] at hu ⊢
      obtain ⟨a1, a2, a3⟩ := h.free i (by omega) hu
      exact ⟨a1, by simp [awayN, awayS, a2], by simp [awayN, awayS, a3]⟩
  · obtain ⟨a, b⟩ := hor n hn
    rw [f4 n a b]
    exact ⟨awayS_sorted (h.sorted n a).1 m, awayS_sorted (h.sorted n a).2 m⟩
  · obtain ⟨a, b⟩ := hor n hn
    rw [f4 n a b] at hs
    obtain ⟨hs1, hs2⟩ := awayS_mem.1 hs
    obtain ⟨a1, a2, a3, a4⟩ := h.plus n s a hs1
    refine ⟨hof _ a1 hs2, by rw [hty n a b]; exact a2, ?_, by rw [hty n a b, hty _ a1 hs2]; exact a4⟩
    rw [f4 _ a1 hs2]; exact awayS_mem.2 ⟨a3, b⟩
  · obtain ⟨a, b⟩ := hor n hn
    rw [f4 n a b] at hs
    obtain ⟨hs1, hs2⟩ := awayS_mem.1 hs
    obtain ⟨a1, a2, a3, a4⟩ := h.less n s a hs1
    refine ⟨hof _ a1 hs2, by rw [hty n a b]; exact a2, ?_, by rw [hty n a b, hty _ a1 hs2]; exact a4⟩
    rw [f4 _ a1 hs2]; exact awayS_mem.2 ⟨a3, b⟩
  · have := (entsU_lessN h hm h1).length_eq
    have h2 := h.many
    rw [manyN_entsU] at h2 ⊢
    rw [this, List.length_cons] at h2; omega
end
theorem drop_alike {G : PG} (h : RG G) (m : Int) :
    (dropG G m).1.nodes = (drop12 G.nodes m).1 ∧ (dropG G m).2 = (drop12 G.nodes m).2 ∧ ((dropG G m).1.slots.length ≤ G.slots.length ∧ (dropG G m).1.nodes.length ≤ G.nodes.length) ∧ ((dropG G m).2 ≠ 0 → (dropG G m).1 = ⟨[], []⟩ ∧ (isN G.nodes m = false ∨ m = 1)) ∧
    ((dropG G m).2 = 0 → RG (dropG G m).1 ∧ isN G.nodes m = true ∧ m ≠ 1 ∧ (dropG G m).1.nodes = lessN G.nodes m) := by
  have hc := checkG_rg.2 h
  unfold dropG drop12
  simp only [hc, Bool.true_eq_false, if_false]
  cases hi : isN G.nodes m with
  | false => simp
  | true =>
    simp only [Bool.true_eq_false, if_false]
    by_cases h1 : m = 1
    · simp [h1]
    · simp only [h1, if_false]
      obtain ⟨k, hk, rfl, hu, he⟩ := isN_node hi
      have hpl : ¬ place G.slots (node G.nodes ((k : Int) + 1)).ty < 0 := by
        intro hp
        have := place_none h.look hp _ (h.usedN hk hu) rfl
        rw [he] at this; exact this rfl
      obtain ⟨d1, d2, e, d3, d4, d5⟩ := drop_ok h.look hpl
      simp only [d1, ne_eq, not_true_eq_false, if_false]
      have hlen : (dropL G.slots (node G.nodes ((k : Int) + 1)).ty).1.length ≤ G.slots.length := by
        simp only [dropL, h.look, hpl, Bool.true_eq_false, if_false, List.length_set]; exact Nat.le_refl _
      refine ⟨trivial, trivial, ⟨hlen, (lessN_facts h.nodes hi h1).2.2.1⟩, False.elim, fun _ => ⟨⟨h.nodes.away hi h1, d2, ?_⟩, trivial, h1, rfl⟩⟩
      have hE := (d5.symm.trans h.ents).trans (entsU_lessN h.nodes hi h1)
      have hee : e = ⟨1, (node G.nodes ((k : Int) + 1)).ty, (k : Int) + 1⟩ := by
        have hmem : e ∈ entsU G.nodes := h.ents.mem_iff.1 (d5.mem_iff.2 List.mem_cons_self)
        obtain ⟨n, hn', rfl⟩ := mem_entsN.1 hmem
        have := h.nodes.uniq n _ hn' hi d3
        rw [this]
      rw [hee] at hE
      exact (List.perm_cons _).1 hE
theorem N12.rows {l : List Node} (h : N12 l) : ∀ x ∈ l, x.ty.length ≤ 12 ∧ x.plus.length ≤ l.length ∧ x.less.length ≤ l.length := by
  intro x hx
  obtain ⟨k, hk, rfl⟩ := List.mem_iff_getElem.1 hx
  cases hu : l[k].used with
  | false =>
    obtain ⟨a1, a2, a3⟩ := h.free k hk hu
    rw [a1, a2, a3]; simp
  | true =>
    have hn := isN_of hk hu
    have he := node_eq hk
    have hr := h.right _ hn
    have hs := h.sorted _ hn
    have hp := fun s => h.plus _ s hn
    have hq := fun s => h.less _ s hn
    rw [he] at hr hs hp hq
    have two : ∀ row : List Stp, (keys row).Pairwise (· < ·) → (∀ s ∈ row, isN l s.2 = true) → (∀ s ∈ row, ∀ u ∈ row, s.2 = u.2 → s.1 = u.1) → row.length ≤ l.length := by
      intro row hsr h1 h2
      have hnd : (row.map (·.2)).Nodup := by
        rw [List.nodup_iff_pairwise_ne, List.pairwise_map]
        have hks : row.Pairwise fun s u => s.1 < u.1 := by unfold keys at hsr; rwa [List.pairwise_map] at hsr
        exact hks.imp_of_mem fun hs hu hlt he => by have := h2 _ hs _ hu he; omega
      have := pigeon (l' := (List.range l.length).map fun i : Nat => (i : Int) + 1) hnd fun y hy => by
        obtain ⟨s, hs, rfl⟩ := List.mem_map.1 hy
        obtain ⟨j, hj, e, _, _⟩ := isN_node (h1 s hs)
        exact List.mem_map.2 ⟨j, List.mem_range.2 hj, e.symm⟩
      simpa using this
    refine ⟨(right2_iff.1 hr).2.2, two _ hs.1 (fun s hs => (hp s hs).1) fun s hs u hu' he' => ?_, two _ hs.2 (fun s hs => (hq s hs).1) fun s hs u hu' he' => ?_⟩
    · obtain ⟨_, b2, _, b4⟩ := hp s hs
      obtain ⟨_, c2, _, c4⟩ := hp u hu'
      rw [he', c4] at b4
      have : s.1 ∈ with3 (node l ((k : Int) + 1)).ty u.1 := by rw [b4]; exact with3_mem.2 (.inl rfl)
      rcases with3_mem.1 this with e | e
      · exact e
      · exact absurd e.1 b2
    · obtain ⟨_, b2, _, b4⟩ := hq s hs
      obtain ⟨_, c2, _, c4⟩ := hq u hu'
      rw [he', c4] at b4
      rcases Decidable.em (u.1 = s.1) with e | e
      · exact e.symm
      · have : u.1 ∈ without3 (node l ((k : Int) + 1)).ty s.1 := without3_mem.2 ⟨c2, e⟩
        rw [← b4] at this
        exact absurd rfl (without3_mem.1 this).2
theorem RG.small {G : PG} (h : RG G) (h1 : G.nodes.length ≤ 1000000) (h2 : G.slots.length ≤ 1000000) : SmallG G := by
  refine ⟨⟨h1, fun x hx => ?_⟩, h2, fun e he => ?_⟩
  · have := h.nodes.rows x hx; omega
  · have := checkL_all12 h.look e he; omega
end Go.Eng
