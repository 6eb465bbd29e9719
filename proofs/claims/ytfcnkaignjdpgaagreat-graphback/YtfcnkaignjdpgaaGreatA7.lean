/- The given statement GraphBackSaid is proved here: for every input the law answers true and the input reads as it did. Conditions: none. -/
import Derived.Test.YtfcnkaignjdpgaaGreatA6
import Derived.ProofKit
import Derived.Test.YtfcnkaignjdpgaaGreatRows
set_option linter.unusedVariables false
set_option linter.unusedSimpArgs false
set_option linter.unusedSectionVars false
namespace Go.Eng
open Go Go.RowKit Go.Proofs
set_option maxRecDepth 10000
def cutN (x : Node) : Node := ⟨x.used, x.ty.take 14, x.plus.take 20, x.less.take 20⟩
def cutE (e : Entry) : Entry := ⟨e.st, e.ty.take 14, e.num⟩
/-- What can be gone through of a graph. -/
def ownW (G : PG) : PG := ⟨(G.nodes.take 30).map cutN, (G.slots.take 128).map cutE⟩
theorem min30 (n : Nat) : (if (30 : Int) < (n : Int) then (30 : Int) else (n : Int)) = ((min n 30 : Nat) : Int) := by split <;> omega
theorem min14 (n : Nat) : (if (14 : Int) < (n : Int) then (14 : Int) else (n : Int)) = ((min n 14 : Nat) : Int) := by split <;> omega
theorem min20 (n : Nat) : (if (20 : Int) < (n : Int) then (20 : Int) else (n : Int)) = ((min n 20 : Nat) : Int) := by split <;> omega
theorem min128 (n : Nat) : (if (128 : Int) < (n : Int) then (128 : Int) else (n : Int)) = ((min n 128 : Nat) : Int) := by split <;> omega
theorem Row.cut {α : Type} {enc : α → List Value} {w : World} {a : Option Addr} {n c : Nat} {l : List α} (h : Row enc w a n c l) (k : Nat) : Row enc w a (min n k) c (l.take k) := by
  have hl := h.len
  refine ⟨?_, by have := h.le; omega, h.nil, h.max⟩
  have := h.rd.take (min n k) (by omega)
  have e : l.take (min n k) = l.take k := by rw [hl, ← List.take_take]; rw [List.take_of_length_le (l := l.take k) (by simp; omega)] <;> simp
  rwa [e] at this
section
variable {w : World} {a : Option Addr} {n c : Nat}
theorem k_CloneSteps {l : List Stp} (h : Row encStp w a n c l) (hs : n ≤ 1048576) : Cl Tryz.prog 46 #[.slice a n c] w (Made encStp 2 71 w l) := by
  refine c46 _ _ _ ⟨_, nil_eq tySteps.ht, ?_⟩
  cases a with
  | none =>
    have : l = [] := by
      rcases h.rd.2 with h0 | ⟨p, hp, _⟩
      · exact h0
      · simp at hp
    subst this
    exact ⟨_, _, _, rfl, Own.nil, Below.refl _ _⟩
  | some p =>
    rintro b w1 rfl rfl
    have hB : Below w.heap.size w (w.alloc (.cells #[] 71)) := (Below.refl _ _).alloc (Nat.le_refl _) _
    obtain ⟨a', n', c', w', hrun, ho, hg⟩ := app_own (a := some (Addr.mk w.heap.size 0 none)) (n := 0) (c := 0) (l := ([] : List Stp)) (lo := w.heap.size) (ty := 54) (c' := c) tySteps enStp (Own.new enStp.len w [] (Nat.le_refl _) (Nat.zero_le _)) (by rw [size_alloc]; omega) (h.rd.below hB) (by simp) (by simp only [maxLen]; omega) (by omega)
    exact ⟨_, _, _, _, hrun, _, _, _, rfl, ho, hB.grown hg (by rw [size_alloc]; omega) (fun k hk => by cases hk; exact Nat.le_refl _)⟩
end
section
variable {w : World} {a sa : Option Addr} {n c sn sc : Nat} {G : PG}
set_option maxHeartbeats 1000000
theorem k_wOwn (h : Grf w a n c sa sn sc G) : Cl Tryz.prog 9 #[.agg #[.slice a n c, .slice sa sn sc]] w (fun v w' => ∃ a' n' c' sa' sn' sc', v = .agg #[.slice a' n' c', .slice sa' sn' sc'] ∧ DNodes w.heap.size w' a' n' c' (ownW G).nodes ∧ DEnts w.heap.size w' sa' sn' sc' (ownW G).slots ∧ Below w.heap.size w w') := by
  refine c9 _ _ _ _ _ _ ?_
  obtain ⟨ps, hrow, hps, hpG⟩ := h.nodes.pairs
  obtain ⟨es, hrowE, hes, heG⟩ := h.slots.pairs
  have hpl : ps.length = n := by have := hrow.len; simpa using this.symm
  have hel : es.length = sn := by have := hrowE.len; simpa using this.symm
  rintro _ w1 rfl h1 _ w2 rfl h2 _ w3 rfl h3
  have q1 : w3.heap[w.heap.size]? = some (.cells #[.slice a n c, .slice sa sn sc] 27) := by rw [h3, h2, h1]; exact blk_alloc (blk_alloc (blk_new _))
  have q2 : w3.heap[w1.heap.size]? = some (.cells #[.slice none 0 0, .slice none 0 0] 27) := by rw [h3, h2]; exact blk_alloc (blk_new _)
  have q3 : w3.heap[w2.heap.size]? = some (.cells #[.slice none 0 0, .slice none 0 0] 27) := by rw [h3]; exact blk_new _
  have z1 : w1.heap.size = w.heap.size + 1 := by rw [h1, size_alloc]
  have z2 : w2.heap.size = w1.heap.size + 1 := by rw [h2, size_alloc]
  have B3 : Below w.heap.size w w3 := by rw [h3, h2, h1]; exact ((alloc_below w _).alloc (by rw [size_alloc]; omega) _).alloc (by rw [size_alloc, size_alloc]; omega) _
  clear h1 h2 h3
  have hle := hrow.le; have hleE := hrowE.le
  refine ⟨_, _, _, blk_cell q1 0, _, _, _, blk_cell q1 0, ?_⟩
  rw [min30 n]
  simp only [Int.toNat_natCast]
  refine ⟨by omega, by omega, fun _ W => (Below w.heap.size w W ∧ W.heap[w.heap.size]? = some (.cells #[.slice a n c, .slice sa sn sc] 27) ∧ W.heap[w1.heap.size]? = some (.cells #[.slice none 0 0, .slice none 0 0] 27)) ∧
      ∃ oa on oc, W.heap[w2.heap.size]? = some (.cells #[.slice oa on oc, .slice none 0 0] 27) ∧ DNodes w.heap.size W oa on oc (ownW G).nodes, ?_, ?_⟩
  · have hcut := hrow.cut 30
    rw [← List.map_take] at hcut
    refine ⟨fun i W => (Below w.heap.size w W ∧ W.heap[w.heap.size]? = some (.cells #[.slice a n c, .slice sa sn sc] 27) ∧ W.heap[w1.heap.size]? = some (.cells #[.slice none 0 0, .slice none 0 0] 27)) ∧
      ∃ oa on oc, W.heap[w2.heap.size]? = some (.cells #[.slice oa on oc, .slice none 0 0] 27) ∧ ∃ (k : Nat) (qs : List NP), i = k ∧ k ≤ min n 30 ∧ qs.map (·.2) = ((ps.take 30).take k).map (fun p => cutN p.2) ∧ Own encNode 4 56 w.heap.size W oa on oc (qs.map (·.1)) ∧ ∀ p ∈ qs, NodeSays p.1 p.2 ∧ OwnN w.heap.size W p.1 p.2,
      fun i _ => min n 30 - i.toNat, ⟨⟨B3, q1, q2⟩, _, _, _, q3, 0, [], rfl, by omega, rfl, Own.nil, by simp⟩, ?_⟩
    rintro _ W _ ⟨⟨hB, qb, qb2⟩, oa, on, oc, qo, k, qs, rfl, hk, hsnd, ho, hq⟩
    have hql : qs.length = k := by have := congrArg List.length hsnd; simp at this; omega
    have hon : on = k := by have := ho.len; simp at this; omega
    refine cnd (fun hc => ?_) fun hc => ?_
    · have hkn : k < min n 30 := by simp only [decide_eq_true_eq] at hc; omega
      have hkp : k < (ps.take 30).length := by simp; omega
      have hX := hps _ (List.mem_of_mem_take (List.getElem_mem hkp))
      refine (hcut.below hB).nodeN hkn fun hl => box_node fun w6 s6 B6' => ?_
      have e0 : ((ps.take 30).map (·.1))[k]'hl = (ps.take 30)[k].1 := by simp
      rw [e0] at s6
      generalize hXe : (ps.take 30)[k] = X at s6 hX
      obtain ⟨X, x⟩ := X
      dsimp only at s6 hX
      rintro _ rfl
      have s7 := blk_drew s6
      have B7' := B6'.drew
      clear s6 B6'
      generalize w6.drew = w7 at s7 B7' ⊢
      have B7 := hB.trans (B7'.mono hB.size)
      have l1 := hX.ty.le; have l2 := hX.plus.le; have l3 := hX.less.le
      refine ⟨_, _, _, blk_cell s7 1, _, _, _, blk_cell s7 1, ?_⟩
      rw [min14]
      refine ⟨by omega, by omega, _, _, _, blk_cell s7 2, _, _, _, blk_cell s7 2, ?_⟩
      rw [min20]
      refine ⟨by omega, by omega, _, _, _, blk_cell s7 3, _, _, _, blk_cell s7 3, ?_⟩
      rw [min20]
      simp only [Int.toNat_natCast]
      refine ⟨by omega, by omega, (k_CloneIds ((hX.ty.cut 14).below B7) (by omega)).mono ?_⟩
      rintro _ w8 ⟨a8, n8, c8, rfl, ho8, B8'⟩
      have B8 := B7.trans (B8'.mono B7.size)
      have s8 := blk_below s7 B8' (blk_lt s7)
      refine ⟨_, _, _, rfl, blk_cell s8 3, blk_cell s8 3, blk_cell s8 2, blk_cell s8 2, (k_CloneSteps ((hX.plus.cut 20).below B8) (by omega)).mono ?_⟩
      rintro _ w9 ⟨a9, n9, c9, rfl, ho9, B9'⟩
      have B9 := B8.trans (B9'.mono B8.size)
      have s9 := blk_below s8 B9' (blk_lt s8)
      refine ⟨_, _, _, rfl, blk_cell s9 3, blk_cell s9 3, (k_CloneSteps ((hX.less.cut 20).below B9) (by omega)).mono ?_⟩
      rintro _ w10 ⟨a10, n10, c10, rfl, ho10, B10'⟩
      have B10 := B9.trans (B10'.mono B9.size)
      have s10 := blk_below s9 B10' (blk_lt s9)
      have B710 : Below W.heap.size W w10 := B7'.trans (((B8'.trans (B9'.mono B8'.size)).trans (B10'.mono (Nat.le_trans B8'.size B9'.size))).mono B7'.size)
      have hN10 : OwnN w.heap.size w10 (⟨X.used, ⟨a8, n8, c8⟩, ⟨a9, n9, c9⟩, ⟨a10, n10, c10⟩⟩ : RNode) (cutN x) :=
        ⟨((ho8.below B9').below B10').mono B7.size, (ho9.below B10').mono B8.size, ho10.mono B9.size⟩
      refine ⟨_, _, _, rfl, blk_some s10 (j := 1) (by simp), blk_free s10 1, ?_⟩
      rintro w11 h11
      have s11 : w11.heap[W.heap.size]? = some (.cells #[.bool X.used, .slice a8 n8 c8, .slice X.plus.a X.plus.n X.plus.c, .slice X.less.a X.less.n X.less.c] 56) := by rw [h11]; exact blk_set s10 1 _
      have hN11 : OwnN w.heap.size w11 (⟨X.used, ⟨a8, n8, c8⟩, ⟨a9, n9, c9⟩, ⟨a10, n10, c10⟩⟩ : RNode) (cutN x) := by rw [h11]; exact hN10.farB s10 (by decide) (by decide) _
      have B11 : Below W.heap.size W w11 := by rw [h11]; exact B710.setCell (Nat.le_refl _) _
      refine ⟨blk_some s11 (j := 2) (by simp), blk_free s11 2, ?_⟩
      rintro w12 h12
      have s12 : w12.heap[W.heap.size]? = some (.cells #[.bool X.used, .slice a8 n8 c8, .slice a9 n9 c9, .slice X.less.a X.less.n X.less.c] 56) := by rw [h12]; exact blk_set s11 2 _
      have hN12 : OwnN w.heap.size w12 (⟨X.used, ⟨a8, n8, c8⟩, ⟨a9, n9, c9⟩, ⟨a10, n10, c10⟩⟩ : RNode) (cutN x) := by rw [h12]; exact hN11.farB s11 (by decide) (by decide) _
      have B12 : Below W.heap.size W w12 := by rw [h12]; exact B11.setCell (Nat.le_refl _) _
      refine ⟨blk_some s12 (j := 3) (by simp), blk_free s12 3, ?_⟩
      rintro w13 h13
      have s13 : w13.heap[W.heap.size]? = some (.cells #[.bool X.used, .slice a8 n8 c8, .slice a9 n9 c9, .slice a10 n10 c10] 56) := by rw [h13]; exact blk_set s12 3 _
      have hN13 : OwnN w.heap.size w13 (⟨X.used, ⟨a8, n8, c8⟩, ⟨a9, n9, c9⟩, ⟨a10, n10, c10⟩⟩ : RNode) (cutN x) := by rw [h13]; exact hN12.farB s12 (by decide) (by decide) _
      have B13 : Below W.heap.size W w13 := by rw [h13]; exact B12.setCell (Nat.le_refl _) _
      clear h11 h12 h13 s11 s12 hN10 hN11 hN12 B11 B12 s10 s9 s8 s7
      have hBW := hB.trans (B13.mono hB.size)
      have qo13 := blk_below qo B13 (blk_lt qo)
      have ho13 := ho.below B13
      refine ⟨_, _, _, blk_cell qo13 0, _, _, _, _, _, _, _, _, _, _, blk_cell s13 0, blk_cell s13 1, blk_cell s13 2, blk_cell s13 3, ?_⟩
      refine app1 tyNodes enNode ho13 hBW.size (⟨X.used, ⟨a8, n8, c8⟩, ⟨a9, n9, c9⟩, ⟨a10, n10, c10⟩⟩ : RNode) (by simp only [maxLen]; omega) (by omega) fun a' c' w15 ho15 hg15 => ?_
      have qo15 := ho13.keepBlk hg15 qo13 (.inl (by decide))
      have qb15 := ho13.keepBlk hg15 (blk_below qb B13 (blk_lt qb)) (.inl (by decide))
      have qb215 := ho13.keepBlk hg15 (blk_below qb2 B13 (blk_lt qb2)) (.inl (by decide))
      have B15 := hBW.trans (ho13.belowOf hg15 hBW.size)
      refine ⟨blk_some qo15 (by simp), blk_free qo15 _, ?_⟩
      rintro w16 h16
      rw [nx (by omega)]
      refine ⟨⟨⟨by rw [h16]; exact B15.setCell (by show w.heap.size ≤ w2.heap.size; omega) _, by rw [h16]; exact blk_far qb15 (by show w.heap.size ≠ w2.heap.size; omega) _, by rw [h16]; exact blk_far qb215 (by show w1.heap.size ≠ w2.heap.size; omega) _⟩, _, _, _, by rw [h16]; exact blk_set qo15 0 _, k + 1, qs ++ [((⟨X.used, ⟨a8, n8, c8⟩, ⟨a9, n9, c9⟩, ⟨a10, n10, c10⟩⟩ : RNode), cutN x)], rfl, by omega, ?_, ?_, fun p hp => ?_⟩, dec hkn⟩
      · rw [List.map_append, hsnd, take_one hkp, List.map_append, hXe]; rfl
      · rw [h16, List.map_append]; exact ho15.far qo15 (by decide) _
      · rw [h16]
        rcases List.mem_append.1 hp with hp | hp
        · exact ⟨(hq p hp).1, (((hq p hp).2.below B13).keepBy ho13 hg15 (by decide) (by decide)).farB qo15 (by decide) (by decide) _⟩
        · simp only [List.mem_singleton] at hp
          subst hp
          refine ⟨⟨hX.used, fun y hy => hX.rng.1 y (List.mem_of_mem_take hy), fun s hs => hX.rng.2 s ?_⟩, (hN13.keepBy ho13 hg15 (by decide) (by decide)).farB qo15 (by decide) (by decide) _⟩
          rcases List.mem_append.1 hs with hs | hs
          · exact List.mem_append.2 (.inl (List.mem_of_mem_take hs))
          · exact List.mem_append.2 (.inr (List.mem_of_mem_take hs))
    · have hkn : ¬ k < min n 30 := by simp only [decide_eq_false_iff_not] at hc; omega
      refine ⟨⟨hB, qb, qb2⟩, oa, on, oc, qo, qs, ?_, ho, hq⟩
      rw [hsnd, List.take_of_length_le (by simp; omega), ownW, ← hpG, ← List.map_take, List.map_map]; rfl
  · rintro _ W _ ⟨⟨hB, qb, qb2⟩, oa, on, oc, qo, hD⟩
    refine ⟨_, _, _, blk_cell qb 1, _, _, _, blk_cell qb 1, ?_⟩
    rw [min128]
    simp only [Int.toNat_natCast]
    have hcut := hrowE.cut 128
    rw [← List.map_take] at hcut
    refine ⟨by omega, by omega, fun i W => (Below w.heap.size w W ∧ W.heap[w.heap.size]? = some (.cells #[.slice a n c, .slice sa sn sc] 27) ∧ W.heap[w1.heap.size]? = some (.cells #[.slice none 0 0, .slice none 0 0] 27)) ∧ DNodes w.heap.size W oa on oc (ownW G).nodes ∧
      ∃ ea en ec, W.heap[w2.heap.size]? = some (.cells #[.slice oa on oc, .slice ea en ec] 27) ∧ ∃ (k : Nat) (qs : List EP), i = k ∧ k ≤ min sn 128 ∧ qs.map (·.2) = ((es.take 128).take k).map (fun p => cutE p.2) ∧ Own encEnt 3 94 w.heap.size W ea en ec (qs.map (·.1)) ∧ ∀ p ∈ qs, EntSays p.1 p.2 ∧ OwnTy w.heap.size W p.1.ty p.2.ty,
      fun i _ => min sn 128 - i.toNat, ⟨⟨hB, qb, qb2⟩, hD, _, _, _, qo, 0, [], rfl, by omega, rfl, Own.nil, by simp⟩, ?_⟩
    clear hB qb qb2 qo hD W
    rintro _ W _ ⟨⟨hB, qb, qb2⟩, hD, ea, en, ec, qo, k, qs, rfl, hk, hsnd, ho, hq⟩
    have hql : qs.length = k := by have := congrArg List.length hsnd; simp at this; omega
    have hon : en = k := by have := ho.len; simp at this; omega
    refine cnd (fun hc => ?_) fun hc => ?_
    · have hkn : k < min sn 128 := by simp only [decide_eq_true_eq] at hc; omega
      have hkp : k < (es.take 128).length := by simp; omega
      have hX := hes _ (List.mem_of_mem_take (List.getElem_mem hkp))
      refine (hcut.below hB).entN hkn fun hl => box_ent fun w6 s6 B6' => ?_
      have e0 : ((es.take 128).map (·.1))[k]'hl = (es.take 128)[k].1 := by simp
      rw [e0] at s6
      generalize hXe : (es.take 128)[k] = X at s6 hX
      obtain ⟨X, x⟩ := X
      dsimp only at s6 hX
      have B6 := hB.trans (B6'.mono hB.size)
      have l1 := hX.ty.le
      refine ⟨_, _, _, blk_cell s6 1, _, _, _, blk_cell s6 1, ?_⟩
      rw [min14]
      simp only [Int.toNat_natCast]
      refine ⟨by omega, by omega, (k_CloneIds ((hX.ty.cut 14).below B6) (by omega)).mono ?_⟩
      rintro _ w8 ⟨a8, n8, c8, rfl, ho8, B8'⟩
      have B8 := B6.trans (B8'.mono B6.size)
      have s8 := blk_below s6 B8' (blk_lt s6)
      refine ⟨_, _, _, rfl, blk_some s8 (j := 1) (by simp), blk_free s8 1, ?_⟩
      rintro w11 h11
      have s11 : w11.heap[W.heap.size]? = some (.cells #[.int .i64 X.st, .slice a8 n8 c8, .int .i64 X.num] 94) := by rw [h11]; exact blk_set s8 1 _
      have hN11 : OwnTy w.heap.size w11 (⟨a8, n8, c8⟩ : Hd) (x.ty.take 14) := by rw [h11]; exact (ho8.mono B6.size).far s8 (by decide) _
      have B11 : Below W.heap.size W w11 := by rw [h11]; exact (B6'.trans (B8'.mono B6'.size)).setCell (Nat.le_refl _) _
      clear h11 s8 s6
      have hBW := hB.trans (B11.mono hB.size)
      have qo11 := blk_below qo B11 (blk_lt qo)
      have ho11 := ho.below B11
      refine ⟨_, _, _, blk_cell qo11 1, _, _, _, _, _, blk_cell s11 0, blk_cell s11 1, blk_cell s11 2, ?_⟩
      refine app1 tyEnts enEnt ho11 hBW.size (⟨X.st, ⟨a8, n8, c8⟩, X.num⟩ : REnt) (by simp only [maxLen]; omega) (by omega) fun a' c' w15 ho15 hg15 => ?_
      have qo15 := ho11.keepBlk hg15 qo11 (.inl (by decide))
      have qb15 := ho11.keepBlk hg15 (blk_below qb B11 (blk_lt qb)) (.inl (by decide))
      have qb215 := ho11.keepBlk hg15 (blk_below qb2 B11 (blk_lt qb2)) (.inl (by decide))
      have B15 := hBW.trans (ho11.belowOf hg15 hBW.size)
      refine ⟨blk_some qo15 (j := 1) (by simp), blk_free qo15 1, ?_⟩
      rintro w16 h16
      rw [nx (by omega)]
      refine ⟨⟨⟨by rw [h16]; exact B15.setCell (by show w.heap.size ≤ w2.heap.size; omega) _, by rw [h16]; exact blk_far qb15 (by show w.heap.size ≠ w2.heap.size; omega) _, by rw [h16]; exact blk_far qb215 (by show w1.heap.size ≠ w2.heap.size; omega) _⟩, ?_, _, _, _, by rw [h16]; exact blk_set qo15 1 _, k + 1, qs ++ [((⟨X.st, ⟨a8, n8, c8⟩, X.num⟩ : REnt), cutE x)], rfl, by omega, ?_, ?_, fun p hp => ?_⟩, dec hkn⟩
      · rw [h16]
        refine DNodes.farB ?_ qo15 (by decide) (by decide) (by decide) _
        obtain ⟨q9, e1, e2, e3⟩ := hD.below B11
        exact ⟨q9, e1, ho11.keepOwn hg15 e2 (by decide), fun p hp => ⟨(e3 p hp).1, (e3 p hp).2.keepBy ho11 hg15 (by decide) (by decide)⟩⟩
      · rw [List.map_append, hsnd, take_one hkp, List.map_append, hXe]; rfl
      · rw [h16, List.map_append]; exact ho15.far qo15 (by decide) _
      · rw [h16]
        rcases List.mem_append.1 hp with hp | hp
        · exact ⟨(hq p hp).1, (ho11.keepOwn hg15 ((hq p hp).2.below B11) (by decide)).far qo15 (by decide) _⟩
        · simp only [List.mem_singleton] at hp
          subst hp
          exact ⟨⟨hX.st, hX.num, fun y hy => hX.rng.1 y (List.mem_of_mem_take hy), hX.rng.2⟩, (ho11.keepOwn hg15 hN11 (by decide)).far qo15 (by decide) _⟩
    · have hkn : ¬ k < min sn 128 := by simp only [decide_eq_false_iff_not] at hc; omega
      refine ⟨_, _, _, _, _, _, blk_cell qo 0, blk_cell qo 1, put_back2 qb2 fun W' hW' hq' => ?_⟩
      have qm := blk_set qb2 0 (.slice oa on oc)
      have hE : DEnts w.heap.size W ea en ec (ownW G).slots := by
        refine ⟨qs, ?_, ho, hq⟩
        rw [hsnd, List.take_of_length_le (by simp; omega), ownW, ← heG, ← List.map_take, List.map_map]; rfl
      refine ⟨_, _, _, _, _, _, rfl, ?_, ?_, ?_⟩
      · rw [hW']; exact (hD.farB qb2 (by decide) (by decide) (by decide) _).farB qm (by decide) (by decide) (by decide) _
      · rw [hW']; exact (hE.farB qb2 (by decide) (by decide) _).farB qm (by decide) (by decide) _
      · rw [hW']; exact (hB.setCell (by show w.heap.size ≤ w1.heap.size; omega) _).setCell (by show w.heap.size ≤ w1.heap.size; omega) _
end
end Go.Eng
namespace Go.Eng
open Go Go.RowKit Go.Proofs
set_option maxRecDepth 10000
/-- Just these nodes, and the lookup says them. -/
def SaysP (G : PG) (l : List Node) : Prop := G.nodes = l ∧ (l.length = 0 → G.slots.length = 0) ∧ (l.length ≠ 0 → Right7 G.slots ∧ all7 Entry.st Entry.ty G.slots = ents12 l)
end Go.Eng
namespace Go.Eng
open Go Go.Proofs
set_option exponentiation.threshold 300
theorem perm_of_mem {α : Type} [DecidableEq α] {l l' : List α} (h : l.Nodup) (h' : l'.Nodup) (he : ∀ x, x ∈ l ↔ x ∈ l') : l.Perm l' :=
  (pigeon_perm h (fun x hx => (he x).1 hx) (pigeon h' fun x hx => (he x).2 hx)).symm
theorem mem_entsN {l : List Node} {e : Entry} : e ∈ entsU l ↔ ∃ n, isN l n = true ∧ e = ⟨1, (node l n).ty, n⟩ := by
  rw [mem_entsU]
  constructor
  · rintro ⟨k, hk, hu, rfl⟩; exact ⟨(k : Int) + 1, isN_of hk hu, by rw [node_eq hk]⟩
  · rintro ⟨n, hn, rfl⟩
    obtain ⟨k, hk, rfl, hu, he⟩ := isN_node hn
    exact ⟨k, hk, hu, by rw [he]⟩
theorem entsU_nodup (l : List Node) : (entsU l).Nodup := by
  unfold entsU
  rw [List.nodup_iff_pairwise_ne, List.pairwise_map]
  refine (usedIx_nodup l).imp fun hab he => hab ?_
  have := congrArg Entry.num he
  simp only [entN] at this; omega
theorem find_alike {G : PG} (h : RG G) (t : List Int) : findL G.slots t = (findN G.nodes t, decide (0 < findN G.nodes t)) := by
  by_cases hf : 0 < findN G.nodes t
  · obtain ⟨k, hk, hkl, hu, ht⟩ := findN_pos hf
    have := findL_used h.look (h.usedN hkl hu) rfl
    simp only [ht] at this
    rw [this, hk, decide_eq_true (by omega : 0 < ((k : Nat) : Int) + 1)]
  · have h0 : findN G.nodes t = 0 := by
      unfold findN at hf ⊢
      split <;> rename_i hi
      · rw [hi] at hf; simp only at hf; omega
      · rfl
    have hno : (findL G.slots t).2 = false := by
      cases h2 : (findL G.slots t).2 with
      | false => rfl
      | true =>
        exfalso
        obtain ⟨i, hi, _, hu, ht⟩ := h.chg.find h2
        obtain ⟨j, e, _⟩ := findN_self hi hu
        rw [ht] at e; omega
    rw [h0]
    unfold findL at hno ⊢
    rw [h.look] at hno ⊢
    simp only [Bool.true_eq_false, if_false] at hno ⊢
    split
    · simp
    · rename_i hp; rw [if_neg hp] at hno; simp at hno
theorem findN_none {l : List Node} {t : List Int} (h : ¬ 0 < findN l t) {n : Int} (hn : isN l n = true) : (node l n).ty ≠ t := by
  intro ht
  obtain ⟨k, hk, rfl, hu, he⟩ := isN_node hn
  obtain ⟨j, e, _⟩ := findN_self hk hu
  rw [he] at ht
  rw [ht] at e; omega
theorem setNode_length {l : List Node} {k : Nat} (hk : k ≤ l.length) (x : Node) : (setNode l k x).length = max l.length (k + 1) := by
  unfold setNode; split
  · rw [List.length_set]; omega
  · simp; omega
theorem node_setNode {l : List Node} {k : Nat} (hk : k ≤ l.length) (x : Node) {n : Int} (hn : 1 ≤ n) : node (setNode l k x) n = if n = (k : Int) + 1 then x else node l n := by
  obtain ⟨j, rfl⟩ : ∃ j : Nat, n = (j : Int) + 1 := ⟨(n - 1).toNat, by omega⟩
  have e1 : ((j : Int) + 1 - 1).toNat = j := by omega
  have e2 : ((j : Int) + 1 = (k : Int) + 1) ↔ j = k := by omega
  simp only [node, e1, e2, List.getD_eq_getElem?_getD]
  unfold setNode
  split
  · rw [List.getElem?_set]
    by_cases hjk : k = j
    · subst hjk; simp [*]
    · rw [if_neg hjk, if_neg (Ne.symm hjk)]
  · have : k = l.length := by omega
    subst this
    by_cases hjk : j = l.length
    · subst hjk; simp
    · rw [if_neg hjk]
      rcases Nat.lt_or_ge j l.length with hl | hl
      · rw [List.getElem?_append_left hl]
      · rw [List.getElem?_append_right hl, List.getElem?_eq_none hl, List.getElem?_eq_none (by simp; omega)]
theorem isN_setNode {l : List Node} {k : Nat} (hk : k ≤ l.length) (x : Node) (n : Int) : isN (setNode l k x) n = if n = (k : Int) + 1 then x.used else isN l n := by
  by_cases hn : 1 ≤ n
  · unfold isN
    rw [node_setNode hk x hn, setNode_length hk]
    by_cases he : n = (k : Int) + 1
    · simp only [if_pos he]
      have h2 : n ≤ ((max l.length (k + 1) : Nat) : Int) := by omega
      simp [hn, h2]
    · simp only [if_neg he]
      by_cases hl : n ≤ (l.length : Int)
      · have h2 : n ≤ ((max l.length (k + 1) : Nat) : Int) := by omega
        simp [hl, h2]
      · have h2 : ¬ n ≤ ((max l.length (k + 1) : Nat) : Int) := by omega
        simp [hl, h2]
  · have he : ¬ n = (k : Int) + 1 := by omega
    simp [isN, hn, he]
theorem isN_freeIx (l : List Node) : isN l ((freeIx l : Int) + 1) = false := by rw [isN_free (Nat.le_refl _)]; simp
theorem StpP.keep {l l' : List Node} {n : Int} {s : Stp} (h : StpP l n s) (h1 : node l' n = node l n) (h2 : node l' s.2 = node l s.2) (h3 : isN l' s.2 = isN l s.2) : StpP l' n s := by
  unfold StpP at h ⊢; rw [h1, h2, h3]; exact h
theorem StpL.keep {l l' : List Node} {n : Int} {s : Stp} (h : StpL l n s) (h1 : node l' n = node l n) (h2 : node l' s.2 = node l s.2) (h3 : isN l' s.2 = isN l s.2) : StpL l' n s := by
  unfold StpL at h ⊢; rw [h1, h2, h3]; exact h
theorem isN_ge {l : List Node} {n : Int} (h : isN l n = true) : 1 ≤ n := by
  simp only [isN, Bool.and_eq_true, decide_eq_true_eq] at h; exact h.1.1
theorem entsU_setNode {l : List Node} {k : Nat} (hk : k ≤ l.length) (hfree : isN l ((k : Int) + 1) = false) {t : List Int} {p q : List Stp} : (entsU (setNode l k ⟨true, t, p, q⟩)).Perm (⟨1, t, (k : Int) + 1⟩ :: entsU l) := by
  refine perm_of_mem (entsU_nodup _) (List.nodup_cons.2 ⟨fun hm => ?_, entsU_nodup _⟩) fun e => ?_
  · obtain ⟨n, hn, he⟩ := mem_entsN.1 hm
    have := congrArg Entry.num he
    simp only at this
    rw [← this, hfree] at hn; cases hn
  · rw [List.mem_cons, mem_entsN, mem_entsN]
    constructor
    · rintro ⟨n, hn, rfl⟩
      rw [node_setNode hk _ (isN_ge hn)]
      rw [isN_setNode hk] at hn
      by_cases he : n = (k : Int) + 1
      · left; simp [he]
      · right; rw [if_neg he] at hn; exact ⟨n, hn, by rw [if_neg he]⟩
    · rintro (rfl | ⟨n, hn, rfl⟩)
      · refine ⟨(k : Int) + 1, by rw [isN_setNode hk, if_pos rfl], ?_⟩
        rw [node_setNode hk _ (by omega), if_pos rfl]
      · have he : n ≠ (k : Int) + 1 := by rintro rfl; rw [hfree] at hn; cases hn
        exact ⟨n, by rw [isN_setNode hk, if_neg he]; exact hn, by rw [node_setNode hk _ (isN_ge hn), if_neg he]⟩
theorem manyN_entsU (l : List Node) : manyN l = (entsU l).length := by rw [entsU, List.length_map, usedIx_len]
theorem N12.put {l : List Node} (h : N12 l) {t : List Int} (ht : right2 t = true) (hf : ¬ 0 < findN l t) (hm : manyN l ≠ 4000) : N12 (setNode l (freeIx l) ⟨true, t, [], []⟩) := by
  have hk := freeIx_le l
  have hfree := isN_freeIx l
  generalize freeIx l = k at *
  have hne : ∀ n, isN l n = true → n ≠ (k : Int) + 1 := by rintro n hn rfl; rw [hfree] at hn; cases hn
  have hnode : ∀ n, isN l n = true → node (setNode l k ⟨true, t, [], []⟩) n = node l n := fun n hn => by rw [node_setNode hk _ (isN_ge hn), if_neg (hne n hn)]
  have his : ∀ n, isN l n = true → isN (setNode l k ⟨true, t, [], []⟩) n = true := fun n hn => by rw [isN_setNode hk, if_neg (hne n hn)]; exact hn
  have hnew : node (setNode l k ⟨true, t, [], []⟩) ((k : Int) + 1) = ⟨true, t, [], []⟩ := by rw [node_setNode hk _ (by omega), if_pos rfl]
  have hor : ∀ n, isN (setNode l k ⟨true, t, [], []⟩) n = true → n = (k : Int) + 1 ∨ isN l n = true := by
    intro n hn
    rw [isN_setNode hk] at hn
    by_cases he : n = (k : Int) + 1
    · exact .inl he
    · rw [if_neg he] at hn; exact .inr hn
  have hlen := setNode_length hk (⟨true, t, [], []⟩ : Node)
  have hpos := h.pos
  refine ⟨by omega, ?_, his 1 h.one, by rw [hnode 1 h.one]; exact h.ty1, fun n hn => ?_, fun n m hn hm' he => ?_, fun i hi hu => ?_, fun n hn => ?_, fun n s hn hs => ?_, fun n s hn hs => ?_, ?_⟩
  · rw [hlen, isN_setNode hk]
    by_cases he : ((max l.length (k + 1) : Nat) : Int) = (k : Int) + 1
    · rw [if_pos he]
    · rw [if_neg he, show max l.length (k + 1) = l.length by omega]; exact h.last
  · rcases hor n hn with rfl | hn
    · rw [hnew]; exact ht
    · rw [hnode n hn]; exact h.right n hn
  · rcases hor n hn with rfl | hn
    · rcases hor m hm' with rfl | hm'
      · rfl
      · rw [hnew, hnode m hm'] at he
        exact absurd he.symm (findN_none hf hm')
    · rcases hor m hm' with rfl | hm'
      · rw [hnew, hnode n hn] at he
        exact absurd he (findN_none hf hn)
      · rw [hnode n hn, hnode m hm'] at he
        exact h.uniq n m hn hm' he
  · have e1 : node (setNode l k ⟨true, t, [], []⟩) ((i : Int) + 1) = (setNode l k ⟨true, t, [], []⟩)[i] := node_eq hi
    rw [node_setNode hk _ (by omega)] at e1
    by_cases he : (i : Int) + 1 = (k : Int) + 1
    · rw [if_pos he] at e1; rw [← e1] at hu; cases hu
    · rw [if_neg he] at e1
      have hil : i < l.length := by omega
      rw [node_eq hil] at e1
      rw [← e1] at hu ⊢
      exact h.free i hil hu
  · rcases hor n hn with rfl | hn
    · rw [hnew]; exact ⟨.nil, .nil⟩
    · rw [hnode n hn]; exact h.sorted n hn
  · rcases hor n hn with rfl | hn
    · rw [hnew] at hs; cases hs
    · rw [hnode n hn] at hs
      have := h.plus n s hn hs
      exact this.keep (hnode n hn) (hnode _ this.1) (by rw [his _ this.1, this.1])
  · rcases hor n hn with rfl | hn
    · rw [hnew] at hs; cases hs
    · rw [hnode n hn] at hs
      have := h.less n s hn hs
      exact this.keep (hnode n hn) (hnode _ this.1) (by rw [his _ this.1, this.1])
  · have := (entsU_setNode hk hfree (t := t) (p := []) (q := [])).length_eq
    have h2 := h.many
    rw [manyN_entsU, this, List.length_cons, ← manyN_entsU]; omega
theorem all7_many {G : PG} (h : RG G) : (all7 Entry.st Entry.ty G.slots).length = manyN G.nodes := by
  rw [all7_perm'.length_eq, h.ents.length_eq, ← manyN_entsU]
/-- A graph of which a node has a type: by the code and by the document. -/
theorem of_alike {G : PG} (h : RG G) {t : List Int} (hr : Rng t) :
    (ofG G t).1.nodes = (of12 G.nodes t).1 ∧ (ofG G t).2 = (of12 G.nodes t).2 ∧ ((ofG G t).1.slots.length ≤ max G.slots.length 16004 ∧ (ofG G t).1.nodes.length ≤ G.nodes.length + 1) ∧ ((ofG G t).2.2 ≠ 0 → (ofG G t).1 = ⟨[], []⟩) ∧
    ((ofG G t).2.2 = 0 → RG (ofG G t).1 ∧ isN (ofG G t).1.nodes (ofG G t).2.1 = true ∧ (node (ofG G t).1.nodes (ofG G t).2.1).ty = t ∧ ∀ n, isN G.nodes n = true → isN (ofG G t).1.nodes n = true ∧ node (ofG G t).1.nodes n = node G.nodes n) := by
  have hra := right_alike hr
  have hfa := find_alike h t
  unfold ofG of12
  rw [← hra, hfa, ents12_len]
  cases h2 : right2 t with
  | false => simp
  | true =>
    by_cases hf : 0 < findN G.nodes t
    · simp only [hf, decide_true, Bool.true_eq_false, if_true, if_false]
      obtain ⟨k, hk, hkl, hu, ht⟩ := findN_pos hf
      refine ⟨trivial, trivial, ⟨by omega, by omega⟩, fun h => absurd rfl h, fun _ => ⟨h, ?_, ?_, fun n hn => ⟨hn, trivial⟩⟩⟩
      · rw [hk]; exact isN_of hkl hu
      · rw [hk, node_eq hkl]; exact ht
    · have hpl : place G.slots t < 0 := by
        rcases Int.lt_or_le (place G.slots t) 0 with h0 | h0
        · exact h0
        · exfalso
          have h3 : (findL G.slots t).2 = true := by simp [findL, h.look, show ¬ place G.slots t < 0 by omega]
          rw [hfa] at h3; simp [hf] at h3
      have hk := freeIx_le G.nodes
      by_cases hm : manyN G.nodes = 4000
      · have hpe : putL G.slots t ((freeIx G.nodes : Int) + 1) = ([], 6) := by
          simp only [putL, h.look, h2, Bool.true_eq_false, if_false, show ¬ ((freeIx G.nodes : Int) + 1) < 0 by omega, show ¬ 0 ≤ place G.slots t by omega, all7_many h, hm, if_true]
        simp [hf, hm, hpe]
      · obtain ⟨p1, p2, p3⟩ := put_ok (num := (freeIx G.nodes : Int) + 1) h.look h2 (by omega) hpl (by rw [all7_many h]; exact hm)
        have hlen : (putL G.slots t ((freeIx G.nodes : Int) + 1)).1.length ≤ max G.slots.length 16004 := by
          have e : putL G.slots t ((freeIx G.nodes : Int) + 1) = (laidL (all7 Entry.st Entry.ty G.slots ++ [⟨1, t, (freeIx G.nodes : Int) + 1⟩]) (manyOf ((all7 Entry.st Entry.ty G.slots).length + 1)), 0) := by
            simp only [putL, h.look, h2, Bool.true_eq_false, if_false, show ¬ ((freeIx G.nodes : Int) + 1) < 0 by omega, show ¬ 0 ≤ place G.slots t by omega, all7_many h, hm]
          rw [e]
          show (laidL _ _).length ≤ _
          rw [laidL_len]
          have := all7_4000 h.look
          have h2 := manyOf_le ((all7 Entry.st Entry.ty G.slots).length + 1)
          have := all7_many h
          omega
        have hnl : (setNode G.nodes (freeIx G.nodes) ⟨true, t, [], []⟩).length ≤ G.nodes.length + 1 := by rw [setNode_length hk]; omega
        simp only [hf, hm, p1, decide_false, Bool.true_eq_false, Bool.false_eq_true, if_false, ne_eq, not_true_eq_false]
        refine ⟨trivial, trivial, ⟨hlen, hnl⟩, False.elim, fun _ => ⟨⟨h.nodes.put h2 hf hm, p2, ?_⟩, ?_, ?_, fun n hn => ?_⟩⟩
        · refine p3.trans ((h.ents.cons _).trans (entsU_setNode hk (isN_freeIx _)).symm)
        · rw [isN_setNode hk, if_pos rfl]
        · rw [node_setNode hk _ (by omega), if_pos rfl]
        · have he : n ≠ (freeIx G.nodes : Int) + 1 := by rintro rfl; rw [isN_freeIx] at hn; cases hn
          exact ⟨by rw [isN_setNode hk, if_neg he]; exact hn, by rw [node_setNode hk _ (isN_ge hn), if_neg he]⟩
/-- A graph that may be says its nodes. -/
theorem RG.says {G : PG} (h : RG G) (hr : RngN G.nodes) (hn : G.slots.length < 2 ^ 62) : SaysP G G.nodes := by
  refine ⟨rfl, fun h0 => by have := h.nodes.pos; omega, fun _ => ⟨(right7_iff (fun e he hs => ?_) hn).2 h.look, (all7_ents h.look).2 h.ents⟩⟩
  have hm : e ∈ usedE G.slots := List.mem_filter.2 ⟨he, by simp [hs]⟩
  obtain ⟨n, _, rfl⟩ := mem_entsN.1 (h.ents.mem_iff.1 hm)
  exact hr.node n
theorem says_nil : SaysP ⟨[], []⟩ [] := ⟨rfl, fun _ => rfl, fun h => absurd rfl h⟩
end Go.Eng
namespace Go.Eng
open Go Go.Proofs
set_option exponentiation.threshold 300
theorem keys_mem {l : List Stp} {x : Int} : x ∈ keys l ↔ ∃ y, (x, y) ∈ l := by
  simp only [keys, List.mem_map]
  constructor
  · rintro ⟨⟨a, b⟩, h, rfl⟩; exact ⟨b, h⟩
  · rintro ⟨y, h⟩; exact ⟨_, h, rfl⟩
theorem withS_mem {l : List Stp} {s x : Stp} : x ∈ withS l s ↔ x = s ∨ (x ∈ l ∧ x.1 ≠ s.1) := by
  simp only [withS, List.mem_append, List.mem_cons, List.mem_filter, decide_eq_true_eq]
  constructor
  · rintro (⟨h1, h2⟩ | rfl | ⟨h1, h2⟩)
    · exact .inr ⟨h1, by omega⟩
    · exact .inl rfl
    · exact .inr ⟨h1, by omega⟩
  · rintro (rfl | ⟨h1, h2⟩)
    · exact .inr (.inl rfl)
    · rcases Int.lt_or_gt_of_ne h2 with h | h
      · exact .inl ⟨h1, h⟩
      · exact .inr (.inr ⟨h1, h⟩)
theorem keys_withS (l : List Stp) (s : Stp) : keys (withS l s) = with3 (keys l) s.1 := by
  simp only [keys, withS, with3, List.map_append, List.map_cons, List.filter_map]
  rfl
theorem at2_cons_lt {y x : Int} {l : List Int} (h : y < x) : at2 (y :: l) x = at2 l x + 1 := by simp [at2, h]
theorem at2_cons_ge {y x : Int} {l : List Int} (h : ¬ y < x) : at2 (y :: l) x = 0 := by simp [at2, h]
theorem putS_withS : ∀ {l : List Stp}, (keys l).Pairwise (· < ·) → ∀ {id to : Int}, (id ∈ keys l → (id, to) ∈ l) → putS l id to = withS l (id, to)
  | [], _, id, to, _ => by simp [putS, withS, keys, at2]
  | (a, b) :: l, h, id, to, hin => by
    have hk : keys ((a, b) :: l) = a :: keys l := rfl
    rw [hk] at h
    obtain ⟨h1, h2⟩ := List.pairwise_cons.1 h
    by_cases hlt : a < id
    · have hin' : id ∈ keys l → (id, to) ∈ l := by
        intro hm
        have := hin (by rw [hk]; exact List.mem_cons_of_mem _ hm)
        rcases List.mem_cons.1 this with he | he
        · have := congrArg Prod.fst he; simp only at this; omega
        · exact he
      have ih := putS_withS h2 hin'
      have hid : (id ∈ keys ((a, b) :: l)) ↔ id ∈ keys l := by rw [hk, List.mem_cons]; constructor
                                                               · rintro (rfl | h); · omega
                                                                 · exact h
                                                               · exact .inr
      have e1 : putS ((a, b) :: l) id to = (a, b) :: putS l id to := by
        unfold putS
        by_cases hm : id ∈ keys l
        · rw [if_pos (hid.2 hm), if_pos hm]
        · rw [if_neg (fun h => hm (hid.1 h)), if_neg hm, hk, at2_cons_lt hlt]; rfl
      have e2 : withS ((a, b) :: l) (id, to) = (a, b) :: withS l (id, to) := by
        have hn : ¬ id < a := by omega
        simp only [withS, List.filter_cons, hlt, hn, decide_true, decide_false, if_true, Bool.false_eq_true, if_false, List.cons_append]
      rw [e1, e2, ih]
    · have f1 : l.filter (fun x => decide (x.1 < id)) = [] := by
        rw [List.filter_eq_nil_iff]; intro z hz
        have := h1 z.1 (keys_mem.2 ⟨z.2, hz⟩); simp; omega
      have f2 : l.filter (fun x => decide (id < x.1)) = l := by
        rw [List.filter_eq_self]; intro z hz
        have := h1 z.1 (keys_mem.2 ⟨z.2, hz⟩); simp; omega
      by_cases he : a = id
      · subst he
        have hm : (a, to) ∈ (a, b) :: l := hin (by rw [hk]; exact List.mem_cons_self)
        have hb : to = b := by
          rcases List.mem_cons.1 hm with he | he
          · exact congrArg Prod.snd he
          · have := h1 a (keys_mem.2 ⟨to, he⟩); omega
        subst hb
        have : a ∈ keys ((a, to) :: l) := by rw [hk]; exact List.mem_cons_self
        unfold putS; rw [if_pos this]
        simp [withS, List.filter_cons, f1, f2]
      · have hgt : id < a := by omega
        have hno : id ∉ keys ((a, b) :: l) := by
          rw [hk, List.mem_cons]; rintro (rfl | hm)
          · exact he rfl
          · have := h1 id hm; omega
        unfold putS; rw [if_neg hno, hk, at2_cons_ge hlt]
        simp [withS, List.filter_cons, f1, f2, hlt, hgt]
theorem node_set {l : List Node} {n : Int} {x : Node} {m : Int} (h1 : 1 ≤ n) (h2 : n ≤ (l.length : Int)) (hm : 1 ≤ m) : node (l.set (n - 1).toNat x) m = if m = n then x else node l m := by
  unfold node
  simp only [List.getD_eq_getElem?_getD]
  rw [List.getElem?_set]
  by_cases h : m = n
  · subst h
    have : (m - 1).toNat < l.length := by omega
    rw [if_pos rfl, if_pos this, if_pos rfl]; rfl
  · have : ¬ (n - 1).toNat = (m - 1).toNat := by omega
    rw [if_neg this, if_neg h]
theorem nodes_ext {l l' : List Node} (h : l.length = l'.length) (hn : ∀ k : Nat, k < l.length → node l ((k : Int) + 1) = node l' ((k : Int) + 1)) : l = l' := by
  refine List.ext_getElem h fun k h1 h2 => ?_
  have := hn k h1
  rwa [node_eq h1, node_eq h2] at this
/-- A step by one id more leads from lo to hi. -/
def lnk (l : List Node) (lo hi id : Int) : List Node := setPlus12 (setLess12 l hi (id, lo)) lo (id, hi)
theorem lnk_length (l : List Node) (lo hi id : Int) : (lnk l lo hi id).length = l.length := by simp [lnk, setPlus12, setLess12]
theorem isN_le {l : List Node} {n : Int} (h : isN l n = true) : 1 ≤ n ∧ n ≤ (l.length : Int) := by
  simp only [isN, Bool.and_eq_true, decide_eq_true_eq] at h; exact h.1
section
variable {l : List Node} {lo hi id : Int}
theorem node_lnk (h1 : isN l lo = true) (h2 : isN l hi = true) (hne : lo ≠ hi) {m : Int} (hm : 1 ≤ m) : node (lnk l lo hi id) m =
    if m = lo then ⟨(node l lo).used, (node l lo).ty, withS (node l lo).plus (id, hi), (node l lo).less⟩
    else if m = hi then ⟨(node l hi).used, (node l hi).ty, (node l hi).plus, withS (node l hi).less (id, lo)⟩ else node l m := by
  have b1 := isN_le h1; have b2 := isN_le h2
  unfold lnk setPlus12 setLess12
  rw [node_set b1.1 (by rw [List.length_set]; exact b1.2) hm]
  by_cases e1 : m = lo
  · rw [if_pos e1, if_pos e1, node_set b2.1 b2.2 b1.1, if_neg hne]
  · rw [if_neg e1, if_neg e1, node_set b2.1 b2.2 hm]
theorem lnk_used (h1 : isN l lo = true) (h2 : isN l hi = true) (hne : lo ≠ hi) {m : Int} (hm : 1 ≤ m) : (node (lnk l lo hi id) m).used = (node l m).used ∧ (node (lnk l lo hi id) m).ty = (node l m).ty := by
  rw [node_lnk h1 h2 hne hm]
  split
  · rename_i e; subst e; exact ⟨rfl, rfl⟩
  · split
    · rename_i e; subst e; exact ⟨rfl, rfl⟩
    · exact ⟨rfl, rfl⟩
theorem isN_lnk (h1 : isN l lo = true) (h2 : isN l hi = true) (hne : lo ≠ hi) (m : Int) : isN (lnk l lo hi id) m = isN l m := by
  unfold isN
  rw [lnk_length]
  by_cases hm : 1 ≤ m
  · rw [(lnk_used h1 h2 hne hm).1]
  · simp [hm]
theorem entsU_lnk (h1 : isN l lo = true) (h2 : isN l hi = true) (hne : lo ≠ hi) : entsU (lnk l lo hi id) = entsU l := by
  unfold entsU usedIx
  rw [lnk_length]
  have e : (fun i : Nat => (node (lnk l lo hi id) ((i : Int) + 1)).used) = fun i : Nat => (node l ((i : Int) + 1)).used := funext fun i => (lnk_used h1 h2 hne (by omega)).1
  rw [e]
  refine List.map_congr_left fun i _ => ?_
  simp only [entN, (lnk_used (m := (i : Int) + 1) h1 h2 hne (by omega)).2]
/-- Where two nodes' types differ by an id, each's row has no step by it elsewhere. -/
theorem N12.plusKey (h : N12 l) (h1 : isN l lo = true) (h2 : isN l hi = true) (ht : (node l hi).ty = with3 (node l lo).ty id) (hk : id ∈ keys (node l lo).plus) : (id, hi) ∈ (node l lo).plus := by
  obtain ⟨y, hy⟩ := keys_mem.1 hk
  have := h.plus lo _ h1 hy
  have e := h.uniq y hi this.1 h2 (by rw [ht]; exact this.2.2.2)
  rw [← e]; exact hy
theorem N12.lessKey (h : N12 l) (h1 : isN l lo = true) (h2 : isN l hi = true) (ht : (node l lo).ty = without3 (node l hi).ty id) (hk : id ∈ keys (node l hi).less) : (id, lo) ∈ (node l hi).less := by
  obtain ⟨y, hy⟩ := keys_mem.1 hk
  have := h.less hi _ h2 hy
  have e := h.uniq y lo this.1 h1 (by rw [ht]; exact this.2.2.2)
  rw [← e]; exact hy
theorem key_one {r : List Stp} (h : (keys r).Pairwise (· < ·)) {x y z : Int} (h1 : (x, y) ∈ r) (h2 : (x, z) ∈ r) : y = z := by
  have hnd : (r.map (·.1)).Nodup := (show (keys r).Nodup from h.imp fun hab => by omega)
  exact congrArg Prod.snd (nodup_map_inj hnd h1 h2 rfl)
theorem withS_old {r : List Stp} (h : (keys r).Pairwise (· < ·)) {s : Stp} (hk : s.1 ∈ keys r → s ∈ r) {x : Stp} (hx : x ∈ r) : x ∈ withS r s := by
  rw [withS_mem]
  by_cases he : x.1 = s.1
  · left
    have hs := hk (keys_mem.2 ⟨x.2, by rw [← he]; exact hx⟩)
    refine Prod.ext he (key_one h (x := s.1) (y := x.2) (z := s.2) ?_ hs)
    rw [← he]; exact hx
  · exact .inr ⟨hx, he⟩
theorem N12.link (h : N12 l) (h1 : isN l lo = true) (h2 : isN l hi = true) (hid : id ∉ (node l lo).ty) (ht : (node l hi).ty = with3 (node l lo).ty id) : N12 (lnk l lo hi id) := by
  have hne : lo ≠ hi := by
    rintro rfl
    exact hid (by rw [ht]; exact with3_mem.2 (.inl rfl))
  have hsrt : (node l lo).ty.Pairwise (· < ·) := (right2_iff.1 (h.right lo h1)).1
  have ht' : (node l lo).ty = without3 (node l hi).ty id := by rw [ht, without_with hsrt hid]
  have his := fun m => isN_lnk (id := id) h1 h2 hne m
  have hty : ∀ m, isN l m = true → (node (lnk l lo hi id) m).ty = (node l m).ty := fun m hm => (lnk_used h1 h2 hne (isN_ge hm)).2
  have hkp := h.plusKey h1 h2 ht
  have hkl := h.lessKey h1 h2 ht'
  have hP : ∀ m s, isN l m = true → (s ∈ (node (lnk l lo hi id) m).plus ↔ s ∈ (node l m).plus ∨ (m = lo ∧ s = (id, hi))) := by
    intro m s hm
    rw [node_lnk h1 h2 hne (isN_ge hm)]
    by_cases e : m = lo
    · rw [if_pos e]; subst e
      constructor
      · intro hs
        rcases withS_mem.1 hs with rfl | hs
        · exact .inr ⟨rfl, rfl⟩
        · exact .inl hs.1
      · rintro (hs | ⟨_, rfl⟩)
        · exact withS_old (h.sorted _ h1).1 hkp hs
        · exact withS_mem.2 (.inl rfl)
    · rw [if_neg e]
      have : ∀ x : Node, x.plus = (node l m).plus → (s ∈ x.plus ↔ s ∈ (node l m).plus ∨ m = lo ∧ s = (id, hi)) := by
        intro x hx; rw [hx]
        exact ⟨.inl, fun h => h.elim (fun h => h) fun h => absurd h.1 e⟩
      apply this
      split
      · rename_i e2; subst e2; rfl
      · rfl
  have hL : ∀ m s, isN l m = true → (s ∈ (node (lnk l lo hi id) m).less ↔ s ∈ (node l m).less ∨ (m = hi ∧ s = (id, lo))) := by
    intro m s hm
    rw [node_lnk h1 h2 hne (isN_ge hm)]
    by_cases e : m = lo
    · rw [if_pos e]; subst e
      exact ⟨.inl, fun h => h.elim (fun h => h) fun h => absurd h.1 hne⟩
    · rw [if_neg e]
      by_cases e2 : m = hi
      · rw [if_pos e2]; subst e2
        constructor
        · intro hs
          rcases withS_mem.1 hs with rfl | hs
          · exact .inr ⟨rfl, rfl⟩
          · exact .inl hs.1
        · rintro (hs | ⟨_, rfl⟩)
          · exact withS_old (h.sorted _ h2).2 hkl hs
          · exact withS_mem.2 (.inl rfl)
      · rw [if_neg e2]
        exact ⟨.inl, fun h => h.elim (fun h => h) fun h => absurd h.1 e2⟩
  have hlen := lnk_length l lo hi id
  refine ⟨by rw [hlen]; exact h.pos, by rw [hlen, his]; exact h.last, by rw [his]; exact h.one, by rw [hty 1 h.one]; exact h.ty1, fun n hn => ?_, fun n m hn hm he => ?_, fun i hi' hu => ?_, fun n hn => ?_, fun n s hn hs => ?_, fun n s hn hs => ?_, ?_⟩
  · rw [his] at hn; rw [hty n hn]; exact h.right n hn
  · rw [his] at hn hm; rw [hty n hn, hty m hm] at he; exact h.uniq n m hn hm he
  · have hil : i < l.length := by omega
    have e1 : node (lnk l lo hi id) ((i : Int) + 1) = (lnk l lo hi id)[i] := node_eq hi'
    have hnu : isN l ((i : Int) + 1) = false := by
      rw [← his, isN_eq hi']; exact hu
    rw [node_lnk h1 h2 hne (by omega), if_neg (by rintro e; rw [e, h1] at hnu; cases hnu), if_neg (by rintro e; rw [e, h2] at hnu; cases hnu), node_eq hil] at e1
    rw [← e1] at hu ⊢
    exact h.free i hil hu
  · rw [his] at hn
    rw [node_lnk h1 h2 hne (isN_ge hn)]
    have hs := h.sorted n hn
    split
    · rename_i e; subst e
      exact ⟨by rw [keys_withS]; exact with3_sorted hs.1 _, hs.2⟩
    · split
      · rename_i e; subst e
        exact ⟨hs.1, by rw [keys_withS]; exact with3_sorted hs.2 _⟩
      · exact hs
  · rw [his] at hn
    rcases (hP n s hn).1 hs with hs | ⟨rfl, rfl⟩
    · obtain ⟨a1, a2, a3, a4⟩ := h.plus n s hn hs
      exact ⟨by rw [his]; exact a1, by rw [hty n hn]; exact a2, (hL s.2 _ a1).2 (.inl a3), by rw [hty n hn, hty _ a1]; exact a4⟩
    · exact ⟨by rw [his]; exact h2, by rw [hty _ h1]; exact hid, (hL hi _ h2).2 (.inr ⟨rfl, rfl⟩), by rw [hty _ h1, hty _ h2]; exact ht⟩
  · rw [his] at hn
    rcases (hL n s hn).1 hs with hs | ⟨rfl, rfl⟩
    · obtain ⟨a1, a2, a3, a4⟩ := h.less n s hn hs
      exact ⟨by rw [his]; exact a1, by rw [hty n hn]; exact a2, (hP s.2 _ a1).2 (.inl a3), by rw [hty n hn, hty _ a1]; exact a4⟩
    · exact ⟨by rw [his]; exact h1, by rw [hty _ h2, ht]; exact with3_mem.2 (.inl rfl), (hP lo _ h1).2 (.inr ⟨rfl, rfl⟩), by rw [hty _ h1, hty _ h2]; exact ht'⟩
  · rw [manyN_entsU, entsU_lnk h1 h2 hne, ← manyN_entsU]; exact h.many
/-- What the code does, both ways. -/
theorem addPL_lnk (h : N12 l) (h1 : isN l lo = true) (h2 : isN l hi = true) (hid : id ∉ (node l lo).ty) (ht : (node l hi).ty = with3 (node l lo).ty id) :
    addLess (addPlus l lo id hi) hi id lo = lnk l lo hi id ∧ addPlus (addLess l hi id lo) lo id hi = lnk l lo hi id := by
  have hne : lo ≠ hi := by
    rintro rfl
    exact hid (by rw [ht]; exact with3_mem.2 (.inl rfl))
  have hsrt : (node l lo).ty.Pairwise (· < ·) := (right2_iff.1 (h.right lo h1)).1
  have ht' : (node l lo).ty = without3 (node l hi).ty id := by rw [ht, without_with hsrt hid]
  have hp := putS_withS (h.sorted _ h1).1 (h.plusKey h1 h2 ht)
  have hl := putS_withS (h.sorted _ h2).2 (h.lessKey h1 h2 ht')
  have b1 := isN_le h1; have b2 := isN_le h2
  constructor
  · refine nodes_ext (by simp [addLess, addPlus, lnk_length]) fun k hk => ?_
    have k1 : (1 : Int) ≤ (k : Int) + 1 := by omega
    rw [node_lnk h1 h2 hne k1]
    unfold addLess
    rw [node_set b2.1 (by simp [addPlus]; exact b2.2) k1]
    unfold addPlus
    rw [node_set b1.1 b1.2 k1, node_set b1.1 b1.2 b2.1, if_neg (Ne.symm hne), hp, hl]
    by_cases e : (k : Int) + 1 = hi
    · rw [if_pos e, if_neg (by omega), if_pos e]
    · rw [if_neg e, if_neg e]
  · refine nodes_ext (by simp [addLess, addPlus, lnk_length]) fun k hk => ?_
    have k1 : (1 : Int) ≤ (k : Int) + 1 := by omega
    rw [node_lnk h1 h2 hne k1]
    unfold addPlus
    rw [node_set b1.1 (by simp [addLess]; exact b1.2) k1]
    unfold addLess
    rw [node_set b2.1 b2.2 k1, node_set b2.1 b2.2 b1.1, if_neg hne, hp, hl]
end
end Go.Eng
namespace Go.Eng
open Go Go.Proofs
set_option exponentiation.threshold 300
def turn2 (plus : Bool) : List Int → Int → List Int × Int := if plus = true then with2e else without2e
/-- What the answers have in common. -/
structure Alike (G : PG) (r : PG × Int × Int) (q : List Node × Int × Int) (t : List Int) : Prop where
  nodes : r.1.nodes = q.1
  rest : r.2 = q.2
  len : r.1.slots.length ≤ max G.slots.length 16004 ∧ r.1.nodes.length ≤ G.nodes.length + 1
  err : r.2.2 ≠ 0 → r.1 = ⟨[], []⟩ ∧ r.2.1 = 0
  ok : r.2.2 = 0 → RG r.1 ∧ isN r.1.nodes r.2.1 = true ∧ (node r.1.nodes r.2.1).ty = t ∧ ∀ n, isN G.nodes n = true → isN r.1.nodes n = true ∧ (node r.1.nodes n).ty = (node G.nodes n).ty
theorem alike_err {G : PG} {t : List Int} {e : Int} (h : e ≠ 0) : Alike G (⟨[], []⟩, 0, e) ([], 0, e) t := ⟨rfl, rfl, ⟨Nat.zero_le _, Nat.zero_le _⟩, fun _ => ⟨rfl, rfl⟩, fun h' => absurd h' h⟩
theorem alike_same {G : PG} {n : Int} (h : RG G) (hi : isN G.nodes n = true) : Alike G (G, n, 0) (G.nodes, n, 0) (node G.nodes n).ty := ⟨rfl, rfl, ⟨by dsimp only; omega, by dsimp only; omega⟩, fun h => absurd rfl h, fun _ => ⟨h, hi, rfl, fun n h => ⟨h, rfl⟩⟩⟩
theorem of_alike' {G : PG} (h : RG G) {t : List Int} (hr : Rng t) : Alike G (ofG G t) (of12 G.nodes t) t := by
  obtain ⟨h1, h2, h3, h4, h5⟩ := of_alike h hr
  refine ⟨h1, h2, h3, fun he => ⟨h4 he, ?_⟩, fun he => ?_⟩
  · unfold ofG at he ⊢
    split
    · rfl
    · rename_i c1; rw [if_neg c1] at he
      split
      · rename_i c2; rw [if_pos c2] at he; exact absurd rfl he
      · rename_i c2; rw [if_neg c2] at he
        split
        · rfl
        · rename_i c3; rw [if_neg c3] at he; exact absurd rfl he
  · obtain ⟨a1, a2, a3, a4⟩ := h5 he
    exact ⟨a1, a2, a3, fun n hn => ⟨(a4 n hn).1, by rw [(a4 n hn).2]⟩⟩
theorem with3_id {l : List Int} (h : l.Pairwise (· < ·)) {x : Int} (hx : x ∈ l) : with3 l x = l := by
  rw [← with_alike h, with2, if_pos hx]
theorem RG.link {G : PG} (h : RG G) {lo hi id : Int} (h1 : isN G.nodes lo = true) (h2 : isN G.nodes hi = true) (hid : id ∉ (node G.nodes lo).ty) (ht : (node G.nodes hi).ty = with3 (node G.nodes lo).ty id) : RG ⟨lnk G.nodes lo hi id, G.slots⟩ := by
  have hne : lo ≠ hi := by
    rintro rfl
    exact hid (by rw [ht]; exact with3_mem.2 (.inl rfl))
  exact ⟨h.nodes.link h1 h2 hid ht, h.look, by show (usedE G.slots).Perm (entsU (lnk G.nodes lo hi id)); rw [entsU_lnk h1 h2 hne]; exact h.ents⟩
/-- What comes of a step, once the type of where it leads is there. -/
theorem go_end {G : PG} (h : RG G) {t : List Int} {id n : Int} {plus : Bool} (hr : Rng t) (hi : isN G.nodes n = true)
    (ht : if plus = true then id ∉ (node G.nodes n).ty ∧ t = with3 (node G.nodes n).ty id else id ∈ (node G.nodes n).ty ∧ t = without3 (node G.nodes n).ty id) :
    Alike G (if (ofG G t).2.2 ≠ 0 then (⟨[], []⟩, 0, (ofG G t).2.2) else (⟨if plus = true then addLess (addPlus (ofG G t).1.nodes n id (ofG G t).2.1) (ofG G t).2.1 id n
      else addPlus (addLess (ofG G t).1.nodes n id (ofG G t).2.1) (ofG G t).2.1 id n, (ofG G t).1.slots⟩, (ofG G t).2.1, 0))
      (if (of12 G.nodes t).2.2 ≠ 0 then ([], 0, (of12 G.nodes t).2.2) else (if plus = true then setPlus12 (setLess12 (of12 G.nodes t).1 (of12 G.nodes t).2.1 (id, n)) n (id, (of12 G.nodes t).2.1)
      else setPlus12 (setLess12 (of12 G.nodes t).1 n (id, (of12 G.nodes t).2.1)) (of12 G.nodes t).2.1 (id, n), (of12 G.nodes t).2.1, 0)) t := by
  have hA := of_alike' h hr
  have e2 := hA.rest
  have e1 := hA.nodes
  rw [← e2, ← e1]
  by_cases he : (ofG G t).2.2 = 0
  · simp only [he, ne_eq, not_true_eq_false, if_false]
    obtain ⟨hR, hm, hmt, hold⟩ := hA.ok he
    have hl := hA.len
    clear hA e1 e2 he
    generalize (ofG G t).1 = H at *
    generalize (ofG G t).2.1 = m at *
    obtain ⟨hn1, hn2⟩ := hold n hi
    cases plus with
    | true =>
      simp only [if_true] at ht ⊢
      obtain ⟨ht1, ht2⟩ := ht
      have hid' : id ∉ (node H.nodes n).ty := by rw [hn2]; exact ht1
      have ht' : (node H.nodes m).ty = with3 (node H.nodes n).ty id := by rw [hmt, hn2, ht2]
      have hne : n ≠ m := by rintro rfl; exact hid' (by rw [ht']; exact with3_mem.2 (.inl rfl))
      obtain ⟨a1, a2⟩ := addPL_lnk hR.nodes hn1 hm hid' ht'
      rw [a1]
      refine ⟨rfl, rfl, ⟨hl.1, by show (lnk _ _ _ _).length ≤ _; rw [lnk_length]; exact hl.2⟩, fun h => absurd rfl h, fun _ => ⟨hR.link hn1 hm hid' ht', ?_, ?_, fun k hk => ?_⟩⟩
      · show isN (lnk H.nodes n m id) m = true
        rw [isN_lnk hn1 hm hne]; exact hm
      · show (node (lnk H.nodes n m id) m).ty = t
        rw [(lnk_used hn1 hm hne (isN_ge hm)).2, hmt]
      · show isN (lnk H.nodes n m id) k = true ∧ (node (lnk H.nodes n m id) k).ty = _
        rw [isN_lnk hn1 hm hne, (lnk_used hn1 hm hne (isN_ge hk)).2]; exact hold k hk
    | false =>
      simp only [Bool.false_eq_true, if_false] at ht ⊢
      obtain ⟨ht1, ht2⟩ := ht
      have hs : (node G.nodes n).ty.Pairwise (· < ·) := (right2_iff.1 (h.nodes.right n hi)).1
      have hid' : id ∉ (node H.nodes m).ty := by rw [hmt, ht2, without3_mem]; exact fun h => h.2 rfl
      have ht' : (node H.nodes n).ty = with3 (node H.nodes m).ty id := by rw [hmt, hn2, ht2, with_without hs ht1]
      have hne : m ≠ n := by rintro rfl; exact hid' (by rw [ht']; exact with3_mem.2 (.inl rfl))
      obtain ⟨a1, a2⟩ := addPL_lnk hR.nodes hm hn1 hid' ht'
      rw [a2]
      refine ⟨rfl, rfl, ⟨hl.1, by show (lnk _ _ _ _).length ≤ _; rw [lnk_length]; exact hl.2⟩, fun h => absurd rfl h, fun _ => ⟨hR.link hm hn1 hid' ht', ?_, ?_, fun k hk => ?_⟩⟩
      · show isN (lnk H.nodes m n id) m = true
        rw [isN_lnk hm hn1 hne]; exact hm
      · show (node (lnk H.nodes m n id) m).ty = t
        rw [(lnk_used hm hn1 hne (isN_ge hm)).2, hmt]
      · show isN (lnk H.nodes m n id) k = true ∧ (node (lnk H.nodes m n id) k).ty = _
        rw [isN_lnk hm hn1 hne, (lnk_used hm hn1 hne (isN_ge hk)).2]; exact hold k hk
  · simp only [he, ne_eq, not_false_eq_true, if_true]; exact alike_err he
theorem go_alike {G : PG} (h : RG G) (hr : RngG G) {id : Int} (hid : 0 ≤ id ∧ id < 18446744073709551616) (n : Int) (plus : Bool) :
    Alike G (goneG (turn2 plus) G n id plus) (go12 G.nodes n id plus) (to12 (node G.nodes n).ty id plus) := by
  have hc := checkG_rg.2 h
  unfold goneG go12
  rw [if_neg (by rw [hc]; simp)]
  cases hi : isN G.nodes n with
  | false => simp only [if_true]; exact alike_err (by decide)
  | true =>
    simp only [Bool.true_eq_false, if_false]
    have h2 := h.nodes.right n hi
    have hs := (right2_iff.1 h2).1
    have h12 := (right2_iff.1 h2).2.2
    have hrng := hr.nodes.node n
    cases plus with
    | true =>
      simp only [turn2, to12, true_and, if_true, Bool.true_eq_false, false_and, if_false]
      rw [← may_alike hid]
      cases hm : may2 id with
      | false =>
        have e : with2e (node G.nodes n).ty id = ([], 2) := by simp [with2e, h2, hm]
        simp only [e, if_true, ne_eq, show ¬ ((2 : Int) = 0) by decide, not_false_eq_true]; exact alike_err (by decide)
      | true =>
        simp only [Bool.true_eq_false, if_false]
        by_cases hin : id ∈ (node G.nodes n).ty
        · rw [if_pos hin]
          have e : with2e (node G.nodes n).ty id = ((node G.nodes n).ty, 0) := by
            have : ¬ 12 < (node G.nodes n).ty.length := by omega
            simp [with2e, h2, hm, with2, hin, this]
          simp only [e, ne_eq, not_true_eq_false, if_false, if_true, with3_id hs hin]; exact alike_same h hi
        · rw [if_neg hin]
          have hlen := with3_len hs id
          rw [if_neg hin] at hlen
          by_cases h12' : (node G.nodes n).ty.length = 12
          · rw [if_pos h12']
            have e : with2e (node G.nodes n).ty id = ([], 6) := by
              have : 12 < (with3 (node G.nodes n).ty id).length := by omega
              simp [with2e, h2, hm, with_alike hs, this]
            simp only [e, ne_eq, show ¬ ((6 : Int) = 0) by decide, not_false_eq_true, if_true]; exact alike_err (by decide)
          · rw [if_neg h12']
            have e : with2e (node G.nodes n).ty id = (with3 (node G.nodes n).ty id, 0) := by
              have : ¬ 12 < (with3 (node G.nodes n).ty id).length := by omega
              simp [with2e, h2, hm, with_alike hs, this]
            have hne : ¬ with3 (node G.nodes n).ty id = (node G.nodes n).ty := fun he => hin (by rw [← he]; exact with3_mem.2 (.inl rfl))
            simp only [e, ne_eq, not_true_eq_false, if_false, hne]
            have := go_end (plus := true) (t := with3 (node G.nodes n).ty id) (id := id) h (rng_with3 hrng hid) hi ⟨hin, rfl⟩
            simpa only [if_true, ne_eq] using this
    | false =>
      simp only [turn2, to12, true_and, if_true, Bool.false_eq_true, false_and, if_false]
      by_cases hin : id ∈ (node G.nodes n).ty
      · have hnn : ¬ id ∉ (node G.nodes n).ty := fun h => h hin
        have e : without2e (node G.nodes n).ty id = (without3 (node G.nodes n).ty id, 0) := by simp [without2e, h2, hin, without_alike hs hin]
        have hne : ¬ without3 (node G.nodes n).ty id = (node G.nodes n).ty := fun he => by rw [← he] at hin; exact (without3_mem.1 hin).2 rfl
        simp only [e, hnn, ne_eq, not_true_eq_false, if_false, hne]
        have := go_end (plus := false) (t := without3 (node G.nodes n).ty id) (id := id) h (rng_without3 hrng) hi ⟨hin, rfl⟩
        simpa only [Bool.false_eq_true, if_false, ne_eq] using this
      · simp only [hin, not_false_eq_true, if_true]
        have e : without2e (node G.nodes n).ty id = ([], 4) := by simp [without2e, h2, hin]
        simp only [e, ne_eq, show ¬ ((4 : Int) = 0) by decide, not_false_eq_true, if_true]; exact alike_err (by decide)
end Go.Eng
namespace Go.Eng
open Go Go.Proofs
set_option exponentiation.threshold 300
theorem last_used : ∀ (l : List Node), (∃ i, ∃ h : i < l.length, l[i].used = true) → ∃ k, 0 < k ∧ ∃ h : k ≤ l.length, (∃ h' : k - 1 < l.length, l[k - 1].used = true) ∧ ∀ j (hj : j < l.length), k ≤ j → l[j].used = false := by
  intro l
  have : ∀ m, m ≤ l.length → (∃ i, ∃ h : i < l.length, i < m ∧ l[i].used = true) → ∃ k, 0 < k ∧ k ≤ m ∧ (∃ h' : k - 1 < l.length, l[k - 1].used = true) ∧ ∀ j (hj : j < l.length), k ≤ j → j < m → l[j].used = false := by
    intro m
    induction m with
    | zero => rintro _ ⟨i, _, h, _⟩; omega
    | succ m ih =>
      rintro hm ⟨i, hi, him, hu⟩
      cases hl : l[m].used with
      | true => exact ⟨m + 1, by omega, by omega, ⟨by omega, by simpa using hl⟩, fun j hj h1 h2 => by omega⟩
      | false =>
        have hne : i ≠ m := by rintro rfl; rw [hl] at hu; cases hu
        obtain ⟨k, h1, h2, h3, h4⟩ := ih (by omega) ⟨i, hi, by omega, hu⟩
        refine ⟨k, h1, by omega, h3, fun j hj a b => ?_⟩
        by_cases hjm : j = m
        · subst hjm; exact hl
        · exact h4 j hj a (by omega)
  rintro ⟨i, hi, hu⟩
  obtain ⟨k, h1, h2, h3, h4⟩ := this l.length (Nat.le_refl _) ⟨i, hi, hi, hu⟩
  exact ⟨k, h1, h2, h3, fun j hj hk => h4 j hj hk hj⟩
/-- Nodes without one. -/
def lessN (l : List Node) (m : Int) : List Node := trimN ((l.set (m - 1).toNat blankN).map (awayN m))
theorem node_take {l : List Node} {k : Nat} {n : Int} (hn : 1 ≤ n) (hk : n ≤ (k : Int)) : node (l.take k) n = node l n := by
  unfold node
  simp only [List.getD_eq_getElem?_getD]
  rw [List.getElem?_take, if_pos (by omega)]
theorem node_map {l : List Node} {f : Node → Node} {n : Int} (hn : 1 ≤ n) (hl : n ≤ (l.length : Int)) : node (l.map f) n = f (node l n) := by
  obtain ⟨k, rfl⟩ : ∃ k : Nat, n = (k : Int) + 1 := ⟨(n - 1).toNat, by omega⟩
  rw [node_eq (by simp; omega), node_eq (by omega), List.getElem_map]
section
variable {l : List Node} {m : Int}
theorem lessN_facts (h : N12 l) (hm : isN l m = true) (h1 : m ≠ 1) : isN (lessN l m) ((lessN l m).length : Int) = true ∧ 0 < (lessN l m).length ∧ (lessN l m).length ≤ l.length ∧ (∀ n, isN (lessN l m) n = (isN l n && n != m)) ∧
    (∀ n, isN l n = true → n ≠ m → node (lessN l m) n = awayN m (node l n)) ∧ (∀ i (hi : i < (lessN l m).length) (hi' : i < l.length), (i : Int) + 1 ≠ m → (lessN l m)[i] = awayN m l[i]) ∧ ∀ i (hi : i < (lessN l m).length), (i : Int) + 1 = m → (lessN l m)[i] = awayN m blankN := by
  have b := isN_le hm
  have hnode : ∀ n, 1 ≤ n → n ≤ (l.length : Int) → node ((l.set (m - 1).toNat blankN).map (awayN m)) n = if n = m then awayN m blankN else awayN m (node l n) := by
    intro n a1 a2
    rw [node_map a1 (by rw [List.length_set]; exact a2), node_set b.1 b.2 a1]
    split <;> rfl
  have hL : ((l.set (m - 1).toNat blankN).map (awayN m)).length = l.length := by simp
  have hisL : ∀ n, isN ((l.set (m - 1).toNat blankN).map (awayN m)) n = (isN l n && n != m) := by
    intro n
    unfold isN
    rw [hL]
    by_cases a1 : 1 ≤ n
    · by_cases a2 : n ≤ (l.length : Int)
      · rw [hnode n a1 a2]
        by_cases e : n = m
        · subst e; simp [awayN, blankN]
        · simp [e, awayN]
      · simp [a2]
    · simp [a1]
  unfold lessN
  generalize (l.set (m - 1).toNat blankN).map (awayN m) = L at *
  obtain ⟨k1, hk1, e1, hu1, _⟩ := isN_node (show isN L 1 = true by rw [hisL, h.one]; simp; omega)
  obtain ⟨k, h0, hk, ⟨hk', hu⟩, hno⟩ := last_used L ⟨k1, hk1, hu1⟩
  rw [trimN_eq h0 hk hu hno]
  have hlen : (L.take k).length = k := by rw [List.length_take]; omega
  have his : ∀ n, isN (L.take k) n = isN L n := by
    intro n
    by_cases a1 : 1 ≤ n
    · obtain ⟨j, rfl⟩ : ∃ j : Nat, n = (j : Int) + 1 := ⟨(n - 1).toNat, by omega⟩
      rcases Nat.lt_or_ge j L.length with hj | hj
      · rcases Nat.lt_or_ge j k with hjk | hjk
        · rw [isN_eq (by omega), isN_eq hj, List.getElem_take]
        · rw [isN_eq hj, hno j hj hjk]
          have : ¬ (j : Int) + 1 ≤ ((L.take k).length : Int) := by omega
          simp [isN, this]; intro _ h'; omega
      · have n1 : ¬ (j : Int) + 1 ≤ ((L.take k).length : Int) := by omega
        have n2 : ¬ (j : Int) + 1 ≤ (L.length : Int) := by omega
        unfold isN
        simp only [n1, n2, decide_false, Bool.and_false, Bool.false_and]
    · simp [isN, a1]
  refine ⟨?_, by omega, by omega, fun n => by rw [his, hisL], fun n hn hne => ?_, fun i hi hi' hne => ?_, fun i hi he => ?_⟩
  · rw [his, hlen]
    have := isN_of hk' hu
    rwa [show ((k - 1 : Nat) : Int) + 1 = (k : Int) by omega] at this
  · have hn' := isN_le hn
    have : isN (L.take k) n = true := by rw [his, hisL, hn]; simpa using hne
    have h2 := isN_le this
    rw [node_take h2.1 (by omega), hnode n hn'.1 hn'.2, if_neg hne]
  · have e1 := hnode ((i : Int) + 1) (by omega) (by omega)
    rw [if_neg hne, node_eq (by omega), node_eq hi'] at e1
    rw [List.getElem_take]; exact e1
  · have e1 := hnode ((i : Int) + 1) (by omega) (by omega)
    rw [if_pos he, node_eq (by omega)] at e1
    rw [List.getElem_take]; exact e1
theorem awayS_mem {r : List Stp} {x : Int} {s : Stp} : s ∈ awayS r x ↔ s ∈ r ∧ s.2 ≠ x := by simp [awayS]
theorem awayS_sorted {r : List Stp} (h : (keys r).Pairwise (· < ·)) (x : Int) : (keys (awayS r x)).Pairwise (· < ·) := by
  unfold keys at h ⊢
  rw [List.pairwise_map] at h ⊢
  exact h.filter _
theorem entsU_lessN (h : N12 l) (hm : isN l m = true) (h1 : m ≠ 1) : (entsU l).Perm (⟨1, (node l m).ty, m⟩ :: entsU (lessN l m)) := by
  obtain ⟨_, _, _, f3, f4, _, _⟩ := lessN_facts h hm h1
  have hty : ∀ n, isN l n = true → n ≠ m → (node (lessN l m) n).ty = (node l n).ty := fun n hn hne => by rw [f4 n hn hne]; rfl
  refine perm_of_mem (entsU_nodup _) (List.nodup_cons.2 ⟨fun hx => ?_, entsU_nodup _⟩) fun e => ?_
  · obtain ⟨n, hn, he⟩ := mem_entsN.1 hx
    have := congrArg Entry.num he
    simp only at this
    rw [f3, ← this] at hn; simp at hn
  · rw [List.mem_cons, mem_entsN, mem_entsN]
    constructor
    · rintro ⟨n, hn, rfl⟩
      by_cases e : n = m
      · subst e; exact .inl rfl
      · exact .inr ⟨n, by rw [f3, hn]; simpa using e, by rw [hty n hn e]⟩
    · rintro (rfl | ⟨n, hn, rfl⟩)
      · exact ⟨m, hm, rfl⟩
      · rw [f3] at hn
        simp only [Bool.and_eq_true, bne_iff_ne, ne_eq] at hn
        exact ⟨n, hn.1, by rw [hty n hn.1 hn.2]⟩
theorem N12.away (h : N12 l) (hm : isN l m = true) (h1 : m ≠ 1) : N12 (lessN l m) := by
  obtain ⟨f0, f1, f2, f3, f4, f5, f6⟩ := lessN_facts h hm h1
  have hor : ∀ n, isN (lessN l m) n = true → isN l n = true ∧ n ≠ m := by
    intro n hn; rw [f3] at hn; simpa using hn
  have hof : ∀ n, isN l n = true → n ≠ m → isN (lessN l m) n = true := by intro n hn hne; rw [f3, hn]; simpa using hne
  have hty : ∀ n, isN l n = true → n ≠ m → (node (lessN l m) n).ty = (node l n).ty := fun n hn hne => by rw [f4 n hn hne]; rfl
  refine ⟨f1, f0, hof 1 h.one (Ne.symm h1), by rw [hty 1 h.one (Ne.symm h1)]; exact h.ty1, fun n hn => ?_, fun n k hn hk he => ?_, fun i hi hu => ?_, fun n hn => ?_, fun n s hn hs => ?_, fun n s hn hs => ?_, ?_⟩
  · obtain ⟨a, b⟩ := hor n hn; rw [hty n a b]; exact h.right n a
  · obtain ⟨a, b⟩ := hor n hn
    obtain ⟨c, d⟩ := hor k hk
    rw [hty n a b, hty k c d] at he; exact h.uniq n k a c he
  · by_cases e : (i : Int) + 1 = m
    · rw [f6 i hi e]; exact ⟨rfl, rfl, rfl⟩
    · have e1 := f5 i hi (by omega) e
      rw [e1] at hu ⊢
      obtain ⟨a1, a2, a3⟩ := h.free i (by omega) hu
      exact ⟨a1, by simp [awayN, awayS, a2], by simp [awayN, awayS, a3]⟩
  · obtain ⟨a, b⟩ := hor n hn
    rw [f4 n a b]
    exact ⟨awayS_sorted (h.sorted n a).1 m, awayS_sorted (h.sorted n a).2 m⟩
  · obtain ⟨a, b⟩ := hor n hn
    rw [f4 n a b] at hs
    obtain ⟨hs1, hs2⟩ := awayS_mem.1 hs
    obtain ⟨a1, a2, a3, a4⟩ := h.plus n s a hs1
    refine ⟨hof _ a1 hs2, by rw [hty n a b]; exact a2, ?_, by rw [hty n a b, hty _ a1 hs2]; exact a4⟩
    rw [f4 _ a1 hs2]; exact awayS_mem.2 ⟨a3, b⟩
  · obtain ⟨a, b⟩ := hor n hn
    rw [f4 n a b] at hs
    obtain ⟨hs1, hs2⟩ := awayS_mem.1 hs
    obtain ⟨a1, a2, a3, a4⟩ := h.less n s a hs1
    refine ⟨hof _ a1 hs2, by rw [hty n a b]; exact a2, ?_, by rw [hty n a b, hty _ a1 hs2]; exact a4⟩
    rw [f4 _ a1 hs2]; exact awayS_mem.2 ⟨a3, b⟩
  · have := (entsU_lessN h hm h1).length_eq
    have h2 := h.many
    rw [manyN_entsU] at h2 ⊢
    rw [this, List.length_cons] at h2; omega
end
theorem drop_alike {G : PG} (h : RG G) (m : Int) :
    (dropG G m).1.nodes = (drop12 G.nodes m).1 ∧ (dropG G m).2 = (drop12 G.nodes m).2 ∧ ((dropG G m).1.slots.length ≤ G.slots.length ∧ (dropG G m).1.nodes.length ≤ G.nodes.length) ∧ ((dropG G m).2 ≠ 0 → (dropG G m).1 = ⟨[], []⟩ ∧ (isN G.nodes m = false ∨ m = 1)) ∧
    ((dropG G m).2 = 0 → RG (dropG G m).1 ∧ isN G.nodes m = true ∧ m ≠ 1 ∧ (dropG G m).1.nodes = lessN G.nodes m) := by
  have hc := checkG_rg.2 h
  unfold dropG drop12
  simp only [hc, Bool.true_eq_false, if_false]
  cases hi : isN G.nodes m with
  | false => simp
  | true =>
    simp only [Bool.true_eq_false, if_false]
    by_cases h1 : m = 1
    · simp [h1]
    · simp only [h1, if_false]
      obtain ⟨k, hk, rfl, hu, he⟩ := isN_node hi
      have hpl : ¬ place G.slots (node G.nodes ((k : Int) + 1)).ty < 0 := by
        intro hp
        have := place_none h.look hp _ (h.usedN hk hu) rfl
        rw [he] at this; exact this rfl
      obtain ⟨d1, d2, e, d3, d4, d5⟩ := drop_ok h.look hpl
      simp only [d1, ne_eq, not_true_eq_false, if_false]
      have hlen : (dropL G.slots (node G.nodes ((k : Int) + 1)).ty).1.length ≤ G.slots.length := by
        simp only [dropL, h.look, hpl, Bool.true_eq_false, if_false, List.length_set]; exact Nat.le_refl _
      refine ⟨trivial, trivial, ⟨hlen, (lessN_facts h.nodes hi h1).2.2.1⟩, False.elim, fun _ => ⟨⟨h.nodes.away hi h1, d2, ?_⟩, trivial, h1, rfl⟩⟩
      have hE := (d5.symm.trans h.ents).trans (entsU_lessN h.nodes hi h1)
      have hee : e = ⟨1, (node G.nodes ((k : Int) + 1)).ty, (k : Int) + 1⟩ := by
        have hmem : e ∈ entsU G.nodes := h.ents.mem_iff.1 (d5.mem_iff.2 List.mem_cons_self)
        obtain ⟨n, hn', rfl⟩ := mem_entsN.1 hmem
        have := h.nodes.uniq n _ hn' hi d3
        rw [this]
      rw [hee] at hE
      exact (List.perm_cons _).1 hE
theorem N12.rows {l : List Node} (h : N12 l) : ∀ x ∈ l, x.ty.length ≤ 12 ∧ x.plus.length ≤ l.length ∧ x.less.length ≤ l.length := by
  intro x hx
  obtain ⟨k, hk, rfl⟩ := List.mem_iff_getElem.1 hx
  cases hu : l[k].used with
  | false =>
    obtain ⟨a1, a2, a3⟩ := h.free k hk hu
    rw [a1, a2, a3]; simp
  | true =>
    have hn := isN_of hk hu
    have he := node_eq hk
    have hr := h.right _ hn
    have hs := h.sorted _ hn
    have hp := fun s => h.plus _ s hn
    have hq := fun s => h.less _ s hn
    rw [he] at hr hs hp hq
    have two : ∀ row : List Stp, (keys row).Pairwise (· < ·) → (∀ s ∈ row, isN l s.2 = true) → (∀ s ∈ row, ∀ u ∈ row, s.2 = u.2 → s.1 = u.1) → row.length ≤ l.length := by
      intro row hsr h1 h2
      have hnd : (row.map (·.2)).Nodup := by
        rw [List.nodup_iff_pairwise_ne, List.pairwise_map]
        have hks : row.Pairwise fun s u => s.1 < u.1 := by unfold keys at hsr; rwa [List.pairwise_map] at hsr
        exact hks.imp_of_mem fun hs hu hlt he => by have := h2 _ hs _ hu he; omega
      have := pigeon (l' := (List.range l.length).map fun i : Nat => (i : Int) + 1) hnd fun y hy => by
        obtain ⟨s, hs, rfl⟩ := List.mem_map.1 hy
        obtain ⟨j, hj, e, _, _⟩ := isN_node (h1 s hs)
        exact List.mem_map.2 ⟨j, List.mem_range.2 hj, e.symm⟩
      simpa using this
    refine ⟨(right2_iff.1 hr).2.2, two _ hs.1 (fun s hs => (hp s hs).1) fun s hs u hu' he' => ?_, two _ hs.2 (fun s hs => (hq s hs).1) fun s hs u hu' he' => ?_⟩
    · obtain ⟨_, b2, _, b4⟩ := hp s hs
      obtain ⟨_, c2, _, c4⟩ := hp u hu'
      rw [he', c4] at b4
      have : s.1 ∈ with3 (node l ((k : Int) + 1)).ty u.1 := by rw [b4]; exact with3_mem.2 (.inl rfl)
      rcases with3_mem.1 this with e | e
      · exact e
      · exact absurd e.1 b2
    · obtain ⟨_, b2, _, b4⟩ := hq s hs
      obtain ⟨_, c2, _, c4⟩ := hq u hu'
      rw [he', c4] at b4
      rcases Decidable.em (u.1 = s.1) with e | e
      · exact e.symm
      · have : u.1 ∈ without3 (node l ((k : Int) + 1)).ty s.1 := without3_mem.2 ⟨c2, e⟩
        rw [← b4] at this
        exact absurd rfl (without3_mem.1 this).2
theorem RG.small {G : PG} (h : RG G) (h1 : G.nodes.length ≤ 1000000) (h2 : G.slots.length ≤ 1000000) : SmallG G := by
  refine ⟨⟨h1, fun x hx => ?_⟩, h2, fun e he => ?_⟩
  · have := h.nodes.rows x hx; omega
  · have := checkL_all12 h.look e he; omega
end Go.Eng
namespace Go.Eng
open Go Go.RowKit Go.Proofs
set_option maxRecDepth 10000
/-- All but the blocks of a stretch is kept. -/
structure KeepOut (lo hi : Nat) (w w' : World) : Prop where
  os : w'.os = w.os
  tape : w'.tape = w.tape
  output : w'.output = w.output
  size : w.heap.size ≤ w'.heap.size
  block : ∀ b, b < w.heap.size → ¬ (lo ≤ b ∧ b < hi) → w'.heap[b]? = w.heap[b]?
theorem KeepOut.refl (lo hi : Nat) (w : World) : KeepOut lo hi w w := ⟨rfl, rfl, rfl, Nat.le_refl _, fun _ _ _ => rfl⟩
theorem KeepOut.trans {lo hi : Nat} {a b c : World} (h : KeepOut lo hi a b) (k : KeepOut lo hi b c) : KeepOut lo hi a c :=
  ⟨k.os.trans h.os, k.tape.trans h.tape, k.output.trans h.output, Nat.le_trans h.size k.size, fun x hx hn => (k.block x (by have := h.size; omega) hn).trans (h.block x hx hn)⟩
theorem KeepOut.of_below {lo hi : Nat} {w w' : World} (h : Below w.heap.size w w') : KeepOut lo hi w w' := ⟨h.os, h.tape, h.output, h.size, fun b hb _ => h.block b hb⟩
theorem KeepOut.set {lo hi g : Nat} (w : World) (h1 : lo ≤ g) (h2 : g < hi) (j : Nat) (v : Value) : KeepOut lo hi w (w.setCell ⟨g, j, none⟩ v) :=
  ⟨rfl, rfl, rfl, by simp, fun b hb hn => Below.heap_setCell _ _ _ _ (by rintro rfl; exact hn ⟨h1, h2⟩)⟩
theorem KeepOut.below {lo hi : Nat} {w w' : World} (h : KeepOut lo hi w w') (hlo : lo ≤ w.heap.size) : Below lo w w' := ⟨h.os, h.tape, h.output, h.size, fun b hb => h.block b (by omega) (by omega)⟩
/-- A row of so many cells lies in a stretch, whatever it holds. -/
def Lies (lo hi : Nat) (w : World) (t : TypeId) (k : Nat) (a : Option Addr) (n : Nat) : Prop := (a = none ∧ n = 0) ∨ ∃ g cs, a = some ⟨g, 0, none⟩ ∧ lo ≤ g ∧ g < hi ∧ w.heap[g]? = some (.cells cs t (0, 0)) ∧ n * k ≤ cs.size
theorem Own.lies {α : Type} {enc : α → List Value} {k : Nat} {e : TypeId} {lo hi : Nat} {w : World} {a : Option Addr} {n c : Nat} {l : List α} (h : Own enc k e lo w a n c l) (hh : w.heap.size ≤ hi) : Lies lo hi w e k a n := by
  obtain ⟨h1, h2, h3, h4⟩ := h
  rcases h4 with ⟨ha, hc⟩ | ⟨g, cs, ha, hlo, hg, hs, ht⟩
  · exact .inl ⟨ha, by omega⟩
  · exact .inr ⟨g, cs, ha, hlo, Nat.lt_of_lt_of_le (blk_lt hg) hh, hg, Nat.le_trans (Nat.mul_le_mul_right _ h2) hs⟩
theorem Lies.below {lo hi : Nat} {w w' : World} {t : TypeId} {k : Nat} {a : Option Addr} {n : Nat} (h : Lies lo hi w t k a n) (hB : Below w.heap.size w w') : Lies lo hi w' t k a n :=
  h.imp id fun ⟨g, cs, h1, h2, h3, h4, h5⟩ => ⟨g, cs, h1, h2, h3, blk_below h4 hB (blk_lt h4), h5⟩
theorem Lies.set {lo hi : Nat} {w : World} {t : TypeId} {k : Nat} {a : Option Addr} {n : Nat} (h : Lies lo hi w t k a n) {b j : Nat} (v : Value) : Lies lo hi (w.setCell ⟨b, j, none⟩ v) t k a n := by
  refine h.imp id fun ⟨g, cs, h1, h2, h3, h4, h5⟩ => ?_
  by_cases hb : g = b
  · subst hb
    exact ⟨g, _, h1, h2, h3, blk_set h4 j v, by simpa using h5⟩
  · exact ⟨g, cs, h1, h2, h3, blk_far h4 hb v, h5⟩
/-- A cell of it. -/
theorem Lies.cell {lo hi : Nat} {w : World} {t : TypeId} {k : Nat} {a : Option Addr} {n : Nat} (h : Lies lo hi w t k a n) {i j : Nat} (hi' : i < n) (hj : j < k) :
    ∃ g cs, a = some ⟨g, 0, none⟩ ∧ lo ≤ g ∧ g < hi ∧ w.heap[g]? = some (.cells cs t (0, 0)) ∧ (w.cell? ⟨g, i * k + j, none⟩).isSome = true ∧ w.frozen? ⟨g, i * k + j, none⟩ = false := by
  rcases h with ⟨_, h0⟩ | ⟨g, cs, h1, h2, h3, h4, h5⟩
  · omega
  · refine ⟨g, cs, h1, h2, h3, h4, blk_some h4 ?_, blk_free h4 _⟩
    have : (i + 1) * k ≤ n * k := Nat.mul_le_mul_right _ hi'
    rw [Nat.add_mul] at this; omega
/-- What holds while a graph is written over. -/
structure Spo (lo hi : Nat) (W0 : World) (b : Nat) (bv : Array Value) (na : Option Addr) (nn nc : Nat) (rs : List RNode) (sa : Option Addr) (sn : Nat) (W : World) : Prop where
  keep : KeepOut lo hi W0 W
  box : W.heap[b]? = some (.cells bv 27)
  row : Own encNode 4 56 lo W na nn nc rs
  ids : ∀ r ∈ rs, Lies lo hi W 32 1 r.ty.a r.ty.n
  plus : ∀ r ∈ rs, Lies lo hi W 71 2 r.plus.a r.plus.n
  less : ∀ r ∈ rs, Lies lo hi W 71 2 r.less.a r.less.n
  slots : Lies lo hi W 94 3 sa sn
theorem Spo.set {lo hi : Nat} {W0 : World} {b : Nat} {bv : Array Value} {na : Option Addr} {nn nc : Nat} {rs : List RNode} {sa : Option Addr} {sn : Nat} {W : World} (h : Spo lo hi W0 b bv na nn nc rs sa sn W) {g : Nat} {cs : Array Value} {t : TypeId} (hg : W.heap[g]? = some (.cells cs t (0, 0))) (h1 : lo ≤ g) (h2 : g < hi) (ht : t ≠ 56) (ht2 : 27 ≠ t) (j : Nat) (v : Value) :
    Spo lo hi W0 b bv na nn nc rs sa sn (W.setCell ⟨g, j, none⟩ v) where
  keep := h.keep.trans (KeepOut.set W h1 h2 j v)
  box := blk_far h.box (by rintro rfl; rw [h.box] at hg; cases hg; exact ht2 rfl) v
  row := h.row.far hg ht v
  ids r hr := (h.ids r hr).set v
  plus r hr := (h.plus r hr).set v
  less r hr := (h.less r hr).set v
  slots := h.slots.set v
end Go.Eng
namespace Go.Eng
open Go Go.RowKit Go.Proofs
set_option maxRecDepth 10000
/-- An id of a component, of a pair; the error. -/
def comE (n : Int) : Int × Int := if is1 n 1 24 = true then (packed2 4611686018427387904 0 n, 0) else (0, 2)
def pairE (r t : Int) : Int × Int := if is1 r 0 1048578 = true ∧ is1 t 0 1048578 = true then (packed2 9223372036854775808 r t, 0) else (0, 2)
theorem k_iComponent (n : Int) {w : World} : Cl Tryz.prog 44 #[.int .i64 n] w (Gives w (.tuple #[.int .u64 (comE n).1, .int .i64 (comE n).2])) := by
  refine c44 _ ?_
  rintro _ w1 rfl h1
  have B1 : Below w.heap.size w w1 := by rw [h1]; exact alloc_below _ _
  have r1 : Row encInt w1 (some ⟨w.heap.size, 0, none⟩) 1 1 [n] := by rw [h1]; exact row_new enInt w 3 [n] (by simp)
  refine (k_iwithin 1 24 r1).is ⟨_, rfl, cnd (fun g => ?_) fun g => ?_⟩
  · have : is1 n 1 24 = false := by simpa using g
    exact ⟨by simp [comE, this], B1⟩
  · have : is1 n 1 24 = true := by simpa using g
    exact (k_ipacked _ _ _).is ⟨_, rfl, by simp [comE, this], B1⟩
theorem k_iPair (r t : Int) {w : World} : Cl Tryz.prog 45 #[.int .i64 r, .int .i64 t] w (Gives w (.tuple #[.int .u64 (pairE r t).1, .int .i64 (pairE r t).2])) := by
  refine c45 _ _ ?_
  rintro _ w1 rfl h1
  have B1 : Below w.heap.size w w1 := by rw [h1]; exact alloc_below _ _
  have r1 : Row encInt w1 (some ⟨w.heap.size, 0, none⟩) 2 2 [r, t] := by rw [h1]; exact row_new enInt w 3 [r, t] (by simp)
  refine (k_iwithin 0 1048578 r1).is ⟨_, rfl, cnd (fun g => ?_) fun g => ?_⟩
  · have : ¬ (is1 r 0 1048578 = true ∧ is1 t 0 1048578 = true) := by
      rintro ⟨a, b⟩; simp [a, b] at g
    exact ⟨by simp [pairE, this], B1⟩
  · have : is1 r 0 1048578 = true ∧ is1 t 0 1048578 = true := by simpa using g
    exact (k_ipacked _ _ _).is ⟨_, rfl, by simp [pairE, this], B1⟩
/-- A graph in memory of its own. -/
def DG (lo : Nat) (w : World) (a : Option Addr) (n c : Nat) (sa : Option Addr) (sn sc : Nat) (G : PG) : Prop := DNodes lo w a n c G.nodes ∧ DEnts lo w sa sn sc G.slots
section
variable {lo : Nat} {w w' : World} {a sa : Option Addr} {n c sn sc : Nat} {G : PG}
theorem DG.below (h : DG lo w a n c sa sn sc G) (hB : Below w.heap.size w w') : DG lo w' a n c sa sn sc G := ⟨h.1.below hB, h.2.below hB⟩
theorem Grf.rng (h : Grf w a n c sa sn sc G) : RngG G := by
  constructor
  · obtain ⟨rs, _, h2⟩ := h.nodes
    intro x hx
    obtain ⟨i, hi, rfl⟩ := List.mem_iff_getElem.1 hx
    exact (h2.2 i (by have := h2.1; omega) hi).rng.1
  · obtain ⟨rs, _, h2⟩ := h.slots
    intro x hx
    obtain ⟨i, hi, rfl⟩ := List.mem_iff_getElem.1 hx
    exact (h2.2 i (by have := h2.1; omega) hi).rng.1
/-- A graph is put into a box of its own. -/
theorem box_grf {W : World} {e : TypeId} {K : Nat → World → Prop}
    (hK : ∀ w6 : World, w6.heap[W.heap.size]? = some (.cells #[.slice a n c, .slice sa sn sc] e (0, 0)) → Below W.heap.size W w6 → w6.heap.size = W.heap.size + 1 → K W.heap.size w6) :
    ∀ (b : Nat) (w5 : World), b = W.heap.size → w5 = W.alloc (.cells #[.slice none 0 0, .slice none 0 0] e) → ((w5.cell? (Addr.mk b 0 none)).isSome = true ∧ w5.frozen? (Addr.mk b 0 none) = false ∧ ((w5.cell? ((Addr.mk b 0 none).add 1)).isSome = true ∧ w5.frozen? ((Addr.mk b 0 none).add 1) = false ∧
    (∀ w6 : World, w6 = (w5.setCell (Addr.mk b 0 none) (.slice a n c)).setCell ((Addr.mk b 0 none).add 1) (.slice sa sn sc) → K b w6))) := by
  rintro b w5 hb h5
  have s5 : w5.heap[b]? = some (.cells #[.slice none 0 0, .slice none 0 0] e) := by rw [h5, hb]; exact blk_new _
  refine ⟨blk_some s5 (by simp), blk_free s5 _, blk_some s5 (j := 1) (by simp), blk_free s5 1, ?_⟩
  rintro w6 h6
  have s6 : w6.heap[b]? = some (.cells #[.slice a n c, .slice sa sn sc] e (0, 0)) := by rw [h6]; exact blk_set (blk_set s5 0 _) 1 _
  have B6 : Below W.heap.size W w6 := by
    subst h6; subst h5; subst hb
    exact ((alloc_below W _).setCell (Nat.le_refl _) _).setCell (Nat.le_refl _) _
  have z6 : w6.heap.size = W.heap.size + 1 := by rw [h6, size_set, size_set, h5, size_alloc]
  rw [hb]
  rw [hb] at s6
  exact hK w6 s6 B6 z6
end
theorem place_newL (t : List Int) : place newL t < 0 := by
  rcases place_lt (l := newL) (t := t) with h | ⟨k, hk, _, h, _⟩
  · exact h
  · rw [slot_eq hk] at h
    have : newL[k] = blankE := List.getElem_replicate _
    rw [this] at h; cases h
theorem all7_newL : all7 Entry.st Entry.ty newL = [] := by rfl
theorem newG_rg : RG newG := by
  obtain ⟨_, h2, h3⟩ := put_ok (l := newL) (t := []) (num := 1) new_ok.1 rfl (by decide) (place_newL []) (by rw [all7_newL]; decide)
  refine ⟨(nodes12_iff ?_).1 rfl, h2, ?_⟩
  · intro x hx; simp only [newG, List.mem_singleton] at hx; subst hx; intro y hy; cases hy
  · rw [new_ok.2] at h3; exact h3
theorem newG_len : newG.slots.length ≤ 16004 := by
  have e : putL newL [] 1 = (laidL (all7 Entry.st Entry.ty newL ++ [⟨1, [], 1⟩]) (manyOf ((all7 Entry.st Entry.ty newL).length + 1)), 0) := by
    have := place_newL []
    simp only [putL, new_ok.1, show right2 [] = true from rfl, Bool.true_eq_false, if_false, show ¬ (1 : Int) < 0 by decide, show ¬ 0 ≤ place newL [] by omega, all7_newL, List.length_nil, show ¬ (0 : Nat) = 4000 by decide]
  show (putL newL [] 1).1.length ≤ _
  rw [e]
  show (laidL _ _).length ≤ _
  rw [laidL_len, all7_newL]; decide
structure Known (G : PG) (A : List Node) : Prop where
  nodes : G.nodes = A
  rg : RG G
  slots : G.slots.length ≤ 16004
theorem Known.small {G : PG} {A : List Node} (h : Known G A) (hA : A.length ≤ 1000000) : SmallG G := h.rg.small (by rw [h.nodes]; exact hA) (by have := h.slots; omega)
theorem Known.go {G : PG} {A B : List Node} (h : Known G A) (hr : RngG G) {id : Int} (hid : 0 ≤ id ∧ id < 18446744073709551616) {n m : Int} {plus : Bool} (hB : go12 A n id plus = (B, m, 0)) :
    Known (goneG (turn2 plus) G n id plus).1 B ∧ (goneG (turn2 plus) G n id plus).2 = (m, 0) := by
  have hA := go_alike h.rg hr hid n plus
  have h1 := hA.nodes; have h2 := hA.rest; have h3 := hA.len
  rw [h.nodes, hB] at h1 h2
  have h4 := h.slots
  exact ⟨⟨h1, (hA.ok (by rw [h2])).1, by omega⟩, h2⟩
theorem Known.drop {G : PG} {A B : List Node} (h : Known G A) {m : Int} (hB : drop12 A m = (B, 0)) : Known (dropG G m).1 B ∧ (dropG G m).2 = 0 := by
  obtain ⟨h1, h2, h3, _, h5⟩ := drop_alike h.rg m
  rw [h.nodes, hB] at h1 h2
  have h4 := h.slots
  exact ⟨⟨h1, (h5 h2).1, by omega⟩, h2⟩
end Go.Eng
namespace Go.Eng
open Go Go.RowKit Go.Proofs
set_option maxRecDepth 10000
def c0 : Int := 4611686018427387907
def p0 : Int := 9223372054034644997
theorem com3 : comE 3 = (c0, 0) := by decide +kernel
theorem pair45 : pairE 4 5 = (p0, 0) := by decide +kernel
def A1 : List Node := [⟨true, [], [(c0, 2)], []⟩, ⟨true, [c0], [], [(c0, 1)]⟩]
def A2 : List Node := [⟨true, [], [(c0, 2)], []⟩, ⟨true, [c0], [(p0, 3)], [(c0, 1)]⟩, ⟨true, [c0, p0], [], [(p0, 2)]⟩]
def A3 : List Node := [⟨true, [], [(c0, 2)], []⟩, ⟨true, [c0], [(p0, 3)], [(c0, 1)]⟩, ⟨true, [c0, p0], [], [(c0, 4), (p0, 2)]⟩, ⟨true, [p0], [(c0, 3)], []⟩]
def A4 : List Node := [⟨true, [], [], []⟩, ⟨false, [], [], []⟩, ⟨true, [c0, p0], [], []⟩]
theorem goA1 : go12 [node1] 1 c0 true = (A1, 2, 0) := by decide +kernel
theorem goA2 : go12 A1 2 p0 true = (A2, 3, 0) := by decide +kernel
theorem goA3 : go12 A2 3 c0 false = (A3, 4, 0) := by decide +kernel
theorem dropA4 : drop12 A2 2 = (A4, 0) := by decide +kernel
theorem usedA4 : usedN A4 = [1, 3] := by decide +kernel
theorem usedA2 : usedN A2 = [1, 2, 3] := by decide +kernel
theorem c0_rng : 0 ≤ c0 ∧ c0 < 18446744073709551616 := by decide
theorem p0_rng : 0 ≤ p0 ∧ p0 < 18446744073709551616 := by decide
theorem k_wWakes {w : World} : Cl Tryz.prog 8 #[] w (Gives w (.bool true)) := by
  refine c8 ?_
  unfold V8
  refine (k_iComponent 3).gives fun w1 B1 => ⟨_, _, rfl, (k_iPair 4 5).gives fun w2 B2 => ⟨_, _, rfl, k_gNew.mono ?_⟩⟩
  rw [com3, pair45]
  dsimp only
  rintro _ w3 ⟨a, n, c, sa, sn, sc, rfl, hn0, he0, B3⟩
  have g0 : Grf w3 a n c sa sn sc newG := ⟨hn0.nodes, he0.ents⟩
  have K0 : Known newG [node1] := ⟨rfl, newG_rg, newG_len⟩
  have B03 : Below w.heap.size w w3 := (B1.trans (B2.mono B1.size)).trans (B3.mono (B1.trans (B2.mono B1.size)).size)
  refine ⟨_, _, _, _, _, _, rfl, (k_gPlus g0 (K0.small (by decide)) (by simp [I64]) c0_rng).mono ?_⟩
  obtain ⟨K1, e1⟩ := K0.go g0.rng c0_rng goA1
  rintro _ w4 ⟨a1, n1, c1, sa1, sn1, sc1, rfl, hn1, he1, B4⟩
  rw [show (goneG with2e newG 1 c0 true).2 = (2, 0) from e1]
  have g1 : Grf w4 a1 n1 c1 sa1 sn1 sc1 (goneG (turn2 true) newG 1 c0 true).1 := ⟨hn1.nodes, he1.ents⟩
  have B04 := B03.trans (B4.mono B03.size)
  clear hn1 he1 e1 g0 K0
  generalize (goneG (turn2 true) newG 1 c0 true).1 = G1 at *
  refine ⟨_, _, _, _, _, _, _, _, rfl, box_grf fun w6 q6 B6 z6 => ⟨_, _, _, _, _, _, blk_cell q6 0, blk_cell q6 1, ?_⟩⟩
  have g1' := g1.below B6
  have B06 := B04.trans (B6.mono B04.size)
  refine (k_gPlus g1' (K1.small (by decide)) (by simp [I64]) p0_rng).mono ?_
  obtain ⟨K2, e2⟩ := K1.go g1.rng p0_rng goA2
  rintro _ w7 ⟨a2, n2, c2, sa2, sn2, sc2, rfl, hn2, he2, B7⟩
  rw [show (goneG with2e G1 2 p0 true).2 = (3, 0) from e2]
  have g2 : Grf w7 a2 n2 c2 sa2 sn2 sc2 (goneG (turn2 true) G1 2 p0 true).1 := ⟨hn2.nodes, he2.ents⟩
  have B07 := B06.trans (B7.mono B06.size)
  clear hn2 he2 e2 g1 g1' K1 q6
  generalize (goneG (turn2 true) G1 2 p0 true).1 = G2 at *
  refine ⟨_, _, _, _, _, _, _, _, rfl, box_grf fun w9 q9 B9 z9 => ⟨_, _, _, _, _, _, blk_cell q9 0, blk_cell q9 1, ?_⟩⟩
  have g2 := g2.below B9
  have B09 := B07.trans (B9.mono B07.size)
  refine (k_gLess g2 (K2.small (by decide)) (by simp [I64]) c0_rng).mono ?_
  obtain ⟨K3, e3⟩ := K2.go (plus := false) g2.rng c0_rng goA3
  rintro _ w10 ⟨a3, n3, c3, sa3, sn3, sc3, rfl, hn3, he3, B10⟩
  rw [show (goneG without2e G2 3 c0 false).2 = (4, 0) from e3]
  have B010 := B09.trans (B10.mono B09.size)
  have q10 := blk_below q9 B10 (blk_lt q9)
  have g2 := g2.below B10
  clear hn3 he3 e3 K3 q9
  refine ⟨_, _, _, _, _, _, _, _, rfl, box_grf fun w12 q12 B12 z12 => ?_⟩
  have q10 := blk_below q10 B12 (blk_lt q10)
  have g2 := g2.below B12
  have B012 := B010.trans (B12.mono B010.size)
  refine ⟨_, _, _, _, _, _, blk_cell q10 0, blk_cell q10 1, (k_gDrop g2 (K2.small (by decide)) (by simp [I64])).mono ?_⟩
  obtain ⟨K4, e4⟩ := K2.drop dropA4
  rintro _ w13 ⟨a4, n4, c4, sa4, sn4, sc4, rfl, hn4, he4, B13⟩
  rw [e4]
  have g4 : Grf w13 a4 n4 c4 sa4 sn4 sc4 (dropG G2 2).1 := ⟨hn4.nodes, he4.ents⟩
  have q10 := blk_below q10 B13 (blk_lt q10)
  have g2 := g2.below B13
  have B013 := B012.trans (B13.mono B012.size)
  clear hn4 he4 e4 q12
  generalize (dropG G2 2).1 = G4 at *
  refine ⟨_, _, _, _, _, _, _, rfl, box_grf fun w15 q15 B15 z15 => ?_⟩
  have q10 := blk_below q10 B15 (blk_lt q10)
  have g2 := g2.below B15
  have g4 := g4.below B15
  have B015 := B013.trans (B15.mono B013.size)
  refine ⟨_, _, _, _, _, _, blk_cell q15 0, blk_cell q15 1, (k_gUsed g4 (K4.small (by decide))).mono ?_⟩
  rw [(checkG_rg.2 K4.rg), if_pos rfl, K4.nodes, usedA4]
  rintro _ w16 ⟨ua, un, uc, rfl, ho, B16⟩
  have B016 := B015.trans (B16.mono B015.size)
  have q10 := blk_below q10 B16 (blk_lt q10)
  have g2 := g2.below B16
  clear q15 g4
  refine ⟨_, _, _, rfl, ?_⟩
  rintro _ w17 rfl h17
  have B17 : Below w16.heap.size w16 w17 := by rw [h17]; exact alloc_below _ _
  have r17 : Row encInt w17 (some ⟨w16.heap.size, 0, none⟩) 2 2 [1, 3] := by rw [h17]; exact row_new enInt w16 3 [1, 3] (by simp)
  have B017 := B016.trans (B17.mono B016.size)
  have q10 := blk_below q10 B17 (blk_lt q10)
  have g2 := g2.below B17
  clear h17
  refine (k_EqInts (ho.row.below B17) r17).tells fun w18 Q18 => ⟨_, rfl, ?_⟩
  have B18 := Q18.below w17.heap.size
  have B018 := B017.trans (B18.mono B017.size)
  have q10 := blk_below q10 B18 (blk_lt q10)
  have g2 := g2.below B18
  refine ⟨_, _, _, _, _, _, blk_cell q10 0, blk_cell q10 1, (k_gUsed g2 (K2.small (by decide))).mono ?_⟩
  rw [(checkG_rg.2 K2.rg), if_pos rfl, K2.nodes, usedA2]
  rintro _ w19 ⟨ua2, un2, uc2, rfl, ho2, B19⟩
  have B019 := B018.trans (B19.mono B018.size)
  refine ⟨_, _, _, rfl, ?_⟩
  rintro _ w20 rfl h20
  have B20 : Below w19.heap.size w19 w20 := by rw [h20]; exact alloc_below _ _
  have r20 : Row encInt w20 (some ⟨w19.heap.size, 0, none⟩) 3 3 [1, 2, 3] := by rw [h20]; exact row_new enInt w19 3 [1, 2, 3] (by simp)
  have B020 := B019.trans (B20.mono B019.size)
  refine (k_EqInts (ho2.row.below B20) r20).tells fun w21 Q21 => ⟨_, rfl, rfl, ?_⟩
  exact B020.trans ((Q21.below w20.heap.size).mono B020.size)
end Go.Eng
namespace Go.Eng
open Go Go.RowKit Go.Proofs
set_option maxRecDepth 10000
structure Fits (G : PG) : Prop where
  n : G.nodes.length ≤ 30
  rows : ∀ x ∈ G.nodes, x.ty.length ≤ 14 ∧ x.plus.length ≤ 20 ∧ x.less.length ≤ 20
  s : G.slots.length ≤ 128
  ty : ∀ e ∈ G.slots, e.ty.length ≤ 14
theorem Fits.small {G : PG} (h : Fits G) : SmallG G := by
  refine ⟨⟨by have := h.n; omega, fun x hx => ?_⟩, by have := h.s; omega, fun e he => by have := h.ty e he; omega⟩
  have := h.rows x hx; omega
theorem fits_own (G : PG) : Fits (ownW G) := by
  refine ⟨by simp [ownW]; omega, fun x hx => ?_, by simp [ownW]; omega, fun e he => ?_⟩
  · simp only [ownW, List.mem_map] at hx
    obtain ⟨y, _, rfl⟩ := hx
    simp only [cutN, List.length_take]; omega
  · simp only [ownW, List.mem_map] at he
    obtain ⟨y, _, rfl⟩ := he
    simp only [cutE, List.length_take]; omega
theorem Fits.own {G : PG} (h : Fits G) : ownW G = G := by
  have e1 : (G.nodes.take 30).map cutN = G.nodes := by
    rw [List.take_of_length_le h.n]
    conv => rhs; rw [← List.map_id G.nodes]
    refine List.map_congr_left fun x hx => ?_
    obtain ⟨h1, h2, h3⟩ := h.rows x hx
    show cutN x = x
    unfold cutN
    rw [List.take_of_length_le h1, List.take_of_length_le h2, List.take_of_length_le h3]
  have e2 : (G.slots.take 128).map cutE = G.slots := by
    rw [List.take_of_length_le h.s]
    conv => rhs; rw [← List.map_id G.slots]
    refine List.map_congr_left fun e he => ?_
    show cutE e = e
    unfold cutE
    rw [List.take_of_length_le (h.ty e he)]
  unfold ownW; rw [e1, e2]
structure PTurn where
  kind : Int
  node : Int
  id : Int
  ty : List Int
deriving Inhabited
/-- Both cells of a box are put. -/
theorem put2 {W : World} {b : Nat} {v0 v1 : Value} {t : TypeId} {a a2 : Option Addr} {n c n2 c2 : Nat} (q : W.heap[b]? = some (.cells #[v0, v1] t (0, 0))) {K : World → Prop}
    (hK : ∀ W', W'.heap[b]? = some (.cells #[.slice a n c, .slice a2 n2 c2] t (0, 0)) → (∀ g, g ≠ b → W'.heap[g]? = W.heap[g]?) → Below b W W' → W'.heap.size = W.heap.size → W' = (W.setCell ⟨b, 0, none⟩ (.slice a n c)).setCell ⟨b, 1, none⟩ (.slice a2 n2 c2) → K W') :
    ((W.cell? (Addr.mk b 0 none)).isSome = true ∧ W.frozen? (Addr.mk b 0 none) = false ∧ ((W.cell? ((Addr.mk b 0 none).add 1)).isSome = true ∧ W.frozen? ((Addr.mk b 0 none).add 1) = false ∧
    (∀ w4 : World, w4 = (W.setCell (Addr.mk b 0 none) (.slice a n c)).setCell ((Addr.mk b 0 none).add 1) (.slice a2 n2 c2) → K w4))) := by
  refine ⟨blk_some q (by simp), blk_free q _, blk_some q (j := 1) (by simp), blk_free q 1, ?_⟩
  rintro w4 h4
  refine hK w4 (by rw [h4]; exact blk_set (blk_set q 0 _) 1 _) (fun g hg => ?_) ?_ ?_ h4
  · rw [h4]; exact (Below.heap_setCell _ _ _ _ hg).trans (Below.heap_setCell _ _ _ _ hg)
  · rw [h4]; exact ((Below.refl b W).setCell (Nat.le_refl _) _).setCell (Nat.le_refl _) _
  · rw [h4, size_set, size_set]
theorem DG.farB {lo : Nat} {w : World} {a sa : Option Addr} {n c sn sc : Nat} {G : PG} (h : DG lo w a n c sa sn sc G) {b : Nat} {cs : Array Value} {fr : Nat × Nat} (hb : w.heap[b]? = some (.cells cs 27 fr)) {j : Nat} (v : Value) : DG lo (w.setCell ⟨b, j, none⟩ v) a n c sa sn sc G :=
  ⟨h.1.farB hb (by decide) (by decide) (by decide) v, h.2.farB hb (by decide) (by decide) v⟩
theorem Alike.says {G : PG} {r : PG × Int × Int} {q : List Node × Int × Int} {t : List Int} (h : Alike G r q t) (hr : RngN r.1.nodes) (hl : G.slots.length ≤ 1000000) : SaysP r.1 q.1 ∧ (r.2.2 = 0 → Right12 r.1) ∧ r.1.slots.length ≤ 1000000 ∧ q.1.length ≤ G.nodes.length + 1 := by
  have h3 := h.len
  refine ⟨?_, fun he => ?_, by omega, by rw [← h.nodes]; exact h3.2⟩
  · rw [← h.nodes]
    by_cases he : r.2.2 = 0
    · exact (h.ok he).1.says hr (by omega)
    · rw [(h.err he).1]; exact says_nil
  · have hR := (h.ok he).1
    exact ⟨(nodes12_iff hr).2 hR.nodes, ((hR.says hr (by omega)).2.2 (by have := hR.nodes.pos; omega)).1, ((hR.says hr (by omega)).2.2 (by have := hR.nodes.pos; omega)).2⟩
end Go.Eng
namespace Go.Eng
open Go Go.RowKit Go.Proofs
set_option maxRecDepth 10000
end Go.Eng
namespace Go.Eng
open Go Go.RowKit Go.Proofs
theorem cells_get {w : World} {a : Addr} {n : Nat} {cs : List Value} (h : w.cells? 0 a n = some cs) : cs.length = n ∧ ∀ i, i < n → w.cell? (a.add i) = cs[i]? := by
  unfold World.cells? at h
  rw [if_pos (Nat.zero_le _)] at h
  have h1 := mapM_some_length h
  rw [List.length_range] at h1
  exact ⟨h1, fun i hi => mapM_some_get h i i (by simp [hi])⟩
theorem list_of {α : Type} (p : Nat → α → Prop) : ∀ n, (∀ i, i < n → ∃ r, p i r) → ∃ rs : List α, rs.length = n ∧ ∀ i (h : i < rs.length), p i rs[i]
  | 0, _ => ⟨[], rfl, fun i h => by simp at h⟩
  | n + 1, h => by
    obtain ⟨rs, h1, h2⟩ := list_of p n fun i hi => h i (by omega)
    obtain ⟨r, hr⟩ := h n (by omega)
    refine ⟨rs ++ [r], by simp [h1], fun i hi => ?_⟩
    by_cases hin : i < rs.length
    · rw [List.getElem_append_left hin]; exact h2 i hin
    · have : i = n := by simp at hi; omega
      subst this
      rw [List.getElem_append_right (by omega)]; simpa using hr
section
variable {P : Program} {H : Type} {enc : TypeId × Value → H} {w : World} {sp : Nat → Bool} {held : Bool}
/-- What is asked of a cell's reading. -/
def Opens (P : Program) (enc : TypeId × Value → H) (w : World) (sp : Nat → Bool) (held : Bool) (t : TypeId) (G : List Value → Prop) : Prop :=
  ∀ fuel cs x, DataW.trod enc P w 0 sp held fuel t cs = some x → G cs
theorem opens_int {t : TypeId} {k : IntKind} (ht : P.underlying t = some (.int k)) : Opens P enc w sp held t (fun cs => ∃ x : Int, cs = [.int k x] ∧ (Lit.int k x).wf = true) := by
  intro fuel cs x h
  obtain ⟨n, h1, _, h2⟩ := DataW.trod_int ht h
  exact ⟨n, h1, h2⟩
theorem opens_bool {t : TypeId} (ht : P.underlying t = some .bool) : Opens P enc w sp held t (fun cs => ∃ x : Bool, cs = [.bool x]) := by
  intro fuel cs x h
  obtain ⟨n, h1, _⟩ := DataW.trod_bool ht h
  exact ⟨n, h1⟩
theorem opens_slice {ρ : Type} {en : ρ → List Value} {k : Nat} {t e : TypeId} {Good : ρ → Prop} (ht : P.underlying t = some (.slice e)) (hk : P.cellsOf e = k) (E : En en k) (he : Opens P enc w sp held e (fun cs => ∃ r, cs = en r ∧ Good r)) :
    Opens P enc w sp held t (fun cs => ∃ h : Hd, cs = [h.v] ∧ ∃ rs, Row en w h.a h.n h.c rs ∧ ∀ r ∈ rs, Good r) := by
  intro fuel cs x h
  rcases DataW.trod_slice ht h with ⟨h1, _⟩ | ⟨a, len, cap, elems, rest, n, _, h1, _, _, hl, hc, hel, hget, _⟩
  · exact ⟨⟨none, 0, 0⟩, h1, [], Row.nil', by simp⟩
  · obtain ⟨rs, hrl, hr⟩ := list_of (fun i r => w.cells? 0 (a.add (i * k)) k = some (en r) ∧ Good r) len fun i hi => by
      have := hget i hi
      rw [hk, List.getElem?_eq_getElem (by omega)] at this
      obtain ⟨cs', hc1, hc2⟩ := Option.bind_eq_some_iff.1 this
      obtain ⟨r, rfl, hg⟩ := he _ _ _ hc2
      exact ⟨r, hc1, hg⟩
    refine ⟨⟨some a, len, cap⟩, h1, rs, ⟨⟨hrl.symm, .inr ⟨a, rfl, fun j hj => ?_⟩⟩, hl, (fun h => nomatch h), hc⟩, fun r hr' => ?_⟩
    · rw [length_flat E.len] at hj
      have hk0 : 0 < k := by
        rcases Nat.eq_zero_or_pos k with h0 | h0
        · rw [h0] at hj; omega
        · exact h0
      have hd : j / k < rs.length := (Nat.div_lt_iff_lt_mul hk0).2 hj
      have hm : j % k < k := Nat.mod_lt _ hk0
      have hj' : j / k * k + j % k = j := Nat.div_add_mod' j k
      obtain ⟨g1, _⟩ := hr _ hd
      have g2 := (cells_get g1).2 _ hm
      rw [add_add, hj'] at g2
      have g3 := flat_get E.len rs (j / k) (j % k) hd hm
      rw [hj'] at g3
      rw [g2, g3]
    · obtain ⟨i, hi, rfl⟩ := List.mem_iff_getElem.1 hr'
      exact (hr i hi).2
/-- A struct's fields: types and places. -/
def flds (P : Program) (t : TypeId) : Option (List (TypeId × Nat)) := match P.underlying t with | some (.struct fs) => some (fs.toList.map fun f => (f.type, f.offset)) | _ => none
theorem opens_struct {t : TypeId} {L : List (TypeId × Nat)} (h : flds P t = some L) : Opens P enc w sp held t (fun cs => cs.length = P.cellsOf t ∧ ∀ (i : Nat) (ty : TypeId) (off : Nat), L[i]? = some (ty, off) → ∃ fuel x, DataW.trod enc P w 0 sp held fuel ty ((cs.drop off).take (P.cellsOf ty)) = some x) := by
  intro fuel cs x hx
  unfold flds at h
  split at h
  · rename_i fs hfs
    obtain ⟨xs, n, _, _, hl, hlen, hget⟩ := DataW.trod_struct hfs hx
    refine ⟨hl, fun i ty off hi => ?_⟩
    simp only [Option.some.injEq] at h
    rw [← h, List.getElem?_map] at hi
    obtain ⟨f, hf, he⟩ := Option.map_eq_some_iff.1 hi
    simp only [Prod.mk.injEq] at he
    obtain ⟨rfl, rfl⟩ := he
    have hf' : fs[i]? = some f := by simpa using hf
    have := hget i f hf'
    have hil : i < xs.length := by rw [hlen]; exact (Array.getElem?_eq_some_iff.1 hf').1
    rw [List.getElem?_eq_getElem hil] at this
    exact ⟨_, _, this⟩
  · cases h
theorem struct_agg {r : Reach} {b0 : Nat} {t : TypeId} {v : Value} {L : List (TypeId × Nat)} (h : flds P t = some L) (hv : Value.okWide P w r b0 t v) : ∃ cs, v = .agg cs := by
  unfold flds at h
  split at h
  · rename_i fs hfs
    obtain ⟨cs, h1, _⟩ := WideShapes.okWide_struct hfs hv
    exact ⟨cs, h1⟩
  · cases h
end
theorem i64_wf {n : Int} (h : (Lit.int .i64 n).wf = true) : I64 n := by
  simp [Lit.wf, IntKind.min, IntKind.max, IntKind.signed, IntKind.bits] at h
  unfold I64; omega
theorem u64_wf {n : Int} (h : (Lit.int .u64 n).wf = true) : 0 ≤ n ∧ n < 18446744073709551616 := by
  simp [Lit.wf, IntKind.min, IntKind.max, IntKind.signed, IntKind.bits] at h
  omega
theorem len1 {α : Type} {l : List α} (h : l.length = 1) : ∃ a, l = [a] := by
  match l, h with
  | [a], _ => exact ⟨a, rfl⟩
theorem len2 {α : Type} {l : List α} (h : l.length = 2) : ∃ a b, l = [a, b] := by
  match l, h with
  | [a, b], _ => exact ⟨a, b, rfl⟩
theorem len3 {α : Type} {l : List α} (h : l.length = 3) : ∃ a b c, l = [a, b, c] := by
  match l, h with
  | [a, b, c], _ => exact ⟨a, b, c, rfl⟩
theorem len4 {α : Type} {l : List α} (h : l.length = 4) : ∃ a b c d, l = [a, b, c, d] := by
  match l, h with
  | [a, b, c, d], _ => exact ⟨a, b, c, d, rfl⟩
section
variable {H : Type} {enc : TypeId × Value → H} {w : World} {sp : Nat → Bool} {held : Bool}
theorem opens_id : Opens Tryz.prog enc w sp held 32 (fun cs => ∃ x : Int, cs = encId x ∧ 0 ≤ x ∧ x < 18446744073709551616) := by
  intro fuel cs x h
  obtain ⟨n, h1, h2⟩ := opens_int (by kernel_rfl) fuel cs x h
  exact ⟨n, h1, u64_wf h2⟩
theorem opens_i64 : Opens Tryz.prog enc w sp held 3 (fun cs => ∃ x : Int, cs = encInt x ∧ I64 x) := by
  intro fuel cs x h
  obtain ⟨n, h1, h2⟩ := opens_int (by kernel_rfl) fuel cs x h
  exact ⟨n, h1, i64_wf h2⟩
theorem opens_ids : Opens Tryz.prog enc w sp held 33 (fun cs => ∃ h : Hd, cs = [h.v] ∧ ∃ l, Row encId w h.a h.n h.c l ∧ Rng l) := opens_slice (by kernel_rfl) (by kernel_rfl) enId opens_id
theorem opens_step : Opens Tryz.prog enc w sp held 71 (fun cs => ∃ x : Stp, cs = encStp x ∧ 0 ≤ x.1 ∧ x.1 < 18446744073709551616 ∧ I64 x.2) := by
  intro fuel cs x h
  obtain ⟨hl, hf⟩ := opens_struct (show flds Tryz.prog 71 = some [(32, 0), (3, 1)] by kernel_rfl) fuel cs x h
  obtain ⟨a, b, rfl⟩ := len2 (hl.trans (show Tryz.prog.cellsOf 71 = 2 by kernel_rfl))
  obtain ⟨f0, x0, h0⟩ := hf 0 _ _ rfl
  obtain ⟨f1, x1, h1⟩ := hf 1 _ _ rfl
  rw [show Tryz.prog.cellsOf 32 = 1 by kernel_rfl] at h0
  rw [show Tryz.prog.cellsOf 3 = 1 by kernel_rfl] at h1
  obtain ⟨y, e0, r0⟩ := opens_id _ _ _ h0
  obtain ⟨z, e1, r1⟩ := opens_i64 _ _ _ h1
  simp [encId] at e0
  simp [encInt] at e1
  exact ⟨(y, z), by rw [e0, e1]; rfl, r0.1, r0.2, r1⟩
theorem opens_steps : Opens Tryz.prog enc w sp held 54 (fun cs => ∃ h : Hd, cs = [h.v] ∧ ∃ l : List Stp, Row encStp w h.a h.n h.c l ∧ ∀ s ∈ l, 0 ≤ s.1 ∧ s.1 < 18446744073709551616 ∧ I64 s.2) := opens_slice (by kernel_rfl) (by kernel_rfl) enStp opens_step
theorem opens_node : Opens Tryz.prog enc w sp held 56 (fun cs => ∃ r : RNode, cs = encNode r ∧ ∃ x, IsNode w r x) := by
  intro fuel cs x h
  obtain ⟨hl, hf⟩ := opens_struct (show flds Tryz.prog 56 = some [(4, 0), (33, 1), (54, 2), (54, 3)] by kernel_rfl) fuel cs x h
  obtain ⟨a, b, c, d, rfl⟩ := len4 (hl.trans (show Tryz.prog.cellsOf 56 = 4 by kernel_rfl))
  obtain ⟨f0, x0, h0⟩ := hf 0 _ _ rfl
  obtain ⟨f1, x1, h1⟩ := hf 1 _ _ rfl
  obtain ⟨f2, x2, h2⟩ := hf 2 _ _ rfl
  obtain ⟨f3, x3, h3⟩ := hf 3 _ _ rfl
  rw [show Tryz.prog.cellsOf 4 = 1 by kernel_rfl] at h0
  rw [show Tryz.prog.cellsOf 33 = 1 by kernel_rfl] at h1
  rw [show Tryz.prog.cellsOf 54 = 1 by kernel_rfl] at h2 h3
  obtain ⟨u, e0⟩ := opens_bool (by kernel_rfl) _ _ _ h0
  obtain ⟨hd1, e1, l1, r1, g1⟩ := opens_ids _ _ _ h1
  obtain ⟨hd2, e2, l2, r2, g2⟩ := opens_steps _ _ _ h2
  obtain ⟨hd3, e3, l3, r3, g3⟩ := opens_steps _ _ _ h3
  simp at e0 e1 e2 e3
  refine ⟨⟨u, hd1, hd2, hd3⟩, by rw [e0, e1, e2, e3]; rfl, ⟨u, l1, l2, l3⟩, rfl, r1, r2, r3, g1, fun s hs => ?_⟩
  rcases List.mem_append.1 hs with hs | hs
  · exact g2 s hs
  · exact g3 s hs
theorem opens_ent : Opens Tryz.prog enc w sp held 94 (fun cs => ∃ r : REnt, cs = encEnt r ∧ ∃ x, IsEnt w r x) := by
  intro fuel cs x h
  obtain ⟨hl, hf⟩ := opens_struct (show flds Tryz.prog 94 = some [(3, 0), (33, 1), (3, 2)] by kernel_rfl) fuel cs x h
  obtain ⟨a, b, c, rfl⟩ := len3 (hl.trans (show Tryz.prog.cellsOf 94 = 3 by kernel_rfl))
  obtain ⟨f0, x0, h0⟩ := hf 0 _ _ rfl
  obtain ⟨f1, x1, h1⟩ := hf 1 _ _ rfl
  obtain ⟨f2, x2, h2⟩ := hf 2 _ _ rfl
  rw [show Tryz.prog.cellsOf 3 = 1 by kernel_rfl] at h0 h2
  rw [show Tryz.prog.cellsOf 33 = 1 by kernel_rfl] at h1
  obtain ⟨y, e0, r0⟩ := opens_i64 _ _ _ h0
  obtain ⟨hd1, e1, l1, r1, g1⟩ := opens_ids _ _ _ h1
  obtain ⟨z, e2, r2⟩ := opens_i64 _ _ _ h2
  simp [encInt] at e0 e1 e2
  exact ⟨⟨y, hd1, z⟩, by rw [e0, e1, e2]; rfl, ⟨y, l1, z⟩, rfl, rfl, r1, g1, r0, r2⟩
theorem all2_of {ρ β : Type} {R : ρ → β → Prop} {rs : List ρ} (h : ∀ r ∈ rs, ∃ x, R r x) : ∃ l, All2 R rs l := by
  obtain ⟨l, hl, hr⟩ := list_of (fun i x => ∀ h : i < rs.length, R rs[i] x) rs.length fun i hi => by
    obtain ⟨x, hx⟩ := h _ (List.getElem_mem hi)
    exact ⟨x, fun _ => hx⟩
  exact ⟨l, hl.symm, fun i h1 h2 => hr i h2 h1⟩
theorem opens_nodes : Opens Tryz.prog enc w sp held 22 (fun cs => ∃ h : Hd, cs = [h.v] ∧ ∃ l, Nodes w h.a h.n h.c l) := by
  intro fuel cs x h
  obtain ⟨hd, e, rs, hr, hg⟩ := opens_slice (by kernel_rfl) (by kernel_rfl) enNode opens_node fuel cs x h
  obtain ⟨l, hl⟩ := all2_of hg
  exact ⟨hd, e, l, rs, hr, hl⟩
theorem opens_ents : Opens Tryz.prog enc w sp held 23 (fun cs => ∃ h : Hd, cs = [h.v] ∧ ∃ l, Ents w h.a h.n h.c l) := by
  intro fuel cs x h
  obtain ⟨hd, e, rs, hr, hg⟩ := opens_slice (by kernel_rfl) (by kernel_rfl) enEnt opens_ent fuel cs x h
  obtain ⟨l, hl⟩ := all2_of hg
  exact ⟨hd, e, l, rs, hr, hl⟩
theorem opens_lookup : Opens Tryz.prog enc w sp held 25 (fun cs => ∃ h : Hd, cs = [h.v] ∧ ∃ l, Ents w h.a h.n h.c l) := by
  intro fuel cs x h
  obtain ⟨hl, hf⟩ := opens_struct (show flds Tryz.prog 25 = some [(23, 0)] by kernel_rfl) fuel cs x h
  obtain ⟨a, rfl⟩ := len1 (hl.trans (show Tryz.prog.cellsOf 25 = 1 by kernel_rfl))
  obtain ⟨f0, x0, h0⟩ := hf 0 _ _ rfl
  rw [show Tryz.prog.cellsOf 23 = 1 by kernel_rfl] at h0
  exact opens_ents _ _ _ h0
theorem opens_graph : Opens Tryz.prog enc w sp held 27 (fun cs => ∃ h s : Hd, cs = [h.v, s.v] ∧ ∃ G, Grf w h.a h.n h.c s.a s.n s.c G) := by
  intro fuel cs x h
  obtain ⟨hl, hf⟩ := opens_struct (show flds Tryz.prog 27 = some [(22, 0), (25, 1)] by kernel_rfl) fuel cs x h
  obtain ⟨a, b, rfl⟩ := len2 (hl.trans (show Tryz.prog.cellsOf 27 = 2 by kernel_rfl))
  obtain ⟨f0, x0, h0⟩ := hf 0 _ _ rfl
  obtain ⟨f1, x1, h1⟩ := hf 1 _ _ rfl
  rw [show Tryz.prog.cellsOf 22 = 1 by kernel_rfl] at h0
  rw [show Tryz.prog.cellsOf 25 = 1 by kernel_rfl] at h1
  obtain ⟨hd, e0, l, r0⟩ := opens_nodes _ _ _ h0
  obtain ⟨sd, e1, s, r1⟩ := opens_lookup _ _ _ h1
  simp at e0 e1
  exact ⟨hd, sd, by rw [e0, e1], ⟨l, s⟩, r0, r1⟩
end
end Go.Eng
namespace Go.Proofs.YtfcnkaignjdpgaaGreat
open Go.ChangeShapes Go.WideShapes Go.ChangeAt Go.RowKit Go.Eng
theorem own : ownKnob Tryz.prog.godebug = none := by kernel_rfl
theorem laidOut : laidOutB Tryz.prog = true := by kernel_rfl
section
variable {H : Type} {enc : TypeId × Value → H}
set_option maxRecDepth 100000 in
theorem arg_graph {W : World} {r : Reach} {b0 : Nat} {sp : Nat → Bool} {held : Bool} {v : Value} {d : DataW H} {ps : List MemPlace} (hv : Value.okWide Tryz.prog W r b0 27 v) (h : DataW.Trod enc Tryz.prog W 0 sp held 27 v d ps) :
    ∃ (h s : Hd) (G : PG), v = .agg #[h.v, s.v] ∧ Grf W h.a h.n h.c s.a s.n s.c G := by
  obtain ⟨cs, rfl⟩ := struct_agg (show flds Tryz.prog 27 = some [(22, 0), (25, 1)] by kernel_rfl) hv
  obtain ⟨fuel, hf⟩ := h
  obtain ⟨hd, sd, e, G, hG⟩ := opens_graph _ _ _ hf
  refine ⟨hd, sd, G, ?_, hG⟩
  have : cs = #[hd.v, sd.v] := by
    apply Array.ext'
    simpa [Value.cells] using e
  rw [this]
end
end Go.Proofs.YtfcnkaignjdpgaaGreat
namespace Go.Eng
open Go Go.Proofs
set_option exponentiation.threshold 300
end Go.Eng
namespace Go.Eng
open Go Go.Proofs
set_option exponentiation.threshold 300
theorem N12.findSelf {l : List Node} (h : N12 l) {n : Int} (hn : isN l n = true) : findN l (node l n).ty = n := by
  obtain ⟨k, hk, rfl, hu, he⟩ := isN_node hn
  rw [he]
  obtain ⟨j, e, hji, hj, huj, htj⟩ := findN_self hk hu
  rw [e]
  refine h.uniq _ _ (isN_of hj huj) hn ?_
  rw [node_eq hj, he]; exact htj
theorem withS_there {r : List Stp} (h : (keys r).Pairwise (· < ·)) {id to : Int} (hm : (id, to) ∈ r) : withS r (id, to) = r := by
  have hk : id ∈ keys r := keys_mem.2 ⟨to, hm⟩
  rw [← putS_withS h fun _ => hm, putS, if_pos hk]
theorem RG.ofThere {G : PG} (h : RG G) {n : Int} (hn : isN G.nodes n = true) {t : List Int} (ht : (node G.nodes n).ty = t) : ofG G t = (G, n, 0) := by
  have hr := h.nodes.right n hn
  have hf := h.nodes.findSelf hn
  have hp : 0 < n := isN_ge hn
  rw [ht] at hr hf
  simp only [ofG, hr, find_alike h, hf, hp, decide_true, Bool.true_eq_false, if_true, if_false]
theorem lnk_there {l : List Node} (h : N12 l) {n m id : Int} (hn : isN l n = true) (hm : isN l m = true) (hne : n ≠ m) (hp : (id, m) ∈ (node l n).plus) (hl : (id, n) ∈ (node l m).less) : lnk l n m id = l := by
  refine nodes_ext (lnk_length _ _ _ _) fun k hk => ?_
  rw [node_lnk hn hm hne (by omega), withS_there (h.sorted n hn).1 hp, withS_there (h.sorted m hm).2 hl]
  split
  · rename_i e; rw [e]
  · split
    · rename_i e; rw [e]
    · rfl
theorem RG.goThere {A : PG} (h : RG A) {n m id : Int} (hn : isN A.nodes n = true) (hm : isN A.nodes m = true) (hid : id ∉ (node A.nodes n).ty) (ht : (node A.nodes m).ty = with3 (node A.nodes n).ty id) (hp : (id, m) ∈ (node A.nodes n).plus) (hl : (id, n) ∈ (node A.nodes m).less) :
    goneG with2e A n id true = (A, m, 0) ∧ goneG without2e A m id false = (A, n, 0) := by
  have hc := checkG_rg.2 h
  have hN := h.nodes
  have hrn := hN.right n hn
  have hrm := hN.right m hm
  have hs := (right2_iff.1 hrn).1
  have hsm := (right2_iff.1 hrm).1
  have hne : n ≠ m := by
    rintro rfl
    exact hid (by rw [ht]; exact with3_mem.2 (.inl rfl))
  have hin : id ∈ (node A.nodes m).ty := by rw [ht]; exact with3_mem.2 (.inl rfl)
  obtain ⟨a1, a2⟩ := addPL_lnk hN hn hm hid ht
  have hL := lnk_there hN hn hm hne hp hl
  constructor
  · have e : with2e (node A.nodes n).ty id = ((node A.nodes m).ty, 0) := by
      have hmay := (right2_iff.1 hrm).2.1 id hin
      have hlen := (right2_iff.1 hrm).2.2
      rw [ht] at hlen ⊢
      have : ¬ 12 < (with3 (node A.nodes n).ty id).length := by omega
      simp [with2e, hrn, hmay, with_alike hs, this]
    have hne2 : ¬ (node A.nodes m).ty = (node A.nodes n).ty := fun he => hid (by rw [← he]; exact hin)
    unfold goneG
    simp only [hc, hn, e, hne2, h.ofThere hm rfl, Bool.true_eq_false, if_true, if_false, ne_eq, not_true_eq_false]
    rw [a1, hL]
  · have e : without2e (node A.nodes m).ty id = ((node A.nodes n).ty, 0) := by
      simp only [without2e, hrm, hin, Bool.true_eq_false, if_false, not_true_eq_false]
      rw [without_alike hsm hin, ht, without_with hs hid]
    have hne2 : ¬ (node A.nodes n).ty = (node A.nodes m).ty := fun he => hid (by rw [he]; exact hin)
    unfold goneG
    simp only [hc, hm, e, hne2, h.ofThere hn rfl, Bool.true_eq_false, Bool.false_eq_true, if_true, if_false, ne_eq, not_true_eq_false]
    rw [a2, hL]
/-- One id more, and that less again. -/
theorem back_plain {H : PG} (hR : RG H) (hr : RngG H) {n id : Int} (hid : 0 ≤ id ∧ id < 18446744073709551616) (he : (goneG with2e H n id true).2.2 = 0) :
    isN H.nodes n = true ∧ with2e (node H.nodes n).ty id = (with3 (node H.nodes n).ty id, 0) ∧ RG (goneG with2e H n id true).1 ∧ isN (goneG with2e H n id true).1.nodes (goneG with2e H n id true).2.1 = true ∧ (node (goneG with2e H n id true).1.nodes (goneG with2e H n id true).2.1).ty = with3 (node H.nodes n).ty id ∧
    (goneG with2e H n id true).1.slots.length ≤ max H.slots.length 16004 ∧ (goneG with2e H n id true).1.nodes.length ≤ H.nodes.length + 1 ∧
    (id ∈ (node H.nodes n).ty → goneG with2e H n id true = (H, n, 0)) ∧
    (id ∉ (node H.nodes n).ty → goneG with2e (goneG with2e H n id true).1 n id true = ((goneG with2e H n id true).1, (goneG with2e H n id true).2.1, 0) ∧ goneG without2e (goneG with2e H n id true).1 (goneG with2e H n id true).2.1 id false = ((goneG with2e H n id true).1, n, 0)) := by
  have hA : Alike H (goneG with2e H n id true) _ _ := go_alike hR hr hid n true
  obtain ⟨o1, o2, o3, o4⟩ := hA.ok he
  rw [show to12 (node H.nodes n).ty id true = with3 (node H.nodes n).ty id from rfl] at o3
  have hl := hA.len
  have hc := checkG_rg.2 hR
  have hn : isN H.nodes n = true := by
    cases hi : isN H.nodes n with
    | true => rfl
    | false => simp [goneG, hc, hi] at he
  have hw0 : (with2e (node H.nodes n).ty id).2 = 0 := by
    rcases Decidable.em ((with2e (node H.nodes n).ty id).2 = 0) with h0 | h0
    · exact h0
    · simp [goneG, hc, hn, h0] at he
  have hrn := hR.nodes.right n hn
  have hs := (right2_iff.1 hrn).1
  have hw : with2e (node H.nodes n).ty id = (with3 (node H.nodes n).ty id, 0) := by
    unfold with2e at hw0 ⊢
    rw [hrn] at hw0 ⊢
    simp only [Bool.true_eq_false, if_false] at hw0 ⊢
    split at hw0
    · simp at hw0
    · rename_i c1; rw [if_neg c1]
      split at hw0
      · simp at hw0
      · rename_i c2; rw [if_neg c2, with_alike hs]
  refine ⟨hn, hw, o1, o2, o3, hl.1, hl.2, fun hin => ?_, fun hnin => ?_⟩
  · simp only [goneG, hc, hn, hw, with3_id hs hin, Bool.true_eq_false, if_true, if_false, ne_eq, not_true_eq_false]
  · have hne : ¬ with3 (node H.nodes n).ty id = (node H.nodes n).ty := fun h => hnin (by rw [← h]; exact with3_mem.2 (.inl rfl))
    have hrt : Rng (with3 (node H.nodes n).ty id) := rng_with3 (hr.nodes.node n) hid
    have hOf := of_alike' hR hrt
    have h22 : (ofG H (with3 (node H.nodes n).ty id)).2.2 = 0 := by
      rcases Decidable.em ((ofG H (with3 (node H.nodes n).ty id)).2.2 = 0) with h0 | h0
      · exact h0
      · simp [goneG, hc, hn, hw, hne, h0] at he
    obtain ⟨q1, q2, q3, q4⟩ := hOf.ok h22
    obtain ⟨r1, r2⟩ := q4 n hn
    have hnin' : id ∉ (node (ofG H (with3 (node H.nodes n).ty id)).1.nodes n).ty := by rw [r2]; exact hnin
    have ht' : (node (ofG H (with3 (node H.nodes n).ty id)).1.nodes (ofG H (with3 (node H.nodes n).ty id)).2.1).ty = with3 (node (ofG H (with3 (node H.nodes n).ty id)).1.nodes n).ty id := by rw [q3, r2]
    have hnm : n ≠ (ofG H (with3 (node H.nodes n).ty id)).2.1 := by
      intro e
      rw [← e] at ht'
      exact hnin' (by rw [ht']; exact with3_mem.2 (.inl rfl))
    have a1 := (addPL_lnk q1.nodes r1 q2 hnin' ht').1
    have e : goneG with2e H n id true = (⟨lnk (ofG H (with3 (node H.nodes n).ty id)).1.nodes n (ofG H (with3 (node H.nodes n).ty id)).2.1 id, (ofG H (with3 (node H.nodes n).ty id)).1.slots⟩, (ofG H (with3 (node H.nodes n).ty id)).2.1, 0) := by
      simp only [goneG, hc, hn, hw, hne, h22, Bool.true_eq_false, if_true, if_false, ne_eq, not_true_eq_false]
      rw [a1]
    rw [e] at o1 o2 o3 ⊢
    dsimp only at o1 o2 o3 ⊢
    generalize (ofG H (with3 (node H.nodes n).ty id)).1 = X at *
    generalize (ofG H (with3 (node H.nodes n).ty id)).2.1 = m at *
    have i1 : isN (lnk X.nodes n m id) n = true := by rw [isN_lnk r1 q2 hnm]; exact r1
    have t1 := (lnk_used (id := id) r1 q2 hnm (isN_ge r1)).2
    exact o1.goThere (n := n) (m := m) i1 o2 (by show id ∉ (node (lnk X.nodes n m id) n).ty; rw [t1]; exact hnin')
      (by show (node (lnk X.nodes n m id) m).ty = with3 (node (lnk X.nodes n m id) n).ty id; rw [o3, t1, r2])
      (by show _ ∈ (node (lnk X.nodes n m id) n).plus; rw [node_lnk r1 q2 hnm (isN_ge r1), if_pos rfl]; exact withS_mem.2 (.inl rfl))
      (by show _ ∈ (node (lnk X.nodes n m id) m).less; rw [node_lnk r1 q2 hnm (isN_ge q2), if_neg (Ne.symm hnm), if_pos rfl]; exact withS_mem.2 (.inl rfl))
end Go.Eng
namespace Go.Eng
open Go Go.RowKit Go.Proofs
set_option maxRecDepth 10000
section
variable {w : World} {a b sa sb : Option Addr} {n c m d sn sc sm sd : Nat} {G : PG} {l : List Node} {s : List Entry}
theorem k_EqSteps {r : List Stp} (h1 : Row encStp w a n c r) (h2 : Row encStp w b m d r) : Cl Tryz.prog 81 #[.slice a n c, .slice b m d] w (Gives w (.bool true)) := by
  refine c81 _ _ _ _ _ _ ?_
  have e1 := h1.len; have e2 := h2.len; have e3 := h1.n63
  refine cnd (fun hc => absurd hc (by simp; omega)) fun hc => ?_
  refine ⟨fun _ i w' => Below w.heap.size w w' ∧ ∃ k : Nat, i = k ∧ k ≤ n, fun _ i _ => n - i.toNat, ⟨Below.refl _ _, 0, rfl, by omega⟩, ?_⟩
  rintro _ w1 s4 _ ⟨hB, k, rfl, hk⟩
  refine cnd (fun hc => ?_) fun hc => ⟨rfl, hB⟩
  have hkn : k < n := by simpa using hc
  rintro w2 rfl
  have hB2 := hB.trans ((Below.refl w.heap.size w1).drew.mono (Nat.le_refl _))
  refine (h1.below hB2).stpN hkn fun hl => (h2.below hB2).stpN (by omega) fun hl2 => ⟨_, stp_neq, cnd (fun hh => absurd hh (by simp)) fun _ => ?_⟩
  rw [nx (by omega)]
  exact ⟨⟨hB2, k + 1, rfl, by omega⟩, dec hkn⟩
theorem k_wSame21 {r : List Stp} (h1 : Row encStp w a n c r) (h2 : Row encStp w b m d r) : Cl Tryz.prog 80 #[.slice a n c, .slice b m d] w (Gives w (.bool true)) :=
  c80 _ _ _ _ _ _ ((k_EqSteps h1 h2).gives fun w' hB => ⟨_, rfl, rfl, hB⟩)
theorem k_wSame22 {r r' : RNode} {x : Node} {c0 : Addr} (h : IsNode w r x) (h' : IsNode w r' x) (hc : w.cell? c0 = some (.func (.func 80) #[] #[])) : Cl Tryz.prog 83 #[.agg (encNode r).toArray, .agg (encNode r').toArray, .pointer (some c0)] w (Gives w (.bool true)) := by
  refine c83 r.used r.ty.a r.ty.n r.ty.c r.plus.a r.plus.n r.plus.c r.less.a r.less.n r.less.c r'.used r'.ty.a r'.ty.n r'.ty.c r'.plus.a r'.plus.n r'.plus.c r'.less.a r'.less.n r'.less.c c0 ?_
  rintro _ w1 rfl h1 _ w2 rfl h2
  have q1 : w2.heap[w.heap.size]? = some (.cells #[.bool r.used, .slice r.ty.a r.ty.n r.ty.c, .slice r.plus.a r.plus.n r.plus.c, .slice r.less.a r.less.n r.less.c] 56) := by rw [h2, h1]; exact blk_alloc (blk_new _)
  have q2 : w2.heap[w1.heap.size]? = some (.cells #[.bool r'.used, .slice r'.ty.a r'.ty.n r'.ty.c, .slice r'.plus.a r'.plus.n r'.plus.c, .slice r'.less.a r'.less.n r'.less.c] 56) := by rw [h2]; exact blk_new _
  have B : Below w.heap.size w w2 := by rw [h2, h1]; exact (alloc_below w _).alloc (by rw [size_alloc]; omega) _
  clear h1 h2
  refine ⟨_, blk_cell q1 0, _, blk_cell q2 0, cnd (fun _ => ?_) fun hh => absurd hh (by rw [h.used, h'.used]; simp)⟩
  refine ⟨_, _, _, blk_cell q1 1, _, _, _, blk_cell q2 1, (k_EqIds (h.ty.below B) (h'.ty.below B)).tells fun w3 Q3 => ⟨_, rfl, cnd (fun _ => ?_) fun hh => absurd hh (by simp)⟩⟩
  have B3' := Q3.below w2.heap.size
  have B3 := B.trans (B3'.mono B.size)
  have q13 := blk_below q1 B3' (blk_lt q1)
  have q23 := blk_below q2 B3' (blk_lt q2)
  refine ⟨80, [], cell_below hc B3, _, _, _, blk_cell q13 2, _, _, _, blk_cell q23 2, (k_wSame21 (h.plus.below B3) (h'.plus.below B3)).gives fun w4 B4' => ⟨_, rfl, ?_⟩⟩
  have B4 := B3.trans (B4'.mono B3.size)
  have q14 := blk_below q13 B4' (blk_lt q13)
  have q24 := blk_below q23 B4' (blk_lt q23)
  exact ⟨80, [], cell_below hc B4, _, _, _, blk_cell q14 3, _, _, _, blk_cell q24 3, (k_wSame21 (h.less.below B4) (h'.less.below B4)).gives fun w5 B5' => ⟨_, rfl, rfl, B4.trans (B5'.mono B4.size)⟩⟩
theorem k_EqFNodes {c0 : Addr} (h1 : Nodes w a n c l) (h2 : Nodes w b m d l) (hc : w.cell? c0 = some (.func (.func 80) #[] #[])) : Cl Tryz.prog 82 #[.slice a n c, .slice b m d, .func (.func 83) #[] #[.pointer (some c0)]] w (Gives w (.bool true)) := by
  refine c82 _ _ _ _ _ _ 83 [.pointer (some c0)] ?_
  obtain ⟨rs, hrow, hall⟩ := h1
  obtain ⟨rs', hrow', hall'⟩ := h2
  have el := hall.1; have el' := hall'.1
  obtain rfl : n = l.length := by have := hrow.len; omega
  obtain rfl : m = l.length := by have := hrow'.len; omega
  have e3 := hrow.n63
  refine cnd (fun hc => absurd hc (by simp)) fun _ => ?_
  refine ⟨fun _ i w' => Below w.heap.size w w' ∧ ∃ k : Nat, i = k ∧ k ≤ l.length, fun _ i _ => l.length - i.toNat, ⟨Below.refl _ _, 0, rfl, by omega⟩, ?_⟩
  rintro _ w1 s _ ⟨hB, k, rfl, hk⟩
  refine cnd (fun hcc => ?_) fun _ => ⟨rfl, hB⟩
  have hkn : k < l.length := by simpa using hcc
  refine (hrow.below hB).nodeN hkn fun hl => box_node fun w3 s3 B3' => ?_
  have B3 := hB.trans (B3'.mono hB.size)
  refine (hrow'.below B3).nodeN hkn fun hl' => box_node fun w5 s5 B5' => ?_
  have B5 := B3.trans (B5'.mono B3.size)
  have s3' := blk_below s3 B5' (blk_lt s3)
  have x := hall.2 k hl hkn
  have y := hall'.2 k hl' hkn
  refine ⟨_, _, _, _, _, _, _, _, _, _, blk_cell s3' 0, blk_cell s3' 1, blk_cell s3' 2, blk_cell s3' 3, _, _, _, _, _, _, _, _, _, _, blk_cell s5 0, blk_cell s5 1, blk_cell s5 2, blk_cell s5 3, (k_wSame22 (x.below B5) (y.below B5) (cell_below hc B5)).gives fun w6 B6' => ⟨_, rfl, cnd (fun hh => absurd hh (by simp)) fun _ => ?_⟩⟩
  rw [nx (by omega)]
  exact ⟨⟨B5.trans (B6'.mono B5.size), k + 1, rfl, by omega⟩, dec hkn⟩
theorem k_wSame23 {r r' : REnt} {e : Entry} (h : IsEnt w r e) (h' : IsEnt w r' e) : Cl Tryz.prog 85 #[.agg (encEnt r).toArray, .agg (encEnt r').toArray] w (Gives w (.bool true)) := by
  refine c85 r.st r.ty.a r.ty.n r.ty.c r.num r'.st r'.ty.a r'.ty.n r'.ty.c r'.num ?_
  rintro _ w1 rfl h1 _ w2 rfl h2
  have q1 : w2.heap[w.heap.size]? = some (.cells #[.int .i64 r.st, .slice r.ty.a r.ty.n r.ty.c, .int .i64 r.num] 94) := by rw [h2, h1]; exact blk_alloc (blk_new _)
  have q2 : w2.heap[w1.heap.size]? = some (.cells #[.int .i64 r'.st, .slice r'.ty.a r'.ty.n r'.ty.c, .int .i64 r'.num] 94) := by rw [h2]; exact blk_new _
  have B : Below w.heap.size w w2 := by rw [h2, h1]; exact (alloc_below w _).alloc (by rw [size_alloc]; omega) _
  refine ⟨_, blk_cell q1 2, _, blk_cell q2 2, cnd (fun _ => ?_) fun hh => absurd hh (by rw [h.num, h'.num]; simp)⟩
  refine ⟨_, _, _, blk_cell q1 1, _, _, _, blk_cell q2 1, (k_EqIds (h.ty.below B) (h'.ty.below B)).tells fun w3 hq => ⟨_, rfl, by simp, B.trans (hq.below _)⟩⟩
theorem k_EqFEnts2 (h1 : Ents w a n c s) (h2 : Ents w b m d s) : Cl Tryz.prog 67 #[.slice a n c, .slice b m d, .func (.func 85) #[] #[]] w (Gives w (.bool true)) := by
  refine c67 _ _ _ _ _ _ 85 [] ?_
  obtain ⟨rs, hrow, hall⟩ := h1
  obtain ⟨rs', hrow', hall'⟩ := h2
  have el := hall.1; have el' := hall'.1
  obtain rfl : n = s.length := by have := hrow.len; omega
  obtain rfl : m = s.length := by have := hrow'.len; omega
  have e3 := hrow.n63
  refine cnd (fun hc => absurd hc (by simp)) fun _ => ?_
  refine ⟨fun _ i w' => Below w.heap.size w w' ∧ ∃ k : Nat, i = k ∧ k ≤ s.length, fun _ i _ => s.length - i.toNat, ⟨Below.refl _ _, 0, rfl, by omega⟩, ?_⟩
  rintro _ w1 s6 _ ⟨hB, k, rfl, hk⟩
  refine cnd (fun hc => ?_) fun hc => ⟨rfl, hB⟩
  have hkn : k < s.length := by simpa using hc
  refine (hrow.below hB).entN hkn fun hl => box_ent fun w3 s3 B3' => ?_
  have B3 := hB.trans (B3'.mono hB.size)
  refine (hrow'.below B3).entN hkn fun hl' => box_ent fun w5 s5 B5' => ?_
  have B5 := B3.trans (B5'.mono B3.size)
  have s3' := blk_below s3 B5' (blk_lt s3)
  have x := hall.2 k hl hkn
  have y := hall'.2 k hl' hkn
  refine ⟨_, _, _, _, _, blk_cell s3' 0, blk_cell s3' 1, blk_cell s3' 2, _, _, _, _, _, blk_cell s5 0, blk_cell s5 1, blk_cell s5 2, (k_wSame23 (x.below B5) (y.below B5)).gives fun w6 B6' => ⟨_, rfl, cnd (fun hh => absurd hh (by simp)) fun _ => ?_⟩⟩
  rw [nx (by omega)]
  exact ⟨⟨B5.trans (B6'.mono B5.size), k + 1, rfl, by omega⟩, dec hkn⟩
/-- A graph that lies twice. -/
theorem k_wSame2 (h1 : Grf w a n c sa sn sc G) (h2 : Grf w b m d sb sm sd G) (hs : G.slots.length ≤ 1000000) : Cl Tryz.prog 30 #[.agg #[.slice a n c, .slice sa sn sc], .agg #[.slice b m d, .slice sb sm sd]] w (Gives w (.bool true)) := by
  refine c30 _ _ _ _ _ _ _ _ _ _ _ _ ?_
  have l1 := h1.slots.len; have l2 := h2.slots.len
  rintro _ w1 rfl g1 _ w2 rfl g2 _ w3 rfl g3
  have z1 : w1.heap.size = w.heap.size + 1 := by rw [g1, size_alloc]
  have z2 : w2.heap.size = w1.heap.size + 1 := by rw [g2, size_alloc]
  have q1 : w3.heap[w.heap.size]? = some (.cells #[.slice a n c, .slice sa sn sc] 27) := by rw [g3, g2, g1]; exact blk_alloc (blk_alloc (blk_new _))
  have q2 : w3.heap[w1.heap.size]? = some (.cells #[.slice b m d, .slice sb sm sd] 27) := by rw [g3, g2]; exact blk_alloc (blk_new _)
  obtain ⟨t3, q3⟩ : ∃ t, w3.heap[w2.heap.size]? = some (.cells #[.nilFunc] t (0, 0)) := by rw [g3]; exact ⟨_, blk_new _⟩
  have B3 : Below w.heap.size w w3 := by rw [g3, g2, g1]; exact ((alloc_below w _).alloc (by rw [size_alloc]; omega) _).alloc (by rw [size_alloc, size_alloc]; omega) _
  clear g1 g2 g3
  refine ⟨blk_some q3 (by decide), blk_free q3 _, ?_⟩
  rintro w4 h4
  have p1 : w4.heap[w.heap.size]? = some (.cells #[.slice a n c, .slice sa sn sc] 27) := by rw [h4]; exact blk_far q1 (by show w.heap.size ≠ w2.heap.size; omega) _
  have p2 : w4.heap[w1.heap.size]? = some (.cells #[.slice b m d, .slice sb sm sd] 27) := by rw [h4]; exact blk_far q2 (by show w1.heap.size ≠ w2.heap.size; omega) _
  have p3 : w4.heap[w2.heap.size]? = some (.cells #[.func (.func 80) #[] #[]] t3 (0, 0)) := by rw [h4]; exact blk_set q3 0 _
  have B4 : Below w.heap.size w w4 := by rw [h4]; exact B3.setCell (by show w.heap.size ≤ w2.heap.size; omega) _
  clear h4 q1 q2 q3
  refine ⟨_, _, _, blk_cell p1 0, _, _, _, blk_cell p2 0, (k_EqFNodes (h1.below B4).nodes (h2.below B4).nodes (blk_cell p3 0)).gives fun w5 B5 => ⟨_, rfl, ?_⟩⟩
  rintro w6 rfl
  have B46 : Below w4.heap.size w4 w5.drew := B5.drew
  have B06 := B4.trans (B46.mono B4.size)
  have p1 := blk_below p1 B46 (blk_lt p1)
  have p2 := blk_below p2 B46 (blk_lt p2)
  generalize w5.drew = w6 at *
  clear B5
  refine ⟨_, _, _, blk_cell p1 1, _, _, _, blk_cell p2 1, (k_lAll (h1.below B06).slots (by omega)).mono ?_⟩
  rintro _ w7 ⟨ua, un, uc, rfl, hu, B7⟩
  have p2 := blk_below p2 B7 (blk_lt p2)
  have B07 := B06.trans (B7.mono B06.size)
  refine ⟨_, _, _, rfl, blk_cell p2 1, (k_lAll (h2.below B07).slots (by omega)).mono ?_⟩
  rintro _ w8 ⟨va, vn, vc, rfl, hv, B8⟩
  have B08 := B07.trans (B8.mono B07.size)
  exact ⟨_, _, _, rfl, (k_EqFEnts2 (hu.below B8).ents hv.ents).gives fun w9 B9 => ⟨_, rfl, rfl, B08.trans (B9.mono B08.size)⟩⟩
end
end Go.Eng
namespace Go.Eng
open Go Go.RowKit Go.Proofs
set_option maxRecDepth 10000
theorem goneG_no' {G : PG} (h : checkG G = false) (f : List Int → Int → List Int × Int) (n id : Int) (plus : Bool) : goneG f G n id plus = (⟨[], []⟩, 0, 220) := by simp [goneG, h]
/-- Two graphs that stand all the time. -/
structure BSt (w W : World) (b2 b3 : Nat) (ga : Option Addr) (gn gc : Nat) (gsa : Option Addr) (gsn gsc : Nat) (H : PG) (aa : Option Addr) (an ac : Nat) (asa : Option Addr) (asn asc : Nat) (A : PG) : Prop where
  B : Below w.heap.size w W
  qg : W.heap[b2]? = some (.cells #[.slice ga gn gc, .slice gsa gsn gsc] 27)
  hg : Grf W ga gn gc gsa gsn gsc H
  qa : W.heap[b3]? = some (.cells #[.slice aa an ac, .slice asa asn asc] 27)
  ha : Grf W aa an ac asa asn asc A
theorem BSt.next {w W W' : World} {b2 b3 : Nat} {ga : Option Addr} {gn gc : Nat} {gsa : Option Addr} {gsn gsc : Nat} {H : PG} {aa : Option Addr} {an ac : Nat} {asa : Option Addr} {asn asc : Nat} {A : PG} (h : BSt w W b2 b3 ga gn gc gsa gsn gsc H aa an ac asa asn asc A) (hB : Below W.heap.size W W') : BSt w W' b2 b3 ga gn gc gsa gsn gsc H aa an ac asa asn asc A :=
  ⟨h.B.trans (hB.mono h.B.size), blk_below h.qg hB (blk_lt h.qg), h.hg.below hB, blk_below h.qa hB (blk_lt h.qa), h.ha.below hB⟩
section
variable {w : World} {a sa : Option Addr} {n c sn sc : Nat} {G : PG}
set_option maxHeartbeats 2000000
theorem k_GraphBack (h : Grf w a n c sa sn sc G) {m id : Int} (hm : I64 m) (hid : 0 ≤ id ∧ id < 18446744073709551616) : Cl Tryz.prog 4 #[.agg #[.slice a n c, .slice sa sn sc], .int .i64 m, .int .u64 id] w (Gives w (.bool true)) := by
  refine c4 _ _ _ _ _ _ _ _ ?_
  unfold V4
  have hf := fits_own G
  rintro _ w1 rfl h1
  have qx : w1.heap[w.heap.size]? = some (.cells #[.slice a n c, .slice sa sn sc] 27) := by rw [h1]; exact blk_new _
  have B1 : Below w.heap.size w w1 := by rw [h1]; exact alloc_below _ _
  clear h1
  refine k_wWakes.gives fun w2 B2 => ⟨_, rfl, ?_⟩
  have B02 := B1.trans (B2.mono B1.size)
  have qx := blk_below qx B2 (blk_lt qx)
  refine ⟨_, _, _, _, _, _, blk_cell qx 0, blk_cell qx 1, (k_wOwn (h.below B02)).mono ?_⟩
  rintro _ w3 ⟨ga, gn, gc, gsa, gsn, gsc, rfl, hgd, hge, B3⟩
  have B03 := B02.trans (B3.mono B02.size)
  refine ⟨_, _, _, _, _, _, rfl, box_grf fun w5 qg B5 z5 => ?_⟩
  have hB := B03.trans (B5.mono B03.size)
  have hg := (⟨hgd.nodes, hge.ents⟩ : Grf w3 ga gn gc gsa gsn gsc (ownW G)).below B5
  clear qx B5 z5 B3 B03 hgd hge B2 B02 B1
  generalize ownW G = H at hf hg
  refine ⟨_, _, _, _, _, _, blk_cell qg 0, blk_cell qg 1, (k_gPlus hg hf.small hm hid).mono ?_⟩
  rintro _ w6 ⟨aa, an, ac, asa, asn, asc, rfl, had, hae, B6⟩
  have ha : Grf w6 aa an ac asa asn asc (goneG with2e H m id true).1 := ⟨had.nodes, hae.ents⟩
  refine ⟨_, _, _, _, _, _, _, _, rfl, box_grf fun w8 qa B8 z8 => ?_⟩
  have B68 := B6.trans (B8.mono B6.size)
  have hS : BSt w w8 w3.heap.size w6.heap.size ga gn gc gsa gsn gsc H aa an ac asa asn asc (goneG with2e H m id true).1 := ⟨hB.trans (B68.mono hB.size), blk_below qg B68 (blk_lt qg), hg.below B68, qa, ha.below B8⟩
  have hrng := hg.rng
  clear had hae B6 B8 z8 ha qa hg qg hB B68
  refine cnd (fun he => ?_) fun he => ?_
  · -- it was refused
    have he' : (goneG with2e H m id true).2.2 ≠ 0 := by simpa using he
    have hD : (goneG with2e H m id true).1 = ⟨[], []⟩ ∧ (goneG with2e H m id true).2.1 = 0 := by
      cases hc : checkG H with
      | false => rw [goneG_no' hc]; exact ⟨rfl, rfl⟩
      | true =>
        have hA : Alike H (goneG with2e H m id true) _ _ := go_alike (checkG_rg.1 hc) hrng hid m true
        exact hA.err he'
    have han : an = 0 := by have := hS.ha.nodes.len; rw [hD.1] at this; exact this
    refine ⟨_, _, _, blk_cell hS.qa 0, cnd (fun _ => ⟨by rw [hD.2]; rfl, hS.B⟩) fun h0 => ?_⟩
    subst han; simp at h0
  have he' : (goneG with2e H m id true).2.2 = 0 := by simpa using he
  have hcg : checkG H = true := by
    cases hc : checkG H with
    | true => rfl
    | false => rw [goneG_no' hc] at he'; cases he'
  have hR := checkG_rg.1 hcg
  obtain ⟨hi, hw3, hRA, hiA, htA, hl1, hl2, hsame, hback⟩ := back_plain hR hrng hid he'
  generalize hAe : goneG with2e H m id true = r at *
  obtain ⟨A, k, e⟩ := r
  dsimp only at *
  have hfn := hf.n; have hfs := hf.s
  have hsA : SmallG A := hRA.small (by omega) (by omega)
  have hcA : checkG A = true := checkG_rg.2 hRA
  have hk64 : I64 k := by
    have := isN_le hiA
    simp only [I64]; omega
  have hr2 := hR.nodes.right m hi
  have hs := (right2_iff.1 hr2).1
  have hl12 := (right2_iff.1 hr2).2.2
  have e1 : typeG H m = ((node H.nodes m).ty, 0) := by simp [typeG, hcg, hi]
  have e2 : typeG A k = (with3 (node H.nodes m).ty id, 0) := by simp [typeG, hcA, hiA, htA]
  refine ⟨_, _, _, _, _, _, blk_cell hS.qg 0, blk_cell hS.qg 1, (k_gType hS.hg hf.small m hm).mono ?_⟩
  rw [e1]
  rintro _ w9 ⟨ta, tn, tc, rfl, hto, B9⟩
  have hS := hS.next B9
  have ht := hto.row
  refine ⟨_, _, _, _, rfl, _, _, _, _, _, _, blk_cell hS.qa 0, blk_cell hS.qa 1, (k_gType hS.ha hsA k hk64).mono ?_⟩
  rw [e2]
  rintro _ w10 ⟨ua, un, uc, rfl, huo, B10⟩
  have hS := hS.next B10
  have ht := ht.below B10
  have hu := huo.row
  refine ⟨_, _, _, _, rfl, (k_tWith ht id).mono ?_⟩
  rw [hw3]
  rintro _ w11 ⟨va, vn, vc, rfl, hv, B11⟩
  have hS := hS.next B11
  have ht := ht.below B11
  have hu := hu.below B11
  refine ⟨_, _, _, _, rfl, cnd (fun hh => absurd hh (by simp)) fun _ => cnd (fun hh => absurd hh (by simp)) fun _ => cnd (fun hh => absurd hh (by simp)) fun _ => ?_⟩
  refine (k_EqIds hu hv).tells fun w12 Q12 => ⟨_, rfl, cnd (fun hh => absurd hh (by simp)) fun _ => ?_⟩
  have B12 := Q12.below w11.heap.size
  have hS := hS.next B12
  have ht := ht.below B12
  clear hu hv huo hto B9 B10 B11 B12 Q12
  refine ⟨_, _, _, _, _, _, blk_cell hS.qa 0, blk_cell hS.qa 1, (k_gCheck hS.ha hsA).gives fun w13 B13 => ⟨_, rfl, ?_⟩⟩
  rw [hcA]
  have hS := hS.next B13
  have ht := ht.below B13
  refine cnd (fun hh => absurd hh (by simp)) fun _ => (k_tHas ht id).gives fun w14 B14 => ⟨_, rfl, ?_⟩
  have hS := hS.next B14
  clear ht B13 B14
  rw [has2_in hr2]
  refine cnd (fun hin => ?_) fun hin => ?_
  · have hin' : id ∈ (node H.nodes m).ty := by simpa using hin
    have hs' := hsame hin'
    simp only [Prod.mk.injEq] at hs'
    obtain ⟨rfl, rfl, _⟩ := hs'
    rintro w15 rfl
    have hS := hS.next ((Below.refl w14.heap.size w14).drew)
    generalize w14.drew = w15 at *
    refine cnd (fun _ => ?_) fun hh => absurd hh (by simp)
    refine ⟨_, _, _, _, _, _, blk_cell hS.qa 0, blk_cell hS.qa 1, _, _, _, _, _, _, blk_cell hS.qg 0, blk_cell hS.qg 1, (k_gUsed hS.ha hf.small).mono ?_⟩
    rintro _ w16 ⟨pa, pn, pc, rfl, hp, B16⟩
    have hS := hS.next B16
    refine ⟨_, _, _, rfl, blk_cell hS.qg 0, blk_cell hS.qg 1, (k_gUsed hS.hg hf.small).mono ?_⟩
    rintro _ w17 ⟨qa, qn, qc, rfl, hq, B17⟩
    have hS := hS.next B17
    exact ⟨_, _, _, rfl, (k_EqInts (hp.below B17).row hq.row).tells fun w18 Q18 => ⟨_, rfl, by simp, (hS.next (Q18.below _)).B⟩⟩
  · have hin' : id ∉ (node H.nodes m).ty := by simpa using hin
    obtain ⟨hb1, hb2⟩ := hback hin'
    refine ⟨_, _, _, _, _, _, blk_cell hS.qa 0, blk_cell hS.qa 1, (k_gLess hS.ha hsA hk64 hid).mono ?_⟩
    rw [hb2]
    rintro _ w19 ⟨ba, bn, bc, bsa, bsn, bsc, rfl, hbd, hbe, B19⟩
    have hbG : Grf w19 ba bn bc bsa bsn bsc A := ⟨hbd.nodes, hbe.ents⟩
    have hS := hS.next B19
    refine ⟨_, _, _, _, _, _, _, _, rfl, box_grf fun w21 qb B21 z21 => ?_⟩
    have hS := hS.next B21
    have hbG := hbG.below B21
    clear hbd hbe
    refine ⟨_, _, _, _, _, _, blk_cell hS.qa 0, blk_cell hS.qa 1, (k_gPlus hS.ha hsA hm hid).mono ?_⟩
    rw [hb1]
    rintro _ w22 ⟨ca, cn, cc, csa, csn, csc, rfl, hcd, hce, B22⟩
    have hcG : Grf w22 ca cn cc csa csn csc A := ⟨hcd.nodes, hce.ents⟩
    have hS := hS.next B22
    have hbG := hbG.below B22
    have qb := blk_below qb B22 (blk_lt qb)
    refine ⟨_, _, _, _, _, _, _, _, rfl, box_grf fun w24 qc B24 z24 => ?_⟩
    have hS := hS.next B24
    have hbG := hbG.below B24
    have hcG := hcG.below B24
    have qb := blk_below qb B24 (blk_lt qb)
    clear hcd hce
    have hsl := hsA.s
    refine cnd (fun _ => cnd (fun _ => cnd (fun _ => cnd (fun _ => ?_) fun hh => absurd hh (by simp)) fun hh => absurd hh (by simp)) fun hh => absurd hh (by simp)) fun hh => absurd hh (by simp)
    refine ⟨_, _, _, _, _, _, blk_cell qb 0, blk_cell qb 1, _, _, _, _, _, _, blk_cell hS.qa 0, blk_cell hS.qa 1, (k_wSame2 hbG hS.ha hsl).gives fun w25 B25 => ⟨_, rfl, ?_⟩⟩
    have hS := hS.next B25
    have hcG := hcG.below B25
    have qc := blk_below qc B25 (blk_lt qc)
    refine cnd (fun _ => ?_) fun hh => absurd hh (by simp)
    exact ⟨_, _, _, _, _, _, blk_cell qc 0, blk_cell qc 1, _, _, _, _, _, _, blk_cell hS.qa 0, blk_cell hS.qa 1, (k_wSame2 hcG hS.ha hsl).gives fun w26 B26 => ⟨_, rfl, rfl, (hS.next B26).B⟩⟩
end
end Go.Eng
namespace Go.Proofs.YtfcnkaignjdpgaaGreat
open Go.ChangeShapes Go.WideShapes Go.ChangeAt Go.RowKit Go.Eng
set_option maxRecDepth 100000 in
theorem graphBack_lifted (os : Os) (started : os.Started) (H : Type) (enc : TypeId × Value → H) :
    ReturnsInHanded {} Tryz.checked os 4 .any (Rows.graphBackSpec.pre6 enc Tryz.prog Tryz.f4 Rows.graphBackRow.domain false) (Rows.graphBackSpec.post enc Tryz.prog Tryz.f4 false true false false) := by
  refine returnsInHanded_of_change (C := Tryz.checked) own started (by kernel_rfl) Tryz.func4
    (ChangeSpec.witness6 (enc := enc) (C := Tryz.checked) false ⟨#[], #[.agg #[.slice none 0 0, .slice none 0 0], .int .i64 0, .int .u64 0], []⟩ 8 (by kernel_rfl) (by kernel_rfl) (by kernel_rfl) (by kernel_rfl)) ?_
  intro W base args ds gs before hval0 hW hcnd _
  have hval : ∀ (j : Nat) t v, Tryz.f4.params[j]? = some t → args[j]? = some v → Value.okWide Tryz.prog W .any base t v := hval0
  have hW' := hW
  obtain ⟨p, q, hA0, hV, rfl, hfz, hnd⟩ := hW
  have hA : DataW.TrodAll enc Tryz.prog W 0 (fun _ => true) true Tryz.f4.params.toList args.toList ds p := hA0
  rw [Tryz.params4] at hA hval
  obtain ⟨v0, v1, v2, d0, d1, d2, p0, p1, p2, rfl, rfl, rfl, h0, h1, h2⟩ := trodAll_three hA
  obtain ⟨rfl, rfl⟩ := trodVars_none hV
  clear hA0 hval0
  simp only [List.append_nil] at hW'
  have hlt : ∀ x ∈ p0 ++ p1 ++ p2, x.block < W.heap.size := fun x hx => by simpa using hW'.lt x (by simpa using hx)
  obtain ⟨hd, sd, G, e0, hG⟩ := arg_graph (hval 0 27 v0 rfl rfl) h0
  have h1k := h1; have h2k := h2
  obtain ⟨m, e1, _, _, wm⟩ := open_int (k := .i64) (by kernel_rfl) (hval 1 3 v1 rfl rfl) h1
  obtain ⟨x, e2, _, _, wx⟩ := open_int (k := .u64) (by kernel_rfl) (hval 2 32 v2 rfl rfl) h2
  subst e0; subst e1; subst e2
  refine (k_GraphBack hG (i64_wf wm) (u64_wf wx)).2.mono fun e W' ⟨v, he, hv, hB⟩ => ?_
  subst he; subst hv
  refine ⟨_, rfl, _, _, _, [], p0 ++ (p1 ++ p2), [], hW', trodAll_mk1 (shut_bool (by kernel_rfl) true), trodAll_mk3 (Below.trod laidOut (by kernel_rfl) (of_decide_eq_true (by kernel_rfl)) h0 hB fun x hx => hlt x (by simp [hx])) (Below.trod laidOut (by kernel_rfl) (of_decide_eq_true (by kernel_rfl)) h1k hB fun x hx => hlt x (by simp [hx])) (Below.trod laidOut (by kernel_rfl) (of_decide_eq_true (by kernel_rfl)) h2k hB fun x hx => hlt x (by simp [hx])), rfl, hB.frame _, fun h => by cases h⟩
theorem graphBack_holds : Rows.GraphBackSaid :=
  OpenClaim.holds_of_wide 4 Tryz.f4 rfl rfl rfl rfl rfl rfl rfl ⟨rfl, rfl, rfl, rfl, rfl⟩ rfl rfl rfl rfl rfl (by kernel_rfl) Tryz.func4 (by kernel_rfl)
    (of_decide_eq_true (by kernel_rfl)) (by unfold Func.isWrapper; rw [if_neg (of_decide_eq_false (by kernel_rfl))]; exact ⟨rfl, rfl⟩)
    (fun os started H enc _ => graphBack_lifted os started H enc)
end Go.Proofs.YtfcnkaignjdpgaaGreat
