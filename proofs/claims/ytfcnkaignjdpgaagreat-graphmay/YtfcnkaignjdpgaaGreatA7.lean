/- Part 7 of the proof of GraphMaySaid. What is proved: what a call of each function leaves. Conditions: those that each theorem names. -/
import Derived.Test.YtfcnkaignjdpgaaGreatA6
set_option linter.unusedVariables false
set_option linter.unusedSimpArgs false
set_option linter.unusedSectionVars false
namespace Go.Eng
open Go Go.RowKit Go.Proofs
set_option maxRecDepth 10000
/-- The i-th node may be, by the code. -/
def nodeOkG (G : PG) (i : Nat) : Bool :=
  if (node G.nodes ((i : Int) + 1)).used = true then
    right2 (node G.nodes ((i : Int) + 1)).ty && (findL G.slots (node G.nodes ((i : Int) + 1)).ty).2 && ((findL G.slots (node G.nodes ((i : Int) + 1)).ty).1 == (i : Int) + 1) &&
      stepsG G.nodes ((i : Int) + 1) (node G.nodes ((i : Int) + 1)).plus true && stepsG G.nodes ((i : Int) + 1) (node G.nodes ((i : Int) + 1)).less false
  else decide ((node G.nodes ((i : Int) + 1)).ty.length + (node G.nodes ((i : Int) + 1)).plus.length + (node G.nodes ((i : Int) + 1)).less.length = 0)
/-- May a graph be, by the code? -/
def checkG (G : PG) : Bool :=
  decide (0 < G.nodes.length) && isN G.nodes (G.nodes.length : Int) && isN G.nodes 1 && decide ((node G.nodes 1).ty.length = 0) && checkL G.slots && (List.range G.nodes.length).all (nodeOkG G) && decide (manyN G.nodes = (allL G.slots).length)
/-- A graph that came in. -/
structure Grf (w : World) (a : Option Addr) (n c : Nat) (sa : Option Addr) (sn sc : Nat) (G : PG) : Prop where
  nodes : Nodes w a n c G.nodes
  slots : Ents w sa sn sc G.slots
theorem Grf.below {w w' : World} {a : Option Addr} {n c : Nat} {sa : Option Addr} {sn sc : Nat} {G : PG} (h : Grf w a n c sa sn sc G) (hB : Below w.heap.size w w') : Grf w' a n c sa sn sc G := ⟨h.nodes.below hB, h.slots.below hB⟩
theorem Nodes.len {w : World} {a : Option Addr} {n c : Nat} {l : List Node} (h : Nodes w a n c l) : n = l.length := by obtain ⟨rs, h1, h2⟩ := h; have := h1.len; have := h2.1; omega
theorem Ents.len {w : World} {a : Option Addr} {n c : Nat} {l : List Entry} (h : Ents w a n c l) : n = l.length := by obtain ⟨rs, h1, h2⟩ := h; have := h1.len; have := h2.1; omega
section
variable {w : World} {a sa : Option Addr} {n c sn sc : Nat} {G : PG}
theorem k_gCheck (h : Grf w a n c sa sn sc G) (hs : SmallG G) : Cl Tryz.prog 26 #[.agg #[.slice a n c, .slice sa sn sc]] w (Gives w (.int .i64 (if checkG G then 0 else 220))) := by
  refine c26 _ _ _ _ _ _ ?_
  have hE := h.nodes
  have hL := h.slots
  obtain ⟨rs, hrow, hall⟩ := h.nodes
  have el := hall.1
  obtain rfl : n = G.nodes.length := hE.len
  obtain rfl : sn = G.slots.length := hL.len
  have hs1 := hs.1.1; have hs2 := hs.2; have hsN := hs.1
  generalize hl : G.nodes = l at *
  have no : ∀ W, Below w.heap.size w W → checkG G = false → Gives w (.int .i64 (if checkG G then 0 else 220)) (.int .i64 220) W := fun W hB hf => ⟨by rw [hf]; rfl, hB⟩
  rintro _ w1 rfl h1
  have q1 : w1.heap[w.heap.size]? = some (.cells #[.slice a l.length c, .slice sa G.slots.length sc] 27) := by rw [h1]; exact blk_new _
  have B1 : Below w.heap.size w w1 := by rw [h1]; exact alloc_below _ _
  clear h1
  refine ⟨_, _, _, blk_cell q1 0, cnd (fun g => no _ B1 ?_) fun g => ?_⟩
  · have : l.length = 0 := by simpa using g
    simp [checkG, hl, this]
  have h0 : 0 < l.length := by
    have : l.length ≠ 0 := by intro h; rw [h] at g; simp at g
    omega
  clear g
  refine ⟨_, _, _, _, _, _, blk_cell q1 0, blk_cell q1 1, (k_gis (hE.below B1) _ (by simp only [I64]; omega)).gives fun w2 B2' => ⟨_, rfl, ?_⟩⟩
  have B2 := B1.trans (B2'.mono B1.size)
  have q2 := blk_below q1 B2' (blk_lt q1)
  refine cnd (fun g => no _ B2 ?_) fun g => ?_
  · have : isN l (l.length : Int) = false := by simpa using g
    simp [checkG, hl, this]
  have hi1 : isN l (l.length : Int) = true := by simpa using g
  clear g
  refine ⟨_, _, _, _, _, _, blk_cell q2 0, blk_cell q2 1, (k_gis (hE.below B2) _ (by simp [I64])).gives fun w3 B3' => ⟨_, rfl, ?_⟩⟩
  have B3 := B2.trans (B3'.mono B2.size)
  have q3 := blk_below q2 B3' (blk_lt q2)
  refine cnd (fun g => no _ B3 ?_) fun g => ?_
  · have : isN l 1 = false := by simpa using g
    simp [checkG, hl, this]
  have hi2 : isN l 1 = true := by simpa using g
  clear g
  have e1 : node l 1 = l[0] := by
    have := node_eq (l := l) (k := 0) h0
    simpa using this
  refine ⟨_, _, _, blk_cell q3 0, (hrow.below B3).nodeTy (i := 0) (by omega) fun hl0 => cnd (fun g => no _ B3 ?_) fun g => ?_⟩
  · have := (hall.2 0 hl0 h0).ty.len
    have hf : ¬ (node l 1).ty.length = 0 := by rw [e1, ← this]; simp at g; omega
    simp only [checkG, hl, hf, decide_false, Bool.and_false, Bool.false_and]
  have hty1 : (node l 1).ty.length = 0 := by
    have := (hall.2 0 hl0 h0).ty.len
    rw [e1, ← this]; simp at g; omega
  clear g
  refine ⟨_, _, _, blk_cell q3 1, (k_lCheck (hL.below B3) (by omega)).gives fun w4 B4' => ⟨_, rfl, ?_⟩⟩
  have B4 := B3.trans (B4'.mono B3.size)
  have q4 := blk_below q3 B4' (blk_lt q3)
  cases hck : checkL G.slots with
  | false =>
    rw [if_neg (by decide)]
    exact cnd (fun _ => no _ B4 (by simp only [checkG, hck, Bool.and_false, Bool.false_and])) fun g => absurd g (by decide)
  | true =>
  rw [if_pos rfl]
  refine cnd (fun g => absurd g (by decide)) fun _ => ?_
  refine ⟨_, _, _, blk_cell q4 0, fun _ many i W => (Below w.heap.size w W ∧ W.heap[w.heap.size]? = some (.cells #[.slice a l.length c, .slice sa G.slots.length sc] 27)) ∧ ∃ k : Nat, i = k ∧ k ≤ l.length ∧ many = ((manyN (l.take k) : Nat) : Int) ∧ ∀ j, j < k → nodeOkG G j = true, fun _ _ i _ => l.length - i.toNat, ⟨⟨B4, q4⟩, 0, rfl, by omega, rfl, by intros; omega⟩, ?_⟩
  rintro _ W _ _ _ ⟨⟨hB, q⟩, k, rfl, hk, rfl, hok⟩
  have hml := manyN_le (l.take k)
  have htk : (l.take k).length ≤ k := by simp; omega
  refine cnd (fun hc => ?_) fun hc => ?_
  · have hkn : k < l.length := by simpa using hc
    refine (hrow.below hB).nodeN hkn fun hl' => box_node fun w7 s7 B7' => ?_
    have B7 := hB.trans (B7'.mono hB.size)
    have q7 := blk_below q B7' (blk_lt q)
    have x := hall.2 k hl' hkn
    have hnk : node l ((k : Int) + 1) = l[k] := node_eq hkn
    have hsm := hsN.2 _ (List.getElem_mem hkn)
    have nok : ∀ W, Below w.heap.size w W → nodeOkG G k = false → Gives w (.int .i64 (if checkG G then 0 else 220)) (.int .i64 220) W := by
      intro W hB hf
      refine no W hB ?_
      have : (List.range l.length).all (nodeOkG G) = false := by
        rw [List.all_eq_false]
        exact ⟨k, List.mem_range.2 hkn, by rw [hf]; simp⟩
      simp only [checkG, hl, this, Bool.and_false, Bool.false_and]
    have yok : nodeOkG G k = true → ∀ j, j < k + 1 → nodeOkG G j = true := by
      intro ht j hj
      by_cases hjk : j = k
      · subst hjk; exact ht
      · exact hok j (by omega)
    have hsnoc := manyN_snoc (l.take k) l[k]
    rw [← take_one hkn] at hsnoc
    rw [nx (k := k) (by omega)]
    refine ⟨_, blk_cell s7 0, cnd (fun g => ?_) fun g => ?_⟩
    · have hu : l[k].used = false := by rw [← x.used]; simpa using g
      have t1 := x.ty.len; have t2 := x.plus.len; have t3 := x.less.len
      refine ⟨_, _, _, blk_cell s7 1, _, _, _, blk_cell s7 2, _, _, _, blk_cell s7 3, ?_⟩
      rw [wrap64 (i := ((rs[k].ty.n : Nat) : Int) + ((rs[k].plus.n : Nat) : Int)) (by omega) (by omega), wrap64 (by omega) (by omega)]
      refine cnd (fun g1 => nok _ B7 ?_) fun g1 => ?_
      · have hne : ¬ l[k].ty.length + l[k].plus.length + l[k].less.length = 0 := by
          have := of_decide_eq_true g1; omega
        simp only [nodeOkG, hl, hnk, hu, Bool.false_eq_true, if_false, hne, decide_false]
      · have he : l[k].ty.length + l[k].plus.length + l[k].less.length = 0 := by
          have := of_decide_eq_false g1; omega
        refine ⟨⟨⟨B7, q7⟩, k + 1, rfl, by omega, by rw [hsnoc, hu]; simp, yok ?_⟩, dec hkn⟩
        simp only [nodeOkG, hl, hnk, hu, Bool.false_eq_true, if_false, he, decide_true]
    · have hu : l[k].used = true := by rw [← x.used]; simpa using g
      refine ⟨_, _, _, blk_cell q7 1, _, _, _, blk_cell s7 1, (k_lFind (hL.below B7) (x.ty.below B7) x.rng.1 (by omega)).gives fun w8 B8' => ⟨_, _, rfl, ?_⟩⟩
      have B8 := B7.trans (B8'.mono B7.size)
      have q8 := blk_below q7 B8' (blk_lt q7)
      have s8 := blk_below s7 B8' (blk_lt s7)
      refine ⟨_, _, _, blk_cell s8 1, (k_tCheck (x.ty.below B8)).gives fun w9 B9' => ⟨_, rfl, ?_⟩⟩
      have B9 := B8.trans (B9'.mono B8.size)
      have q9 := blk_below q8 B9' (blk_lt q8)
      have s9 := blk_below s8 B9' (blk_lt s8)
      refine cnd (fun g1 => nok _ B9 ?_) fun g1 => ?_
      · have : right2 l[k].ty = false := by cases hr : right2 l[k].ty <;> simp [check2, hr] at g1 ⊢
        simp only [nodeOkG, hl, hnk, hu, if_true, this, Bool.false_and]
      have h2 : right2 l[k].ty = true := by cases hr : right2 l[k].ty <;> simp [check2, hr] at g1 ⊢
      refine cnd (fun g2 => nok _ B9 ?_) fun g2 => cnd (fun g3 => nok _ B9 ?_) fun g3 => ?_
      · have : (findL G.slots l[k].ty).2 = false := by simpa using g2
        simp only [nodeOkG, hl, hnk, hu, if_true, this, Bool.and_false, Bool.false_and]
      · have : ((findL G.slots l[k].ty).1 == (k : Int) + 1) = false := by
          have : ((k + 1 : Nat) : Int) = (k : Int) + 1 := by omega
          rw [this] at g3; simpa using g3
        simp only [nodeOkG, hl, hnk, hu, if_true, this, Bool.and_false, Bool.false_and]
      have hf2 : (findL G.slots l[k].ty).2 = true := by simpa using g2
      have hf1 : ((findL G.slots l[k].ty).1 == (k : Int) + 1) = true := by
        have : ((k + 1 : Nat) : Int) = (k : Int) + 1 := by omega
        rw [this] at g3; simpa using g3
      have hr1 : ∀ s ∈ l[k].plus, I64 s.2 := fun s hs => (x.rng.2 s (by simp [hs])).2.2
      have hr2 : ∀ s ∈ l[k].less, I64 s.2 := fun s hs => (x.rng.2 s (by simp [hs])).2.2
      refine ⟨_, _, _, _, _, _, blk_cell q9 0, blk_cell q9 1, _, _, _, blk_cell s9 2, (k_gsteps (hE.below B9) hsN hkn (x.plus.below B9) hr1 true).gives fun w10 B10' => ⟨_, rfl, ?_⟩⟩
      have B10 := B9.trans (B10'.mono B9.size)
      have q10 := blk_below q9 B10' (blk_lt q9)
      have s10 := blk_below s9 B10' (blk_lt s9)
      refine cnd (fun g3 => nok _ B10 ?_) fun g3 => ?_
      · have : stepsG l ((k : Int) + 1) l[k].plus true = false := by simpa using g3
        simp only [nodeOkG, hl, hnk, hu, if_true, this, Bool.and_false, Bool.false_and]
      have hp : stepsG l ((k : Int) + 1) l[k].plus true = true := by simpa using g3
      refine ⟨_, _, _, _, _, _, blk_cell q10 0, blk_cell q10 1, _, _, _, blk_cell s10 3, (k_gsteps (hE.below B10) hsN hkn (x.less.below B10) hr2 false).gives fun w11 B11' => ⟨_, rfl, ?_⟩⟩
      have B11 := B10.trans (B11'.mono B10.size)
      have q11 := blk_below q10 B11' (blk_lt q10)
      refine cnd (fun g4 => nok _ B11 ?_) fun g4 => ?_
      · have : stepsG l ((k : Int) + 1) l[k].less false = false := by simpa using g4
        simp only [nodeOkG, hl, hnk, hu, if_true, this, Bool.and_false]
      have hl4 : stepsG l ((k : Int) + 1) l[k].less false = true := by simpa using g4
      rw [nx (by omega)]
      refine ⟨⟨⟨B11, q11⟩, k + 1, rfl, by omega, by rw [hsnoc, hu]; simp, yok ?_⟩, dec hkn⟩
      simp only [nodeOkG, hl, hnk, hu, if_true, h2, hf1, hf2, hp, hl4, Bool.and_self]
  · have hkn : ¬ k < l.length := by simpa using hc
    obtain rfl : k = l.length := by omega
    refine ⟨_, _, _, blk_cell q 1, (k_lMany (hL.below hB) (by omega)).gives fun w12 B12' => ⟨_, rfl, ?_⟩⟩
    have B12 := hB.trans (B12'.mono hB.size)
    rw [List.take_length]
    have hallok : (List.range l.length).all (nodeOkG G) = true := by
      rw [List.all_eq_true]; intro j hj; exact hok j (List.mem_range.1 hj)
    refine cnd (fun g => no _ B12 ?_) fun g => ⟨?_, B12⟩
    · have : ¬ manyN l = (allL G.slots).length := by
        intro h; rw [h] at g; simp at g
      simp only [checkG, hl, this, decide_false, Bool.and_false]
    · have : manyN l = (allL G.slots).length := by
        have h : ((manyN l : Nat) : Int) = (((allL G.slots).length : Nat) : Int) := by simpa using g
        exact Int.ofNat.inj h
      have : checkG G = true := by
        simp only [checkG, hl, h0, hi1, hi2, hty1, hck, hallok, this, decide_true, Bool.and_self]
      rw [this]; rfl
theorem k_gFind {la : Option Addr} {ln lc : Nat} {t : List Int} (h : Grf w a n c sa sn sc G) (hs : SmallG G) (ht : Row encId w la ln lc t) (hr : Rng t) :
    Cl Tryz.prog 31 #[.agg #[.slice a n c, .slice sa sn sc], .slice la ln lc] w (Gives w (.tuple #[.int .i64 (if checkG G then findL G.slots t else (0, false)).1, .bool (if checkG G then findL G.slots t else (0, false)).2])) := by
  refine c31 _ _ _ _ _ _ _ _ _ ?_
  have hs2 := hs.2
  have hsl := h.slots.len
  rintro _ w1 rfl h1
  have q1 : w1.heap[w.heap.size]? = some (.cells #[.slice a n c, .slice sa sn sc] 27) := by rw [h1]; exact blk_new _
  have B1 : Below w.heap.size w w1 := by rw [h1]; exact alloc_below _ _
  clear h1
  refine ⟨_, _, _, _, _, _, blk_cell q1 0, blk_cell q1 1, (k_gCheck (h.below B1) hs).gives fun w2 B2' => ⟨_, rfl, ?_⟩⟩
  have B2 := B1.trans (B2'.mono B1.size)
  have q2 := blk_below q1 B2' (blk_lt q1)
  cases hc : checkG G with
  | false => exact ⟨rfl, B2⟩
  | true =>
    refine ⟨_, _, _, blk_cell q2 1, (k_lFind (h.slots.below B2) (ht.below B2) hr (by omega)).gives fun w3 B3' => ⟨_, _, rfl, rfl, B2.trans (B3'.mono B2.size)⟩⟩
/-- A node's type; the error. -/
def typeG (G : PG) (n : Int) : List Int × Int := if checkG G = false then ([], 220) else if isN G.nodes n = false then ([], 2) else ((node G.nodes n).ty, 0)
/-- A row of ids in memory of its own, and an error. -/
def OwnE (w : World) (p : List Int × Int) (v : Value) (w' : World) : Prop := ∃ a n c, v = .tuple #[.slice a n c, .int .i64 p.2] ∧ Own encId 1 32 w.heap.size w' a n c p.1 ∧ Below w.heap.size w w'
theorem ownE {w w' : World} {p : List Int × Int} {l' : List Int} {e : Int} {a : Option Addr} {n c : Nat} (hp : p = (l', e)) (hd : Own encId 1 32 w.heap.size w' a n c l') (hB : Below w.heap.size w w') : OwnE w p (.tuple #[.slice a n c, .int .i64 e]) w' := by
  subst hp; exact ⟨_, _, _, rfl, hd, hB⟩
theorem k_gType (h : Grf w a n c sa sn sc G) (hs : SmallG G) (m : Int) (hm : I64 m) : Cl Tryz.prog 24 #[.agg #[.slice a n c, .slice sa sn sc], .int .i64 m] w (OwnE w (typeG G m)) := by
  refine c24 _ _ _ _ _ _ _ ?_
  have hs1 := hs.1.1
  obtain ⟨rs, hrow, hall⟩ := h.nodes
  have el := hall.1
  have hnl := hrow.len
  rintro _ w1 rfl h1
  have q1 : w1.heap[w.heap.size]? = some (.cells #[.slice a n c, .slice sa sn sc] 27) := by rw [h1]; exact blk_new _
  have B1 : Below w.heap.size w w1 := by rw [h1]; exact alloc_below _ _
  clear h1
  refine ⟨_, _, _, _, _, _, blk_cell q1 0, blk_cell q1 1, (k_gCheck (h.below B1) hs).gives fun w2 B2' => ⟨_, rfl, ?_⟩⟩
  have B2 := B1.trans (B2'.mono B1.size)
  have q2 := blk_below q1 B2' (blk_lt q1)
  cases hc : checkG G with
  | false => exact ownE (by simp [typeG, hc]) Own.nil B2
  | true =>
    refine ⟨_, _, _, _, _, _, blk_cell q2 0, blk_cell q2 1, (k_gis (h.nodes.below B2) m hm).gives fun w3 B3' => ⟨_, rfl, ?_⟩⟩
    have B3 := B2.trans (B3'.mono B2.size)
    have q3 := blk_below q2 B3' (blk_lt q2)
    refine cnd (fun g => ?_) fun g => ?_
    · have : isN G.nodes m = false := by simpa using g
      exact ownE (by simp [typeG, hc, this]) Own.nil B3
    · have hi : isN G.nodes m = true := by simpa using g
      obtain ⟨k, rfl, hk⟩ := isN_iff hi
      refine ⟨_, _, _, blk_cell q3 0, ?_⟩
      rw [pre2 (k := k) (by omega)]
      refine (hrow.below B3).nodeTy (i := k) (by omega) fun hl => ?_
      have x := hall.2 k hl hk
      have hsm := (hs.1.2 _ (List.getElem_mem hk)).1
      have hxl := x.ty.len
      refine (k_clonedIds (x.ty.below B3) (by omega)).mono ?_
      rintro _ w4 ⟨a4, n4, c4, rfl, ho, B4⟩
      refine ⟨_, _, _, rfl, ownE (by simp [typeG, hc, hi, node_eq hk]) (ho.mono B3.size) (B3.trans (B4.mono B3.size))⟩
end
end Go.Eng
namespace Go.Eng
open Go Go.RowKit Go.Proofs
set_option maxRecDepth 10000
def rnode (rs : List RNode) (i : Nat) : RNode := rs.getD i default
theorem rnode_eq {rs : List RNode} {i : Nat} (h : i < rs.length) : rnode rs i = rs[i] := by simp [rnode, h]
def nodeV (rs : List RNode) (i : Nat) : List Value := [.int .i64 ((i : Int) + 1), .agg (encNode (rnode rs i)).toArray]
/-- What is yielded of the first k nodes. -/
def usedV (rs : List RNode) (k : Nat) : List (List Value) := ((List.range k).filter fun i => (rnode rs i).used).map (nodeV rs)
theorem usedV_step (rs : List RNode) (k : Nat) : usedV rs (k + 1) = usedV rs k ++ (if (rnode rs k).used = true then [nodeV rs k] else []) := by
  unfold usedV
  rw [List.range_succ, List.filter_append, List.map_append]
  congr 1
  simp only [List.filter_cons, List.filter_nil]
  split <;> simp
theorem usedV_pre (rs : List RNode) {k n : Nat} (h : k ≤ n) : usedV rs k <+: usedV rs n := by
  have := filter_pre (fun i => (rnode rs i).used) (List.range n) k
  rw [List.take_range, Nat.min_eq_left h] at this
  obtain ⟨r, hr⟩ := this
  exact ⟨r.map (nodeV rs), by unfold usedV; rw [← List.map_append, hr]⟩
theorem usedV_more (rs : List RNode) {k n : Nat} (h : k < n) (hu : (rnode rs k).used = true) : (usedV rs k).length < (usedV rs n).length := by
  have := (usedV_pre rs (show k + 1 ≤ n from h)).length_le
  rw [usedV_step, if_pos hu] at this
  simp at this; omega
theorem usedV_len (rs : List RNode) (k : Nat) : (usedV rs k).length ≤ k := by
  unfold usedV
  have := List.length_filter_le (fun i => (rnode rs i).used) (List.range k)
  simpa using this
def num1 : List Value → Int
  | .int _ x :: _ => x
  | _ => 0
def nums (l : List (List Value)) : List Int := l.map num1
theorem keepsFrom_own {α : Type} {enc : α → List Value} {k : Nat} {e : TypeId} {lo B : Nat} {W W' : World} {a : Option Addr} {n c : Nat} {l : List α} (h : Own enc k e lo W a n c l) (hg : W.grownBy W' (a.map (·.block))) : KeepsFrom B W W' := by
  refine ⟨hg.size, fun b o _ hb ho => (hg.block b (blk_lt hb) ?_).trans hb⟩
  intro heq
  rcases h.2.2.2 with ⟨h1, _⟩ | ⟨g', cs, h1, _, h2, _⟩
  · rw [h1] at heq; cases heq
  · rw [h1] at heq; cases heq; rw [hb] at h2; cases h2; simp [Obj.isCells] at ho
theorem ks_own {α : Type} {enc : α → List Value} {k : Nat} {e : TypeId} {lo : Nat} {S : Nat → Prop} {W W' : World} {a : Option Addr} {n c : Nat} {l : List α} (h : Own enc k e lo W a n c l) (hg : W.grownBy W' (a.map (·.block))) (hS : ∀ k, S k → k < lo ∧ k < W.heap.size) : KS S W W' := by
  refine ⟨hg.size, fun b hb => hg.block b (hS b hb).2 ?_⟩
  intro heq
  rcases h.2.2.2 with ⟨h1, _⟩ | ⟨g', cs, h1, h3, h2, _⟩
  · rw [h1] at heq; cases heq
  · rw [h1] at heq; cases heq; have := (hS _ hb).1; dsimp only at this; omega
section
variable {w : World} {a sa : Option Addr} {n c sn sc : Nat} {G : PG} {rs : List RNode}
theorem seqs_gused1 {c0 : Addr} (h0 : w.cell? c0 = some (.slice a n c)) (h : Row encNode w a n c rs) (hn : n ≤ 1048576) {S : Nat → Prop} (s1 : S c0.block) (s2 : rs ≠ [] → ∀ p, a = some p → S p.block) (hS : ∀ k, S k → k < w.heap.size) :
    Seqs Tryz.prog 118 [.pointer (some c0)] (usedV rs rs.length) (KS S) w := by
  obtain rfl : n = rs.length := h.len
  refine seqs_of fun k J Jx W hW hJ hJx hy hJ0 => ?_
  have hW0 : KS S w W := KS.of_below hW hS
  refine c118 _ _ ⟨_, _, _, hW0.cell s1 h0, fun i W' => KS S w W' ∧ ∃ k : Nat, i = k ∧ k ≤ rs.length ∧ J (usedV rs k) W', fun i _ => rs.length - i.toNat, ⟨hW0, 0, rfl, by omega, hJ0⟩, ?_⟩
  rintro _ w1 _ ⟨hB, k, rfl, hk, hj⟩
  refine cnd (fun hc => ?_) fun hc => ?_
  · have hkn : k < rs.length := by simpa using hc
    refine ⟨_, _, _, hB.cell s1 h0, (h.ks hB s2).nodeN hkn fun hl => box_node fun w3 s3 B3 => ⟨_, blk_cell s3 0, ?_⟩⟩
    have hB3 : KS S w w3 := hB.trans (KS.of_below B3 fun k hk => by have := hS k hk; have := hB.1; omega)
    have hj3 := hJ _ _ _ hj B3
    have hrn : rnode rs k = rs[k] := rnode_eq hkn
    rw [nx (by omega)]
    refine cnd (fun g => ?_) fun g => ?_
    · have hu : (rnode rs k).used = true := by rw [hrn]; exact g
      have hstep := usedV_step rs k
      rw [if_pos hu] at hstep
      have hval : nodeV rs k = [.int .i64 ((k + 1 : Nat) : Int), .agg #[.bool rs[k].used, .slice rs[k].ty.a rs[k].ty.n rs[k].ty.c, .slice rs[k].plus.a rs[k].plus.n rs[k].plus.c, .slice rs[k].less.a rs[k].less.n rs[k].less.c]] := by
        unfold nodeV; rw [hrn]; rfl
      refine ⟨_, _, _, _, _, _, _, _, _, _, blk_cell s3 0, blk_cell s3 1, blk_cell s3 2, blk_cell s3 3, ?_⟩
      rw [← hval]
      refine (hy _ (nodeV rs k) w3 ?_ hj3 (usedV_more rs hkn hu)).mono fun y W' hyy => ?_
      · have := (usedV_pre rs (show k + 1 ≤ rs.length from hkn)).subset
        exact this (by rw [hstep]; simp)
      · rw [← hstep] at hyy
        refine cnd (fun h5 => .inr ?_) fun h5 => ?_
        · have : y = false := by simpa using h5
          subst this
          exact ⟨_, usedV_pre rs hkn, hyy⟩
        · have : y = true := by simpa using h5
          subst this
          exact ⟨⟨hB3.trans hyy.2, k + 1, rfl, by omega, hyy.1⟩, dec hkn⟩
    · have hu : ¬ (rnode rs k).used = true := by rw [hrn, g]; simp
      have hstep := usedV_step rs k
      rw [if_neg hu, List.append_nil] at hstep
      exact ⟨⟨hB3, k + 1, rfl, by omega, by rw [hstep]; exact hj3⟩, dec hkn⟩
  · have hkn : ¬ k < rs.length := by simpa using hc
    obtain rfl : k = rs.length := by omega
    exact .inl hj
theorem nums_used {w : World} {l : List Node} (hall : All2 (IsNode w) rs l) : nums (usedV rs rs.length) = usedN l := by
  have hl := hall.1
  unfold nums usedV usedN
  rw [List.map_map, hl]
  have h1 : (List.range l.length).filter (fun i => (rnode rs i).used) = (List.range l.length).filter (fun i : Nat => (node l ((i : Int) + 1)).used) := by
    refine List.filter_congr fun i hi => ?_
    have hi' := List.mem_range.1 hi
    rw [rnode_eq (by omega), node_eq hi', (hall.2 i (by omega) hi').used]
  rw [h1]
  rfl
theorem k_gUsed (h : Grf w a n c sa sn sc G) (hs : SmallG G) : Cl Tryz.prog 29 #[.agg #[.slice a n c, .slice sa sn sc]] w (Made encInt 1 3 w (if checkG G = true then usedN G.nodes else [])) := by
  refine c29 _ _ _ _ _ _ ?_
  have hs1 := hs.1.1
  obtain ⟨rs, hrow, hall⟩ := h.nodes
  have el := hall.1
  have hnl := hrow.len
  rintro _ w1 rfl h1
  have q1 : w1.heap[w.heap.size]? = some (.cells #[.slice a n c, .slice sa sn sc] 27) := by rw [h1]; exact blk_new _
  have B1 : Below w.heap.size w w1 := by rw [h1]; exact alloc_below _ _
  clear h1
  refine ⟨_, _, _, _, _, _, blk_cell q1 0, blk_cell q1 1, (k_gCheck (h.below B1) hs).gives fun w2 B2' => ⟨_, rfl, ?_⟩⟩
  have B2 := B1.trans (B2'.mono B1.size)
  have q2 := blk_below q1 B2' (blk_lt q1)
  cases hc : checkG G with
  | false => exact ⟨_, _, _, rfl, Own.nil, B2⟩
  | true =>
  rw [if_pos rfl, if_pos rfl]
  refine cnd (fun g => absurd g (by decide)) fun _ => ?_
  rintro _ w3 rfl h3
  have z3 : w3.heap.size = w2.heap.size + 1 := by rw [h3, size_alloc]
  have p3 : w3.heap[w2.heap.size]? = some (.cells #[.slice none 0 0] 64) := by rw [h3]; exact blk_new _
  have B23 : Below w2.heap.size w2 w3 := by rw [h3]; exact alloc_below _ _
  have q3 := blk_below q2 B23 (blk_lt q2)
  clear h3
  refine ⟨_, _, _, _, _, _, blk_cell q3 0, blk_cell q3 1, c79 _ _ _ _ _ _ ?_⟩
  rintro _ w4 rfl h4
  have z4 : w4.heap.size = w3.heap.size + 1 := by rw [h4, size_alloc]
  have r4 : w4.heap[w3.heap.size]? = some (.cells #[.slice a n c, .slice sa sn sc] 27) := by rw [h4]; exact blk_new _
  have B34 : Below w3.heap.size w3 w4 := by rw [h4]; exact alloc_below _ _
  have p4 := blk_below p3 B34 (blk_lt p3)
  have B4 := B2.trans ((B23.trans (B34.mono B23.size)).mono B2.size)
  have hw2 := B2.size
  clear h4
  have hseq := seqs_gused1 (S := fun k => k < w.heap.size ∨ k = w3.heap.size) (blk_cell r4 0) (hrow.below B4) (by omega) (.inr rfl) (fun hne p hp => .inl (hrow.block_lt enNode (by decide) hne p hp)) (fun k hk => by omega)
  have hnums := nums_used hall
  have hxl := usedV_len rs rs.length
  have hty : ∀ vs ∈ usedV rs rs.length, hasT Tryz.prog [3, 56] vs := by
    intro vs hvs
    obtain ⟨k, _, rfl⟩ := List.mem_map.1 hvs
    exact ⟨_, _, _, _, _, _, _, _, _, _, _, rfl⟩
  generalize hxs : usedV rs rs.length = xs at hseq hnums hxl hty
  refine ⟨_, [_], rfl, xs, KS fun k => k < w.heap.size ∨ k = w3.heap.size,
    fun pre W => (∃ oa on oc, W.heap[w2.heap.size]? = some (.cells #[.slice oa on oc] 64) ∧ Own encInt 1 3 w4.heap.size W oa on oc (nums pre)) ∧ Below w2.heap.size w4 W,
    fun _ _ _ => False, ⟨?_, hseq, hty, keepOk_ks (fun k hk => by omega), ?_, fun e s W W' row hI _ _ => hI, ⟨_, _, _, p4, Own.nil⟩, Below.refl _ _⟩, ?_, ?_, ?_, trivial⟩
  · exact ent_of Tryz.func118 (by kernel_rfl) rfl
  · intro s W W' row hI hg hrw
    obtain ⟨⟨oa, on, oc, i1, i2⟩, i3⟩ := hI
    exact ⟨⟨oa, on, oc, ownFrom_blk (β := Unit) () W W' row i1 hg hrw, ownFrom_own (β := Unit) () W W' row i2 hg hrw⟩, ownFrom_below (β := Unit) (by omega) (by omega) () W W' row i3 hg hrw⟩
  · rintro pre W e e2 e3a e3n e3c e4a e4n e4c e5a e5n e5c he hlen ⟨⟨oa, on, oc, hb, ho⟩, hB⟩
    have hon : on = pre.length := by have := ho.len; simpa [nums] using this
    have hWs := hB.size
    refine ⟨_, _, _, blk_cell hb 0, app1 tyInts enInt ho hWs e (by simp only [maxLen]; omega) (by omega) fun a' c' w7 ho' hg => ?_⟩
    have hb7 := ho.keepBlk hg hb (.inl (by decide))
    refine ⟨blk_some hb7 (by simp), blk_free hb7 _, ?_⟩
    rintro w8 rfl
    have hk7 : KS (fun k => k < w.heap.size ∨ k = w3.heap.size) W w7 := ks_own ho hg (fun k hk => by omega)
    refine ⟨(keepsFrom_own ho hg).trans (keepsFrom_set hb7 _), hk7.trans ⟨by simp, fun k hk => Below.heap_setCell _ _ _ _ (by show k ≠ w2.heap.size; omega)⟩, ⟨_, _, _, blk_set hb7 0 _, ?_⟩, (hB.trans ((ho.belowOf hg hWs).mono (by omega))).setCell (Nat.le_refl _) _⟩
    have : nums (pre ++ [[.int .i64 e, .agg #[.bool e2, .slice e3a e3n e3c, .slice e4a e4n e4c, .slice e5a e5n e5c]]]) = nums pre ++ [e] := by simp [nums, num1]
    rw [this]
    exact ho'.far hb7 (by decide) _
  · rintro D W hD ⟨⟨oa, on, oc, hb, ho⟩, hB⟩ hd
    refine ⟨_, _, _, blk_cell hb 0, hd, ?_⟩
    rintro _ rfl
    rw [hnums] at ho
    refine ⟨_, _, _, rfl, ?_, ?_⟩
    · have := ownFrom_own (β := Unit) (B := D) () W (W.putObj D (.deferred none)) (some D) ho (grownBy_putObj' _ D _) (fun r e => by cases e; exact ⟨Nat.le_refl _, _, hd, rfl⟩)
      exact this.mono (by have := B4.size; omega)
    · exact B4.trans ((hB.mono hw2).trans ((Below.refl _ _).grown (grownBy_putObj' _ D _) (by have := hB.size; omega) (fun k e => by cases e; omega)))
  · intro D pre W _ _ hx; exact hx.elim
end
end Go.Eng
namespace Go.Eng
open Go Go.RowKit Go.Proofs
set_option maxRecDepth 10000
abbrev NP := RNode × Node
structure NodeSays (r : RNode) (x : Node) : Prop where
  used : r.used = x.used
  rng : Rng x.ty ∧ (∀ s ∈ x.plus ++ x.less, 0 ≤ s.1 ∧ s.1 < 18446744073709551616 ∧ I64 s.2)
/-- A node's rows, in memory of one's own. -/
structure OwnN (lo : Nat) (w : World) (r : RNode) (x : Node) : Prop where
  ty : OwnTy lo w r.ty x.ty
  plus : Own encStp 2 71 lo w r.plus.a r.plus.n r.plus.c x.plus
  less : Own encStp 2 71 lo w r.less.a r.less.n r.less.c x.less
def Tight (r : RNode) : Prop := r.plus.c = r.plus.n ∧ r.less.c = r.less.n
theorem OwnN.is {lo : Nat} {w : World} {r : RNode} {x : Node} (h : OwnN lo w r x) (hs : NodeSays r x) : IsNode w r x := ⟨hs.used, h.ty.row, h.plus.row, h.less.row, hs.rng⟩
theorem IsNode.says {w : World} {r : RNode} {x : Node} (h : IsNode w r x) : NodeSays r x := ⟨h.used, h.rng⟩
theorem OwnN.below {lo : Nat} {w w' : World} {r : RNode} {x : Node} (h : OwnN lo w r x) (hB : Below w.heap.size w w') : OwnN lo w' r x := ⟨h.ty.below hB, h.plus.below hB, h.less.below hB⟩
theorem OwnN.mono {lo lo' : Nat} {w : World} {r : RNode} {x : Node} (h : OwnN lo w r x) (hl : lo' ≤ lo) : OwnN lo' w r x := ⟨h.ty.mono hl, h.plus.mono hl, h.less.mono hl⟩
/-- A row of another kind is turned. -/
theorem OwnN.keepBy {α : Type} {enc : α → List Value} {k : Nat} {e : TypeId} {lo lo' : Nat} {w w' : World} {a : Option Addr} {n c : Nat} {l : List α} {r : RNode} {x : Node} (h : OwnN lo w r x) (ho : Own enc k e lo' w a n c l) (hg : w.grownBy w' (a.map (·.block))) (h1 : 32 ≠ e) (h2 : 71 ≠ e) : OwnN lo w' r x :=
  ⟨ho.keepOwn hg h.ty h1, ho.keepOwn hg h.plus h2, ho.keepOwn hg h.less h2⟩
theorem OwnN.farB {lo : Nat} {w : World} {r : RNode} {x : Node} (h : OwnN lo w r x) {b : Nat} {cs : Array Value} {t : TypeId} {fr : Nat × Nat} (hb : w.heap[b]? = some (.cells cs t fr)) (h1 : t ≠ 32) (h2 : t ≠ 71) {j : Nat} (v : Value) : OwnN lo (w.setCell ⟨b, j, none⟩ v) r x :=
  ⟨h.ty.far hb h1 v, h.plus.far hb h2 v, h.less.far hb h2 v⟩
def sblk (r : RNode) : List Nat := (r.plus.a.map (·.block)).toList ++ (r.less.a.map (·.block)).toList
/-- The blocks of the steps. -/
def sblks (rs : List RNode) : List Nat := rs.flatMap sblk
/-- Nodes in memory of one's own, their rows too. -/
def DNodes (lo : Nat) (w : World) (a : Option Addr) (n c : Nat) (l : List Node) : Prop :=
  ∃ qs : List NP, qs.map (·.2) = l ∧ Own encNode 4 56 lo w a n c (qs.map (·.1)) ∧ ∀ p ∈ qs, NodeSays p.1 p.2 ∧ OwnN lo w p.1 p.2
/-- .. each step's row by itself, without room. -/
def DNodesT (lo : Nat) (w : World) (a : Option Addr) (n c : Nat) (l : List Node) : Prop :=
  ∃ qs : List NP, qs.map (·.2) = l ∧ Own encNode 4 56 lo w a n c (qs.map (·.1)) ∧ (∀ p ∈ qs, NodeSays p.1 p.2 ∧ OwnN lo w p.1 p.2 ∧ Tight p.1) ∧ (sblks (qs.map (·.1))).Nodup
theorem Nodes.pairs {w : World} {a : Option Addr} {n c : Nat} {l : List Node} (h : Nodes w a n c l) : ∃ ps : List NP, Row encNode w a n c (ps.map (·.1)) ∧ (∀ p ∈ ps, IsNode w p.1 p.2) ∧ ps.map (·.2) = l := by
  obtain ⟨rs, h1, h2⟩ := h
  have hl := h2.1
  refine ⟨rs.zip l, ?_, ?_, ?_⟩
  · rw [List.map_fst_zip (by omega)]; exact h1
  · intro p hp
    obtain ⟨i, hi, rfl⟩ := List.mem_iff_getElem.1 hp
    simp only [List.length_zip] at hi
    simpa using h2.2 i (by omega) (by omega)
  · rw [List.map_snd_zip (by omega)]
theorem all2_npairs {w : World} {ps : List NP} (h : ∀ p ∈ ps, IsNode w p.1 p.2) : All2 (IsNode w) (ps.map (·.1)) (ps.map (·.2)) :=
  ⟨by simp, fun i h1 h2 => by simp at h1; simpa using h _ (List.getElem_mem h1)⟩
theorem DNodes.nodes {lo : Nat} {w : World} {a : Option Addr} {n c : Nat} {l : List Node} (h : DNodes lo w a n c l) : Nodes w a n c l := by
  obtain ⟨qs, rfl, ho, hq⟩ := h
  exact ⟨_, ho.row, all2_npairs fun p hp => (hq p hp).2.is (hq p hp).1⟩
theorem DNodesT.d {lo : Nat} {w : World} {a : Option Addr} {n c : Nat} {l : List Node} (h : DNodesT lo w a n c l) : DNodes lo w a n c l := by
  obtain ⟨qs, h1, ho, hq, _⟩ := h
  exact ⟨qs, h1, ho, fun p hp => ⟨(hq p hp).1, (hq p hp).2.1⟩⟩
theorem DNodes.below {lo : Nat} {w w' : World} {a : Option Addr} {n c : Nat} {l : List Node} (h : DNodes lo w a n c l) (hB : Below w.heap.size w w') : DNodes lo w' a n c l := by
  obtain ⟨qs, rfl, ho, hq⟩ := h
  exact ⟨qs, rfl, ho.below hB, fun p hp => ⟨(hq p hp).1, (hq p hp).2.below hB⟩⟩
theorem DNodes.mono {lo lo' : Nat} {w : World} {a : Option Addr} {n c : Nat} {l : List Node} (h : DNodes lo w a n c l) (hl : lo' ≤ lo) : DNodes lo' w a n c l := by
  obtain ⟨qs, rfl, ho, hq⟩ := h
  exact ⟨qs, rfl, ho.mono hl, fun p hp => ⟨(hq p hp).1, (hq p hp).2.mono hl⟩⟩
theorem DNodes.len {lo : Nat} {w : World} {a : Option Addr} {n c : Nat} {l : List Node} (h : DNodes lo w a n c l) : n = l.length := h.nodes.len
theorem DNodes.nil {lo : Nat} {w : World} : DNodes lo w none 0 0 [] := ⟨[], rfl, Own.nil, by simp⟩
theorem DNodes.farB {lo : Nat} {w : World} {a : Option Addr} {n c : Nat} {l : List Node} (h : DNodes lo w a n c l) {b : Nat} {cs : Array Value} {t : TypeId} {fr : Nat × Nat} (hb : w.heap[b]? = some (.cells cs t fr)) (h0 : t ≠ 56) (h1 : t ≠ 32) (h2 : t ≠ 71) {j : Nat} (v : Value) : DNodes lo (w.setCell ⟨b, j, none⟩ v) a n c l := by
  obtain ⟨qs, rfl, ho, hq⟩ := h
  exact ⟨qs, rfl, ho.far hb h0 v, fun p hp => ⟨(hq p hp).1, (hq p hp).2.farB hb h1 h2 v⟩⟩
theorem DNodesT.farB {lo : Nat} {w : World} {a : Option Addr} {n c : Nat} {l : List Node} (h : DNodesT lo w a n c l) {b : Nat} {cs : Array Value} {t : TypeId} {fr : Nat × Nat} (hb : w.heap[b]? = some (.cells cs t fr)) (h0 : t ≠ 56) (h1 : t ≠ 32) (h2 : t ≠ 71) {j : Nat} (v : Value) : DNodesT lo (w.setCell ⟨b, j, none⟩ v) a n c l := by
  obtain ⟨qs, rfl, ho, hq, hn⟩ := h
  exact ⟨qs, rfl, ho.far hb h0 v, fun p hp => ⟨(hq p hp).1, (hq p hp).2.1.farB hb h1 h2 v, (hq p hp).2.2⟩, hn⟩
/-- Two cells of a box are put, and read again. -/
theorem put_back2 {W : World} {b : Nat} {v0 v1 : Value} {t : TypeId} {a a2 : Option Addr} {n c n2 c2 : Nat} (q : W.heap[b]? = some (.cells #[v0, v1] t (0, 0))) {K : Option Addr → Nat → Nat → Option Addr → Nat → Nat → World → Prop}
    (hK : ∀ W', W' = (W.setCell ⟨b, 0, none⟩ (.slice a n c)).setCell ⟨b, 1, none⟩ (.slice a2 n2 c2) → W'.heap[b]? = some (.cells #[.slice a n c, .slice a2 n2 c2] t (0, 0)) → K a n c a2 n2 c2 W') :
    ((W.cell? (Addr.mk b 0 none)).isSome = true ∧ W.frozen? (Addr.mk b 0 none) = false ∧ ((W.cell? ((Addr.mk b 0 none).add 1)).isSome = true ∧ W.frozen? ((Addr.mk b 0 none).add 1) = false ∧
    (∀ w4 : World, w4 = (W.setCell (Addr.mk b 0 none) (.slice a n c)).setCell ((Addr.mk b 0 none).add 1) (.slice a2 n2 c2) →
    (∃ (ra : Option Addr) (rn : Nat) (rc : Nat) (r2a : Option Addr) (r2n : Nat) (r2c : Nat), w4.cell? (Addr.mk b 0 none) = some (.slice ra rn rc) ∧ w4.cell? ((Addr.mk b 0 none).add 1) = some (.slice r2a r2n r2c) ∧ K ra rn rc r2a r2n r2c w4)))) := by
  refine ⟨blk_some q (by simp), blk_free q _, blk_some q (j := 1) (by simp), blk_free q 1, ?_⟩
  rintro w4 h4
  have hq : w4.heap[b]? = some (.cells #[.slice a n c, .slice a2 n2 c2] t (0, 0)) := by rw [h4]; exact blk_set (blk_set q 0 _) 1 _
  exact ⟨a, n, c, a2, n2, c2, blk_cell hq 0, blk_cell hq 1, hK w4 h4 hq⟩
end Go.Eng
namespace Go.Eng
open Go Go.RowKit Go.Proofs
set_option maxRecDepth 10000
theorem DNodesT.below {lo : Nat} {w w' : World} {a : Option Addr} {n c : Nat} {l : List Node} (h : DNodesT lo w a n c l) (hB : Below w.heap.size w w') : DNodesT lo w' a n c l := by
  obtain ⟨qs, rfl, ho, hq, hn⟩ := h
  exact ⟨qs, rfl, ho.below hB, fun p hp => ⟨(hq p hp).1, (hq p hp).2.1.below hB, (hq p hp).2.2⟩, hn⟩
theorem DNodesT.mono {lo lo' : Nat} {w : World} {a : Option Addr} {n c : Nat} {l : List Node} (h : DNodesT lo w a n c l) (hl : lo' ≤ lo) : DNodesT lo' w a n c l := by
  obtain ⟨qs, rfl, ho, hq, hn⟩ := h
  exact ⟨qs, rfl, ho.mono hl, fun p hp => ⟨(hq p hp).1, (hq p hp).2.1.mono hl, (hq p hp).2.2⟩, hn⟩
theorem DNodesT.keepBy {α : Type} {enc : α → List Value} {k : Nat} {e : TypeId} {lo lo' : Nat} {w w' : World} {a a' : Option Addr} {n c n' c' : Nat} {l : List α} {L : List Node} (h : DNodesT lo w a' n' c' L) (ho : Own enc k e lo' w a n c l) (hg : w.grownBy w' (a.map (·.block))) (h0 : 56 ≠ e) (h1 : 32 ≠ e) (h2 : 71 ≠ e) : DNodesT lo w' a' n' c' L := by
  obtain ⟨qs, rfl, hoo, hq, hn⟩ := h
  exact ⟨qs, rfl, ho.keepOwn hg hoo h0, fun p hp => ⟨(hq p hp).1, (hq p hp).2.1.keepBy ho hg h1 h2, (hq p hp).2.2⟩, hn⟩
theorem sblks_snoc (l : List RNode) (r : RNode) : sblks (l ++ [r]) = sblks l ++ sblk r := by simp [sblks]
theorem OwnN.sblk_lt {lo : Nat} {w : World} {r : RNode} {x : Node} (h : OwnN lo w r x) : ∀ b ∈ sblk r, lo ≤ b ∧ b < w.heap.size := by
  intro b hb
  simp only [sblk, List.mem_append, Option.mem_toList, Option.map_eq_some_iff] at hb
  rcases hb with ⟨p, hp, rfl⟩ | ⟨p, hp, rfl⟩
  · exact h.plus.lt hp
  · exact h.less.lt hp
section
variable {w : World} {a sa : Option Addr} {n c sn sc : Nat} {G : PG}
theorem k_gown (h : Grf w a n c sa sn sc G) (hs : SmallG G) : Cl Tryz.prog 62 #[.agg #[.slice a n c, .slice sa sn sc]] w (fun v w' => ∃ g g' : Nat, v = .agg #[.slice (some ⟨g, 0, none⟩) n n, .slice (some ⟨g', 0, none⟩) sn sn] ∧ DNodesT w.heap.size w' (some ⟨g, 0, none⟩) n n G.nodes ∧ DEnts w.heap.size w' (some ⟨g', 0, none⟩) sn sn G.slots ∧ Below w.heap.size w w') := by
  refine c62 _ _ _ _ _ _ ?_
  have hs1 := hs.n.1; have hs2 := hs.s
  have hnl := h.nodes.len; have hsl := h.slots.len
  obtain ⟨ps, hrow, hps, hpG⟩ := h.nodes.pairs
  obtain ⟨es, hrowE, hes, heG⟩ := h.slots.pairs
  have hpl : ps.length = n := by rw [hnl, ← hpG]; simp
  have hel : es.length = sn := by rw [hsl, ← heG]; simp
  rintro _ w1 rfl h1 _ w2 rfl h2
  have q1 : w2.heap[w.heap.size]? = some (.cells #[.slice a n c, .slice sa sn sc] 27) := by rw [h2, h1]; exact blk_alloc (blk_new _)
  have q2 : w2.heap[w1.heap.size]? = some (.cells #[.slice none 0 0, .slice none 0 0] 27) := by rw [h2]; exact blk_new _
  have z1 : w1.heap.size = w.heap.size + 1 := by rw [h1, size_alloc]
  have B2 : Below w.heap.size w w2 := by rw [h2, h1]; exact (alloc_below w _).alloc (by rw [size_alloc]; omega) _
  clear h1 h2
  rintro _ rfl
  have q13 := blk_drew q1
  have q23 := blk_drew q2
  have B3 := B2.drew
  generalize w2.drew = w3 at q13 q23 B3
  clear q1 q2 B2
  refine ⟨_, _, _, blk_cell q13 0, _, _, _, blk_cell q13 1, (k_clonedNodes (hrow.below B3) (by omega)).mono ?_⟩
  rintro _ w4 ⟨g, n', rfl, ho4, B4', hg4⟩
  obtain rfl : n' = n := by have := ho4.len; simp at this; omega
  have B4 := B3.trans (B4'.mono B3.size)
  have q14 := blk_below q13 B4' (blk_lt q13)
  have q24 := blk_below q23 B4' (blk_lt q23)
  refine ⟨_, _, _, rfl, blk_cell q14 1, (k_clonedEnts (hrowE.below B4) (by omega)).mono ?_⟩
  rintro _ w5 ⟨g', sn', rfl, ho5, B5', hg5⟩
  obtain rfl : sn' = sn := by have := ho5.len; simp at this; omega
  have B5 := B4.trans (B5'.mono B4.size)
  have q15 := blk_below q14 B5' (blk_lt q14)
  have q25 := blk_below q24 B5' (blk_lt q24)
  have oN5 := (ho4.below B5').mono B3.size
  have oE5 := ho5.mono B4.size
  refine ⟨_, _, _, rfl, blk_some q15 (by simp), blk_free q15 _, ?_⟩
  rintro w6 h6
  have q16 : w6.heap[w.heap.size]? = some (.cells #[.slice (some ⟨g, 0, none⟩) n' n', .slice sa sn' sc] 27) := by rw [h6]; exact blk_set q15 0 _
  refine ⟨blk_some q16 (j := 1) (by simp), blk_free q16 1, ?_⟩
  rintro w7 h7
  have q17 : w7.heap[w.heap.size]? = some (.cells #[.slice (some ⟨g, 0, none⟩) n' n', .slice (some ⟨g', 0, none⟩) sn' sn'] 27) := by rw [h7]; exact blk_set q16 1 _
  have q27 : w7.heap[w1.heap.size]? = some (.cells #[.slice none 0 0, .slice none 0 0] 27) := by
    rw [h7]; refine blk_far ?_ (by show w1.heap.size ≠ w.heap.size; omega) _
    rw [h6]; exact blk_far q25 (by show w1.heap.size ≠ w.heap.size; omega) _
  have B7 : Below w.heap.size w w7 := by rw [h7, h6]; exact (B5.setCell (Nat.le_refl _) _).setCell (Nat.le_refl _) _
  have oN7 : Own encNode 4 56 w.heap.size w7 (some ⟨g, 0, none⟩) n' n' (ps.map (·.1)) := by
    rw [h7]; refine Own.far ?_ q16 (by decide) _
    rw [h6]; exact oN5.far q15 (by decide) _
  have oE7 : Own encEnt 3 94 w.heap.size w7 (some ⟨g', 0, none⟩) sn' sn' (es.map (·.1)) := by
    rw [h7]; refine Own.far ?_ q16 (by decide) _
    rw [h6]; exact oE5.far q15 (by decide) _
  clear h6 h7 q16 q15 q25 oN5 oE5 q14 q24 q13 q23
  have hn63 := oN7.2.2.1
  have hsn63 := oE7.2.2.1
  simp only [maxLen] at hn63 hsn63
  refine ⟨_, _, _, blk_cell q17 0, fun _ W => (Below w.heap.size w W ∧ W.heap[w.heap.size]? = some (.cells #[.slice (some ⟨g, 0, none⟩) n' n', .slice (some ⟨g', 0, none⟩) sn' sn'] 27) ∧ W.heap[w1.heap.size]? = some (.cells #[.slice none 0 0, .slice none 0 0] 27)) ∧
      Own encEnt 3 94 w.heap.size W (some ⟨g', 0, none⟩) sn' sn' (es.map (·.1)) ∧ DNodesT w.heap.size W (some ⟨g, 0, none⟩) n' n' G.nodes, ?_, ?_⟩
  · -- the nodes
    refine ⟨fun i W => (Below w.heap.size w W ∧ W.heap[w.heap.size]? = some (.cells #[.slice (some ⟨g, 0, none⟩) n' n', .slice (some ⟨g', 0, none⟩) sn' sn'] 27) ∧ W.heap[w1.heap.size]? = some (.cells #[.slice none 0 0, .slice none 0 0] 27)) ∧
        Own encEnt 3 94 w.heap.size W (some ⟨g', 0, none⟩) sn' sn' (es.map (·.1)) ∧
        ∃ (k : Nat) (qs : List NP), i = k ∧ k ≤ n' ∧ qs.map (·.2) = G.nodes ∧ Own encNode 4 56 w.heap.size W (some ⟨g, 0, none⟩) n' n' (qs.map (·.1)) ∧ (∀ p ∈ qs, NodeSays p.1 p.2) ∧
          (∀ j (hj : j < qs.length), j < k → OwnN w.heap.size W qs[j].1 qs[j].2 ∧ Tight qs[j].1) ∧ (sblks ((qs.map (·.1)).take k)).Nodup ∧ (∀ j (hj : j < qs.length), k ≤ j → IsNode w qs[j].1 qs[j].2), fun i _ => n' - i.toNat,
      ⟨⟨B7, q17, q27⟩, oE7, 0, ps, rfl, by omega, hpG, oN7, fun p hp => (hps p hp).says, fun j hj h => by omega, by simp [sblks], fun j hj _ => hps _ (List.getElem_mem hj)⟩, ?_⟩
    rintro _ W _ ⟨⟨hB, qb, qb2⟩, oE, k, qs, rfl, hk, hsnd, ho, hsay, hown, hnd, hrest⟩
    have hql : qs.length = n' := by have := ho.len; simpa using this.symm
    refine cnd (fun hc => ?_) fun hc => ?_
    · have hkm : k < n' := by simpa using hc
      have hkq : k < qs.length := by omega
      have hkG : k < G.nodes.length := by omega
      have hqG : qs[k].2 = G.nodes[k] := by
        have : (qs.map (·.2))[k]'(by simpa using hkq) = G.nodes[k] := by simp only [hsnd]
        simpa using this
      have hsm := hs.n.2 _ (List.getElem_mem hkG)
      rw [← hqG] at hsm
      have hX := hrest k hkq (Nat.le_refl _)
      have e0 : (qs.map (·.1))[k]'(by simpa using hkq) = qs[k].1 := by simp
      refine ho.row.nodeN hkm fun hl => box_node fun w10 s10 B10' => ?_
      rw [e0] at s10
      have s11 := blk_drew s10
      have B11' := B10'.drew
      rintro _ rfl
      have hB11 := hB.trans (B11'.mono hB.size)
      have qb11 := blk_below qb B11' (blk_lt qb)
      have t1 := hX.ty.len; have t2 := hX.plus.len; have t3 := hX.less.len
      refine ⟨_, _, _, blk_cell qb11 0, _, _, _, blk_cell qb11 0, _, _, _, blk_cell qb11 0, _, _, _, blk_cell s11 1, _, _, _, blk_cell s11 2, _, _, _, blk_cell s11 3, (k_clonedIds (hX.ty.below hB11) (by omega)).mono ?_⟩
      rintro _ w12 ⟨a12, n12, c12, rfl, ho12, B12'⟩
      have B12 := B11'.trans (B12'.mono B11'.size)
      have hB12 := hB11.trans (B12'.mono hB11.size)
      have qb12 := blk_below qb11 B12' (blk_lt qb11)
      have s12 := blk_below s11 B12' (blk_lt s11)
      refine ⟨_, _, _, rfl, blk_cell s12 3, blk_cell s12 2, blk_cell qb12 0, blk_cell qb12 0, blk_cell qb12 0, (k_clonedSteps (hX.plus.below hB12) (by omega)).mono ?_⟩
      rintro _ w13 ⟨g13, n13, rfl, ho13, B13', hg13⟩
      have B13 := B12.trans (B13'.mono B12.size)
      have hB13 := hB12.trans (B13'.mono hB12.size)
      have qb13 := blk_below qb12 B13' (blk_lt qb12)
      have s13 := blk_below s12 B13' (blk_lt s12)
      refine ⟨_, _, _, rfl, blk_cell s13 3, blk_cell qb13 0, blk_cell qb13 0, blk_cell qb13 0, (k_clonedSteps (hX.less.below hB13) (by omega)).mono ?_⟩
      rintro _ w14 ⟨g14, n14, rfl, ho14, B14', hg14⟩
      have B14 := B13.trans (B14'.mono B13.size)
      have hB14 := hB13.trans (B14'.mono hB13.size)
      have qb14 := blk_below qb13 B14' (blk_lt qb13)
      have qb214 := blk_below qb2 B14 (blk_lt qb2)
      refine ⟨_, _, _, rfl, blk_cell qb14 0, blk_cell qb14 0, blk_cell qb14 0, ?_⟩
      obtain ⟨ga, hga, hgl, hc1, hc2, hput1, hgr1, _⟩ := (ho.below B14).put1 enNode (i := k) (j := 1) hkm (by decide) (.slice a12 n12 c12) ⟨qs[k].1.used, ⟨a12, n12, c12⟩, qs[k].1.plus, qs[k].1.less⟩ (fun hl => by simp [encNode])
      cases hga
      refine ⟨_, rfl, by omega, by omega, ?_⟩
      rw [Int.toNat_natCast]
      refine ⟨hc1, hc2, ?_⟩
      rintro w15 h15
      rw [← h15] at hput1 hgr1
      have qb15 := (ho.below B14).keepBlk hgr1 qb14 (.inl (by decide))
      refine ⟨blk_cell qb15 0, blk_cell qb15 0, ?_⟩
      obtain ⟨ga, hga, _, hc1, hc2, hput2, hgr2, _⟩ := hput1.put1 enNode (i := k) (j := 2) hkm (by decide) (.slice (some ⟨g13, 0, none⟩) n13 n13) ⟨qs[k].1.used, ⟨a12, n12, c12⟩, ⟨some ⟨g13, 0, none⟩, n13, n13⟩, qs[k].1.less⟩ (fun hl => by simp [encNode])
      cases hga
      refine ⟨_, rfl, by omega, by omega, ?_⟩
      refine ⟨hc1, hc2, ?_⟩
      rintro w16 h16
      rw [← h16] at hput2 hgr2
      have qb16 := hput1.keepBlk hgr2 qb15 (.inl (by decide))
      refine ⟨blk_cell qb16 0, ?_⟩
      obtain ⟨ga, hga, _, hc1, hc2, hput3, hgr3, _⟩ := hput2.put1 enNode (i := k) (j := 3) hkm (by decide) (.slice (some ⟨g14, 0, none⟩) n14 n14) ⟨qs[k].1.used, ⟨a12, n12, c12⟩, ⟨some ⟨g13, 0, none⟩, n13, n13⟩, ⟨some ⟨g14, 0, none⟩, n14, n14⟩⟩ (fun hl => by simp [encNode])
      cases hga
      refine ⟨_, rfl, by omega, by omega, ?_⟩
      refine ⟨hc1, hc2, ?_⟩
      rintro w17 h17
      rw [← h17] at hput3 hgr3
      have hgA : w14.grownBy w17 ((some (⟨g, 0, none⟩ : Addr)).map (·.block)) := grown_trans (grown_trans hgr1 hgr2) hgr3
      have oA := ho.below B14
      have qb17 := oA.keepBlk hgA qb14 (.inl (by decide))
      have qb217 := oA.keepBlk hgA qb214 (.inl (by decide))
      rw [nx (by omega)]
      have hcol : (((qs.map (·.1)).set k ⟨qs[k].1.used, ⟨a12, n12, c12⟩, qs[k].1.plus, qs[k].1.less⟩).set k ⟨qs[k].1.used, ⟨a12, n12, c12⟩, ⟨some ⟨g13, 0, none⟩, n13, n13⟩, qs[k].1.less⟩).set k ⟨qs[k].1.used, ⟨a12, n12, c12⟩, ⟨some ⟨g13, 0, none⟩, n13, n13⟩, ⟨some ⟨g14, 0, none⟩, n14, n14⟩⟩ = (qs.set k (⟨qs[k].1.used, ⟨a12, n12, c12⟩, ⟨some ⟨g13, 0, none⟩, n13, n13⟩, ⟨some ⟨g14, 0, none⟩, n14, n14⟩⟩, qs[k].2)).map (·.1) := by
        rw [List.set_set, List.set_set, List.map_set]
      rw [hcol] at hput3
      have hnew : OwnN w.heap.size w17 ⟨qs[k].1.used, ⟨a12, n12, c12⟩, ⟨some ⟨g13, 0, none⟩, n13, n13⟩, ⟨some ⟨g14, 0, none⟩, n14, n14⟩⟩ qs[k].2 := by
        refine OwnN.keepBy ⟨?_, ?_, ?_⟩ oA hgA (by decide) (by decide)
        · exact ((ho12.below B13').below B14').mono hB11.size
        · exact (ho13.below B14').mono hB12.size
        · exact ho14.mono hB13.size
      refine ⟨⟨⟨hB14.trans (oA.belowOf hgA hB14.size), qb17, qb217⟩, oA.keepOwn hgA (oE.below B14) (by decide), k + 1, qs.set k (⟨qs[k].1.used, ⟨a12, n12, c12⟩, ⟨some ⟨g13, 0, none⟩, n13, n13⟩, ⟨some ⟨g14, 0, none⟩, n14, n14⟩⟩, qs[k].2), rfl, by omega, ?_, hput3, ?_, ?_, ?_, ?_⟩, dec hkm⟩
      · rw [List.map_set, ← hsnd]
        exact List.ext_getElem? fun j => by
          rw [List.getElem?_set]
          split
          · rename_i hkj; subst hkj; simp [hkq]
          · rfl
      · intro p hp
        rcases List.mem_or_eq_of_mem_set hp with hp | rfl
        · exact hsay p hp
        · have := hsay _ (List.getElem_mem hkq); exact ⟨this.used, this.rng⟩
      · intro j hj hjk
        rw [List.getElem_set]
        split
        · exact ⟨hnew, rfl, rfl⟩
        · rename_i hne
          have h1 := hown j (by simpa using hj) (by omega)
          exact ⟨(h1.1.below B14).keepBy oA hgA (by decide) (by decide), h1.2⟩
      · rw [List.map_set, take_one (by simpa using hkq), List.take_set_of_le (Nat.le_refl _), List.getElem_set_self, sblks_snoc, List.nodup_append]
        refine ⟨hnd, ?_, ?_⟩
        · have e13 := (ho13.lt rfl).2
          simp only [sblk, Option.map_some, Option.toList_some, List.singleton_append, List.nodup_cons, List.mem_singleton, List.not_mem_nil, not_false_eq_true, List.nodup_nil, and_true]
          dsimp only at e13 ⊢; omega
        · intro x hx y hy
          obtain ⟨r, hr, hxr⟩ := List.mem_flatMap.1 hx
          obtain ⟨j, hj, rfl⟩ := List.mem_iff_getElem.1 hr
          have hj' : j < k ∧ j < qs.length := by simp at hj; omega
          have h1 := (hown j hj'.2 hj'.1).1.sblk_lt x (by simpa using hxr)
          have h2 : y = g13 ∨ y = g14 := by simpa [sblk] using hy
          have h3 := B12.size; have h4 := B13.size
          omega
      · intro j hj hjk
        rw [List.getElem_set_ne (by omega)]
        exact hrest j (by simpa using hj) (by omega)
    · have hkm : ¬ k < n' := by simpa using hc
      refine ⟨⟨hB, qb, qb2⟩, oE, qs, hsnd, ho, fun p hp => ?_, ?_⟩
      · obtain ⟨j, hj, rfl⟩ := List.mem_iff_getElem.1 hp
        exact ⟨hsay _ (List.getElem_mem hj), hown j hj (by omega)⟩
      · rwa [take_all (by simp; omega)] at hnd
  · -- the slots
    rintro _ W8 _ ⟨⟨hB8, qb8, qb28⟩, oE8, hD8⟩
    refine ⟨_, _, _, blk_cell qb8 1, fun i W => (Below w.heap.size w W ∧ W.heap[w.heap.size]? = some (.cells #[.slice (some ⟨g, 0, none⟩) n' n', .slice (some ⟨g', 0, none⟩) sn' sn'] 27) ∧ W.heap[w1.heap.size]? = some (.cells #[.slice none 0 0, .slice none 0 0] 27)) ∧ DNodesT w.heap.size W (some ⟨g, 0, none⟩) n' n' G.nodes ∧
        ∃ (k : Nat) (qs : List EP), i = k ∧ k ≤ sn' ∧ qs.map (·.2) = G.slots ∧ Own encEnt 3 94 w.heap.size W (some ⟨g', 0, none⟩) sn' sn' (qs.map (·.1)) ∧ (∀ p ∈ qs, EntSays p.1 p.2) ∧
        (∀ j (hj : j < qs.length), j < k → OwnTy w.heap.size W qs[j].1.ty qs[j].2.ty) ∧ (∀ j (hj : j < qs.length), k ≤ j → Row encId w qs[j].1.ty.a qs[j].1.ty.n qs[j].1.ty.c qs[j].2.ty), fun i _ => sn' - i.toNat,
      ⟨⟨hB8, qb8, qb28⟩, hD8, 0, es, rfl, by omega, heG, oE8, fun p hp => (hes p hp).says, fun j hj h => by omega, fun j hj _ => (hes _ (List.getElem_mem hj)).ty⟩, ?_⟩
    rintro _ W _ ⟨⟨hB, qb, qb2⟩, hD, k, qs, rfl, hk, hsnd, ho, hsay, hown, hrest⟩
    have hql : qs.length = sn' := by have := ho.len; simpa using this.symm
    refine cnd (fun hc => ?_) fun hc => ?_
    · have hkm : k < sn' := by simpa using hc
      have hkq : k < qs.length := by omega
      have hkG : k < G.slots.length := by omega
      have hqG : qs[k].2 = G.slots[k] := by
        have : (qs.map (·.2))[k]'(by simpa using hkq) = G.slots[k] := by simp only [hsnd]
        simpa using this
      have hsm := hs.t _ (List.getElem_mem hkG)
      rw [← hqG] at hsm
      refine ho.row.entN hkm fun hl => box_ent fun w12 s12 B12' => ?_
      have e0 : (qs.map (·.1))[k] = qs[k].1 := by simp
      rw [e0] at s12
      have hrk := hrest k hkq (Nat.le_refl _)
      have hrl := hrk.len
      rintro _ rfl
      have B13' := B12'.drew
      have hB13 := hB.trans (B13'.mono hB.size)
      have qb13 := blk_below qb B13' (blk_lt qb)
      refine ⟨_, _, _, blk_cell qb13 1, _, _, _, blk_cell (blk_drew s12) 1, (k_clonedIds (hrk.below hB13) (by omega)).mono ?_⟩
      rintro _ w14 ⟨a5, n5, c5, rfl, ho5', B14'⟩
      have hB14 := hB13.trans (B14'.mono hB13.size)
      have qb14 := blk_below qb13 B14' (blk_lt qb13)
      have B1314 := B13'.trans (B14'.mono B13'.size)
      have ho14 := ho.below B1314
      obtain ⟨ga, hga, hgl, hc1, hc2, hput, hgr, cs, hgb⟩ := ho14.put1 enEnt (i := k) (j := 1) hkm (by decide) (.slice a5 n5 c5) ⟨qs[k].1.st, ⟨a5, n5, c5⟩, qs[k].1.num⟩ (fun hl => by simp [encEnt])
      cases hga
      refine ⟨_, _, _, rfl, blk_cell qb14 1, _, rfl, by omega, by omega, ?_⟩
      rw [Int.toNat_natCast]
      refine ⟨hc1, hc2, ?_⟩
      rintro w15 h15
      rw [← h15] at hput hgr
      rw [nx (by omega)]
      have far : ∀ {a' : Option Addr} {n' c' : Nat} {l' : List Int}, Own encId 1 32 w.heap.size w14 a' n' c' l' → Own encId 1 32 w.heap.size w15 a' n' c' l' := fun ho' => ho14.keepOwn hgr ho' (fun e => tyIdEnt e.symm)
      refine ⟨⟨⟨hB14.trans (ho14.belowOf hgr hB14.size), ho14.keepBlk hgr qb14 (.inl (by decide)), ho14.keepBlk hgr (blk_below qb2 B1314 (blk_lt qb2)) (.inl (by decide))⟩, (hD.below B1314).keepBy ho14 hgr (by decide) (by decide) (by decide), k + 1, qs.set k (⟨qs[k].1.st, ⟨a5, n5, c5⟩, qs[k].1.num⟩, qs[k].2), rfl, by omega, ?_, ?_, ?_, ?_, ?_⟩, dec hkm⟩
      · rw [List.map_set, ← hsnd]
        exact List.ext_getElem? fun j => by
          rw [List.getElem?_set]
          split
          · rename_i hkj; subst hkj; simp [hkq]
          · rfl
      · rw [List.map_set]; exact hput
      · intro p hp
        rcases List.mem_or_eq_of_mem_set hp with hp | rfl
        · exact hsay p hp
        · have := hsay _ (List.getElem_mem hkq); exact ⟨this.st, this.num, this.rng⟩
      · intro j hj hjk
        rw [List.getElem_set]
        split
        · exact far (ho5'.mono hB13.size)
        · rename_i hne
          exact far ((hown j (by simpa using hj) (by omega)).below B1314)
      · intro j hj hjk
        rw [List.getElem_set_ne (by omega)]
        exact hrest j (by simpa using hj) (by omega)
    · have hkm : ¬ k < sn' := by simpa using hc
      refine ⟨_, _, _, _, _, _, blk_cell qb 0, blk_cell qb 1, put_back2 qb2 ?_⟩
      rintro W' hW' hq'
      have hEnd : DEnts w.heap.size W (some ⟨g', 0, none⟩) sn' sn' G.slots := ⟨qs, hsnd, ho, fun p hp => by
        obtain ⟨j, hj, rfl⟩ := List.mem_iff_getElem.1 hp
        exact ⟨hsay _ (List.getElem_mem hj), hown j hj (by omega)⟩⟩
      have qmid := blk_set qb2 0 (.slice (some ⟨g, 0, none⟩) n' n')
      refine ⟨g, g', rfl, ?_, ?_, ?_⟩
      · rw [hW']; exact (hD.farB qb2 (by decide) (by decide) (by decide) _).farB qmid (by decide) (by decide) (by decide) _
      · rw [hW']; exact (hEnd.farB qb2 (by decide) (by decide) _).farB qmid (by decide) (by decide) _
      · rw [hW']; exact (hB.setCell (by show w.heap.size ≤ w1.heap.size; omega) _).setCell (by show w.heap.size ≤ w1.heap.size; omega) _
end
end Go.Eng
namespace Go.Eng
open Go Go.RowKit Go.Proofs
set_option maxRecDepth 10000
/-- The place of the first node that's not used. -/
def freeIx (l : List Node) : Nat := l.findIdx fun x => !x.used
def setNode (l : List Node) (k : Nat) (x : Node) : List Node := if k < l.length then l.set k x else l ++ [x]
/-- A graph of which a node has a type, its number; the error. -/
def ofG (G : PG) (t : List Int) : PG × Int × Int :=
  if right2 t = false then (⟨[], []⟩, 0, 130)
  else if (findL G.slots t).2 = true then (G, (findL G.slots t).1, 0)
  else if (putL G.slots t ((freeIx G.nodes : Int) + 1)).2 ≠ 0 then (⟨[], []⟩, 0, (putL G.slots t ((freeIx G.nodes : Int) + 1)).2)
  else (⟨setNode G.nodes (freeIx G.nodes) ⟨true, t, [], []⟩, (putL G.slots t ((freeIx G.nodes : Int) + 1)).1⟩, (freeIx G.nodes : Int) + 1, 0)
theorem freeIx_le (l : List Node) : freeIx l ≤ l.length := List.findIdx_le_length
theorem isN_free {l : List Node} {k : Nat} (hk : k ≤ freeIx l) : isN l ((k : Int) + 1) = decide (k < freeIx l) := by
  have hle := freeIx_le l
  by_cases h : k < freeIx l
  · have hl : k < l.length := by omega
    have := List.not_of_lt_findIdx h
    have hu : l[k].used = true := by simpa using this
    have h1 : (1 : Int) ≤ (k : Int) + 1 := by omega
    have h2 : (k : Int) + 1 ≤ (l.length : Int) := by omega
    simp only [isN, node_eq hl, hu, h, h1, h2, decide_true, Bool.and_self]
  · have e : k = freeIx l := by omega
    subst e
    by_cases hl : freeIx l < l.length
    · have hu : l[freeIx l].used = false := by
        have h1 := List.findIdx_getElem (p := fun x : Node => !x.used) (xs := l) (w := hl)
        have h2 : (!l[freeIx l].used) = true := h1
        simpa using h2
      simp [isN, node_eq hl, hu]
    · have h2 : ¬ ((freeIx l : Nat) : Int) + 1 ≤ (l.length : Int) := by omega
      simp [isN, h2]
theorem layL_mem {l : List Entry} {x e : Entry} (h : e ∈ layL l x) : e ∈ l ∨ e = x := by
  unfold layL at h
  split at h
  · exact List.mem_or_eq_of_mem_set h
  · exact .inl h
theorem laidL_mem' : ∀ (l acc : List Entry) (e : Entry), e ∈ l.foldl layL acc → e ∈ acc ∨ e ∈ l
  | [], acc, e, h => .inl h
  | x :: l, acc, e, h => by
    rw [List.foldl_cons] at h
    rcases laidL_mem' l _ e h with h | h
    · rcases layL_mem h with h | rfl
      · exact .inl h
      · exact .inr (by simp)
    · exact .inr (by simp [h])
theorem laidL_mem {l : List Entry} {many : Nat} {e : Entry} (h : e ∈ laidL l many) : e = blankE ∨ e ∈ l := by
  rcases laidL_mem' _ _ _ h with h | h
  · exact .inl (List.eq_of_mem_replicate h)
  · exact .inr h
theorem all7_4000 {l : List Entry} (h : checkL l = true) : (all7 Entry.st Entry.ty l).length ≤ 4000 := by
  have h1 := (checkL_ok h).1
  simp only [preL, Bool.and_eq_true, decide_eq_true_eq] at h1
  have h2 := (all7_perm Entry.st Entry.ty l).length_eq
  have h3 : taken l = (l.filter fun e => e.st == 1).length + cnt l 2 := rfl
  omega
theorem all7_mem {l : List Entry} {e : Entry} (h : e ∈ all7 Entry.st Entry.ty l) : e ∈ l ∧ e.st = 1 := by
  have := (all7_perm Entry.st Entry.ty l).mem_iff.1 h
  rw [List.mem_filter] at this
  exact ⟨this.1, by simpa using this.2⟩
/-- What comes of a type more, where that went well. -/
theorem putL_ok {l : List Entry} {t : List Int} {num : Int} (h : (putL l t num).2 = 0) : checkL l = true ∧ right2 t = true ∧ 0 ≤ num ∧ place l t < 0 ∧ (all7 Entry.st Entry.ty l).length < 4000 ∧
    (putL l t num).1 = laidL (all7 Entry.st Entry.ty l ++ [⟨1, t, num⟩]) (manyOf ((all7 Entry.st Entry.ty l).length + 1)) := by
  unfold putL at h ⊢
  cases h1 : checkL l
  · simp [h1] at h
  cases h2 : right2 t
  · simp [h1, h2] at h
  by_cases h3 : num < 0
  · simp [h1, h2, h3] at h
  by_cases h4 : 0 ≤ place l t
  · simp [h1, h2, h3, h4] at h
  by_cases h5 : (all7 Entry.st Entry.ty l).length = 4000
  · simp [h1, h2, h3, h4, h5] at h
  have := all7_4000 h1
  simp only [h3, h4, h5, Bool.true_eq_false, if_false]
  exact ⟨trivial, trivial, by omega, by omega, by omega, trivial⟩
theorem putL_small {l : List Entry} {t : List Int} {num : Int} (h : (putL l t num).2 = 0) : (putL l t num).1.length ≤ 16100 ∧ ∀ e ∈ (putL l t num).1, e.ty.length ≤ 12 := by
  obtain ⟨h1, h2, h3, h4, h5, h6⟩ := putL_ok h
  rw [h6]
  have := manyOf_le ((all7 Entry.st Entry.ty l).length + 1)
  refine ⟨by rw [laidL_len]; omega, fun e he => ?_⟩
  rcases laidL_mem he with rfl | he
  · simp [blankE]
  · rcases List.mem_append.1 he with he | he
    · exact checkL_12 h1 e (all7_mem he).1 (all7_mem he).2
    · simp only [List.mem_singleton] at he
      subst he
      exact (right2_sorted h2).2
theorem sblks_set : ∀ (l : List RNode) (k : Nat) (r : RNode), sblk r = [] → (sblks (l.set k r)).Sublist (sblks l)
  | [], k, r, h => by simp
  | x :: l, 0, r, h => by
    simp only [List.set_cons_zero, sblks, List.flatMap_cons, h, List.nil_append]
    exact List.sublist_append_right _ _
  | x :: l, k + 1, r, h => by
    simp only [List.set_cons_succ, sblks, List.flatMap_cons]
    exact (List.Sublist.refl _).append (sblks_set l k r h)
theorem DNodesT.nil {lo : Nat} {w : World} : DNodesT lo w none 0 0 [] := ⟨[], rfl, Own.nil, by simp, by simp [sblks]⟩
/-- A graph in memory of its own, a number and an error. -/
def GrfE3 (w : World) (p : PG × Int × Int) (v : Value) (w' : World) : Prop :=
  ∃ a n c sa sn sc, v = .tuple #[.agg #[.slice a n c, .slice sa sn sc], .int .i64 p.2.1, .int .i64 p.2.2] ∧ DNodesT w.heap.size w' a n c p.1.nodes ∧ DEnts w.heap.size w' sa sn sc p.1.slots ∧ Below w.heap.size w w'
theorem grfE3 {w w' : World} {p : PG × Int × Int} {G : PG} {m e : Int} {a sa : Option Addr} {n c sn sc : Nat} (hp : p = (G, m, e)) (h1 : DNodesT w.heap.size w' a n c G.nodes) (h2 : DEnts w.heap.size w' sa sn sc G.slots) (hB : Below w.heap.size w w') :
    GrfE3 w p (.tuple #[.agg #[.slice a n c, .slice sa sn sc], .int .i64 m, .int .i64 e]) w' := by
  subst hp; exact ⟨_, _, _, _, _, _, rfl, h1, h2, hB⟩
def blankRN : RNode := ⟨false, ⟨none, 0, 0⟩, ⟨none, 0, 0⟩, ⟨none, 0, 0⟩⟩
def blankN : Node := ⟨false, [], [], []⟩
theorem says_blankN : NodeSays blankRN blankN := ⟨rfl, fun x hx => by simp [blankN] at hx, fun s hs => by simp [blankN] at hs⟩
theorem own_blankN {lo : Nat} {w : World} : OwnN lo w blankRN blankN := ⟨Own.nil, Own.nil, Own.nil⟩
section
variable {w : World} {a sa la : Option Addr} {n c sn sc ln lc : Nat} {G : PG} {t : List Int}
set_option maxHeartbeats 1000000
theorem k_gof (h : Grf w a n c sa sn sc G) (hs : SmallG G) (ht : Row encId w la ln lc t) (hr : Rng t) :
    Cl Tryz.prog 52 #[.agg #[.slice a n c, .slice sa sn sc], .slice la ln lc] w (GrfE3 w (ofG G t)) := by
  refine c52 _ _ _ _ _ _ _ _ _ ?_
  have hs1 := hs.n.1; have hs2 := hs.s
  have hnl := h.nodes.len; have hsl := h.slots.len
  rintro _ w1 rfl h1 _ w2 rfl h2
  have q1 : w2.heap[w.heap.size]? = some (.cells #[.slice a n c, .slice sa sn sc] 27) := by rw [h2, h1]; exact blk_alloc (blk_new _)
  have q2 : w2.heap[w1.heap.size]? = some (.cells #[.slice none 0 0, .slice none 0 0] 27) := by rw [h2]; exact blk_new _
  have z1 : w1.heap.size = w.heap.size + 1 := by rw [h1, size_alloc]
  have B2 : Below w.heap.size w w2 := by rw [h2, h1]; exact (alloc_below w _).alloc (by rw [size_alloc]; omega) _
  clear h1 h2
  have hw1 : w.heap.size ≤ w1.heap.size := by omega
  -- the ways out
  have put2 : ∀ {W : World} {G' : PG} {m e : Int} {a' : Option Addr} {n' c' : Nat} {sa' : Option Addr} {sn' sc' : Nat} {v0 v1 : Value}, W.heap[w1.heap.size]? = some (.cells #[v0, v1] 27) → ofG G t = (G', m, e) → DNodesT w.heap.size W a' n' c' G'.nodes → DEnts w.heap.size W sa' sn' sc' G'.slots → Below w.heap.size w W →
      ∀ W', W' = (W.setCell ⟨w1.heap.size, 0, none⟩ (.slice a' n' c')).setCell ⟨w1.heap.size, 1, none⟩ (.slice sa' sn' sc') → W'.heap[w1.heap.size]? = some (.cells #[.slice a' n' c', .slice sa' sn' sc'] 27) →
      GrfE3 w (ofG G t) (.tuple #[.agg #[.slice a' n' c', .slice sa' sn' sc'], .int .i64 m, .int .i64 e]) W' := by
    intro W G' m e a' n' c' sa' sn' sc' v0 v1 hq hp hn' he hB W' hW' hq'
    have qm := blk_set hq 0 (.slice a' n' c')
    rw [hW']
    exact grfE3 hp ((hn'.farB hq (by decide) (by decide) (by decide) _).farB qm (by decide) (by decide) (by decide) _) ((he.farB hq (by decide) (by decide) _).farB qm (by decide) (by decide) _) ((hB.setCell hw1 _).setCell hw1 _)
  refine (k_tCheck (ht.below B2)).gives fun w3 B3' => ⟨_, rfl, ?_⟩
  have B3 := B2.trans (B3'.mono B2.size)
  have q13 := blk_below q1 B3' (blk_lt q1)
  have q23 := blk_below q2 B3' (blk_lt q2)
  cases hr2 : right2 t with
  | false =>
    rw [show check2 t = 130 by simp [check2, hr2]]
    refine cnd (fun _ => ?_) fun g => absurd g (by decide)
    exact put_back2 q23 (put2 (G' := ⟨[], []⟩) q23 (by simp [ofG, hr2]) DNodesT.nil DEnts.nil B3)
  | true =>
  rw [show check2 t = 0 by simp [check2, hr2]]
  refine cnd (fun g => absurd g (by decide)) fun _ => ?_
  have h12 := (right2_sorted hr2).2
  have htl := ht.len
  refine ⟨_, _, _, blk_cell q13 1, (k_lFind (h.slots.below B3) (ht.below B3) hr (by omega)).gives fun w5 B5' => ⟨_, _, rfl, ?_⟩⟩
  have B5 := B3.trans (B5'.mono B3.size)
  have q15 := blk_below q13 B5' (blk_lt q13)
  have q25 := blk_below q23 B5' (blk_lt q23)
  refine cnd (fun g => ?_) fun g => ?_
  · refine ⟨_, _, _, _, _, _, blk_cell q15 0, blk_cell q15 1, (k_gown (h.below B5) hs).mono ?_⟩
    rintro _ w6 ⟨g6, g6', rfl, hN, hEn, B6'⟩
    have B6 := B5.trans (B6'.mono B5.size)
    have q26 := blk_below q25 B6' (blk_lt q25)
    refine ⟨_, _, _, _, _, _, rfl, put_back2 q26 (put2 q26 (by simp [ofG, hr2, g]) (hN.mono B5.size) (hEn.mono B5.size) B6)⟩
  have hle := freeIx_le G.nodes
  refine ⟨fun m W => (Below w.heap.size w W ∧ W.heap[w.heap.size]? = some (.cells #[.slice a n c, .slice sa sn sc] 27) ∧ W.heap[w1.heap.size]? = some (.cells #[.slice none 0 0, .slice none 0 0] 27)) ∧ m = ((freeIx G.nodes : Nat) : Int) + 1, ?_, ?_⟩
  · refine ⟨fun m W => (Below w.heap.size w W ∧ W.heap[w.heap.size]? = some (.cells #[.slice a n c, .slice sa sn sc] 27) ∧ W.heap[w1.heap.size]? = some (.cells #[.slice none 0 0, .slice none 0 0] 27)) ∧ ∃ k : Nat, m = (k : Int) + 1 ∧ k ≤ freeIx G.nodes, fun m _ => 10000000 - m.toNat, ⟨⟨B5, q15, q25⟩, 0, rfl, by omega⟩, ?_⟩
    rintro _ W _ ⟨⟨hB, qb, qb2⟩, k, rfl, hk⟩
    refine ⟨_, _, _, _, _, _, blk_cell qb 0, blk_cell qb 1, (k_gis (h.nodes.below hB) _ (by simp only [I64]; omega)).gives fun w9 B9' => ⟨_, rfl, ?_⟩⟩
    have B9 := hB.trans (B9'.mono hB.size)
    have q19 := blk_below qb B9' (blk_lt qb)
    have q29 := blk_below qb2 B9' (blk_lt qb2)
    rw [isN_free hk]
    refine cnd (fun g1 => ?_) fun g1 => ?_
    · have hlt : k < freeIx G.nodes := of_decide_eq_true g1
      rw [wrap64 (by omega) (by omega)]
      exact ⟨⟨⟨B9, q19, q29⟩, k + 1, by omega, hlt⟩, by simp only []; omega⟩
    · have hge : ¬ k < freeIx G.nodes := of_decide_eq_false g1
      exact ⟨⟨B9, q19, q29⟩, by omega⟩
  rintro _ W _ ⟨⟨hB, qb, qb2⟩, rfl⟩
  generalize hk0 : freeIx G.nodes = k0 at *
  refine ⟨_, _, _, blk_cell qb 1, (k_lPut (h.slots.below hB) (by omega) (ht.below hB) hr (by simp only [I64]; omega)).mono ?_⟩
  rintro _ w11 ⟨a11, n11, c11, rfl, hd11, B11'⟩
  have B11 := hB.trans (B11'.mono hB.size)
  have q111 := blk_below qb B11' (blk_lt qb)
  have q211 := blk_below qb2 B11' (blk_lt qb2)
  refine ⟨_, _, _, _, rfl, ?_⟩
  rintro _ w12 rfl h12'
  have r12 : w12.heap[w11.heap.size]? = some (.cells #[.slice none 0 0] 25) := by rw [h12']; exact blk_new _
  have B12' : Below w11.heap.size w11 w12 := by rw [h12']; exact alloc_below _ _
  clear h12'
  refine ⟨blk_some r12 (by decide), blk_free r12 _, ?_⟩
  rintro w13 h13
  have r13 : w13.heap[w11.heap.size]? = some (.cells #[.slice a11 n11 c11] 25) := by rw [h13]; exact blk_set r12 0 _
  have B13' : Below w11.heap.size w11 w13 := by rw [h13]; exact B12'.setCell (Nat.le_refl _) _
  have B13 := B11.trans (B13'.mono B11.size)
  have q113 := blk_below q111 B13' (blk_lt q111)
  have q213 := blk_below q211 B13' (blk_lt q211)
  have hd13 := (hd11.below B13').mono (lo' := w.heap.size) hB.size
  clear h13 B12' r12
  refine cnd (fun g1 => ?_) fun g1 => ?_
  · have hne : (putL G.slots t ((k0 : Int) + 1)).2 ≠ 0 := by
      intro h0; rw [h0] at g1; simp at g1
    exact put_back2 q213 (put2 (G' := ⟨[], []⟩) q213 (by simp [ofG, hr2, g, hk0, hne]) DNodesT.nil DEnts.nil B13)
  have hpe : (putL G.slots t ((k0 : Int) + 1)).2 = 0 := by simpa using g1
  obtain ⟨hps1, hps2⟩ := putL_small hpe
  refine ⟨_, _, _, blk_cell r13 0, blk_some q113 (j := 1) (by simp), blk_free q113 1, ?_⟩
  rintro w15 h15
  have q115 : w15.heap[w.heap.size]? = some (.cells #[.slice a n c, .slice a11 n11 c11] 27) := by rw [h15]; exact blk_set q113 1 _
  have q215 : w15.heap[w1.heap.size]? = some (.cells #[.slice none 0 0, .slice none 0 0] 27) := by rw [h15]; exact blk_far q213 (by show w1.heap.size ≠ w.heap.size; omega) _
  have B15 : Below w.heap.size w w15 := by rw [h15]; exact B13.setCell (Nat.le_refl _) _
  have hd15 : DEnts w.heap.size w15 a11 n11 c11 (putL G.slots t ((k0 : Int) + 1)).1 := by rw [h15]; exact hd13.farB q113 (by decide) (by decide) _
  clear h15
  refine ⟨_, _, _, _, _, _, blk_cell q115 0, blk_cell q115 1, (k_gown (G := ⟨G.nodes, (putL G.slots t ((k0 : Int) + 1)).1⟩) ⟨h.nodes.below B15, hd15.ents⟩ ⟨hs.n, by show (putL G.slots t ((k0 : Int) + 1)).1.length ≤ _; omega, fun e he => by have := hps2 e he; omega⟩).mono ?_⟩
  rintro _ w16 ⟨g16, g16', rfl, hN, hEn, B16'⟩
  have B16 := B15.trans (B16'.mono B15.size)
  have q116 := blk_below q115 B16' (blk_lt q115)
  have q216 := blk_below q215 B16' (blk_lt q215)
  refine ⟨_, _, _, _, _, _, rfl, blk_some q116 (by simp), blk_free q116 _, blk_some q116 (j := 1) (by simp), blk_free q116 1, ?_⟩
  rintro w17 h17
  have qm := blk_set q116 0 (.slice (some ⟨g16, 0, none⟩) n n)
  have q117 : w17.heap[w.heap.size]? = some (.cells #[.slice (some ⟨g16, 0, none⟩) n n, .slice (some ⟨g16', 0, none⟩) n11 n11] 27) := by rw [h17]; exact blk_set qm 1 _
  have q217 : w17.heap[w1.heap.size]? = some (.cells #[.slice none 0 0, .slice none 0 0] 27) := by
    rw [h17]; exact blk_far (blk_far q216 (by show w1.heap.size ≠ w.heap.size; omega) _) (by show w1.heap.size ≠ w.heap.size; omega) _
  have B17 : Below w.heap.size w w17 := by rw [h17]; exact (B16.setCell (Nat.le_refl _) _).setCell (Nat.le_refl _) _
  have hN17 : DNodesT w.heap.size w17 (some ⟨g16, 0, none⟩) n n G.nodes := by
    rw [h17]; exact ((hN.mono B15.size).farB q116 (by decide) (by decide) (by decide) _).farB qm (by decide) (by decide) (by decide) _
  have hE17 : DEnts w.heap.size w17 (some ⟨g16', 0, none⟩) n11 n11 (putL G.slots t ((k0 : Int) + 1)).1 := by
    rw [h17]; exact ((hEn.mono B15.size).farB q116 (by decide) (by decide) _).farB qm (by decide) (by decide) _
  clear h17 qm q116 q216 hN hEn
  obtain ⟨L, hLs, oL, hL, hnd⟩ := hN17
  have hLl : L.length = n := by have := oL.len; simpa using this.symm
  have p2k : IntKind.i64.wrap ((k0 : Int) + 1 - 1) = (k0 : Int) := pre2 (by omega)
  rw [p2k]
  refine ⟨_, _, _, blk_cell q117 0, cnd (fun g2 => ?_) fun g2 => ?_⟩
  -- one more node
  have hkn : k0 = n := by have := of_decide_eq_true g2; omega
  refine ⟨_, _, _, blk_cell q117 0, app1 tyNodes enNode oL B17.size blankRN (by simp only [maxLen]; omega) (by omega) fun a19 c19 w19 o19 hg19 => ?_⟩
  have q119 := oL.keepBlk hg19 q117 (.inl (by decide))
  have q219 := oL.keepBlk hg19 q217 (.inl (by decide))
  have B19 := B17.trans (oL.belowOf hg19 B17.size)
  refine ⟨blk_some q119 (by simp), blk_free q119 _, ?_⟩
  rintro w20 h20
  have q120 : w20.heap[w.heap.size]? = some (.cells #[.slice a19 (n + 1) c19, .slice (some ⟨g16', 0, none⟩) n11 n11] 27) := by rw [h20]; exact blk_set q119 0 _
  have q220 : w20.heap[w1.heap.size]? = some (.cells #[.slice none 0 0, .slice none 0 0] 27) := by rw [h20]; exact blk_far q219 (by show w1.heap.size ≠ w.heap.size; omega) _
  have B20 : Below w.heap.size w w20 := by rw [h20]; exact B19.setCell (Nat.le_refl _) _
  have hE20 : DEnts w.heap.size w20 (some ⟨g16', 0, none⟩) n11 n11 (putL G.slots t ((k0 : Int) + 1)).1 := by
    rw [h20]
    refine DEnts.farB ?_ q119 (by decide) (by decide) _
    obtain ⟨qs, e1, e2, e3⟩ := hE17
    exact ⟨qs, e1, oL.keepOwn hg19 e2 (by decide), fun p hp => ⟨(e3 p hp).1, oL.keepOwn hg19 (e3 p hp).2 (by decide)⟩⟩
  have o20 : Own encNode 4 56 w.heap.size w20 a19 (n + 1) c19 ((L ++ [((blankRN, blankN) : NP)]).map (·.1)) := by
    rw [h20, List.map_append]; exact o19.far q119 (by decide) _
  have hL20 : ∀ p ∈ L ++ [((blankRN, blankN) : NP)], NodeSays p.1 p.2 ∧ OwnN w.heap.size w20 p.1 p.2 ∧ Tight p.1 := by
    intro p hp
    rcases List.mem_append.1 hp with hp | hp
    · obtain ⟨e1, e2, e3⟩ := hL p hp
      refine ⟨e1, ?_, e3⟩
      rw [h20]; exact (e2.keepBy oL hg19 (by decide) (by decide)).farB q119 (by decide) (by decide) _
    · simp only [List.mem_singleton] at hp
      subst hp; exact ⟨says_blankN, own_blankN, rfl, rfl⟩
  have hnd20 : (sblks ((L ++ [((blankRN, blankN) : NP)]).map (·.1))).Nodup := by
    rw [List.map_append, List.map_cons, List.map_nil, sblks_snoc]; simpa [sblk, blankRN] using hnd
  have hset : ((L ++ [((blankRN, blankN) : NP)]).map (·.2)).set k0 ⟨true, t, [], []⟩ = setNode G.nodes k0 ⟨true, t, [], []⟩ := by
    have : ¬ k0 < G.nodes.length := by omega
    rw [setNode, if_neg this, List.map_append, hLs, List.set_append_right _ _ (by omega), show k0 - G.nodes.length = 0 by omega]; rfl
  have hkl : k0 < n + 1 := by omega
  have hll : n + 1 ≤ 1000001 := by omega
  clear h20 o19 q119 q219 B19 hg19 g2 hkn
  rintro _ rfl
  have q120d := blk_drew q120
  have q220d := blk_drew q220
  have B20d := B20.drew
  have hE20d := hE20.below (Below.refl _ _).drew
  have o20d := o20.below (Below.refl _ _).drew
  have hL20d : ∀ p ∈ L ++ [((blankRN, blankN) : NP)], NodeSays p.1 p.2 ∧ OwnN w.heap.size w20.drew p.1 p.2 ∧ Tight p.1 := fun p hp => ⟨(hL20 p hp).1, (hL20 p hp).2.1.below (Below.refl _ _).drew, (hL20 p hp).2.2⟩
  clear q120 q220 B20 hE20 o20 hL20 hE17 q117 q217 B17 hnd hL oL hLs hLl
  generalize w20.drew = W9 at q120d q220d B20d hE20d o20d hL20d ⊢
  generalize (L ++ [((blankRN, blankN) : NP)]) = L9 at o20d hL20d hnd20 hset
  generalize n + 1 = n9 at *
  rotate_left
  -- a node that's there
  have hkn : k0 < n := by have := of_decide_eq_false g2; omega
  have hset : (L.map (·.2)).set k0 ⟨true, t, [], []⟩ = setNode G.nodes k0 ⟨true, t, [], []⟩ := by
    rw [setNode, if_pos (by omega), hLs]
  rintro _ rfl
  have q120d := blk_drew q117
  have q220d := blk_drew q217
  have B20d := B17.drew
  have hE20d := hE17.below (Below.refl _ _).drew
  have o20d := oL.below (Below.refl _ _).drew
  have hL20d : ∀ p ∈ L, NodeSays p.1 p.2 ∧ OwnN w.heap.size w17.drew p.1 p.2 ∧ Tight p.1 := fun p hp => ⟨(hL p hp).1, (hL p hp).2.1.below (Below.refl _ _).drew, (hL p hp).2.2⟩
  have hnd20 := hnd
  have hkl := hkn
  have hll : n ≤ 1000001 := by omega
  clear hE17 q117 q217 B17 hL oL hLs hnd hkn g2
  generalize w17.drew = W9 at q120d q220d B20d hE20d o20d hL20d ⊢
  generalize L = L9 at o20d hL20d hnd20 hset hLl
  clear hLl
  all_goals (
    refine ⟨_, _, _, blk_cell q120d 0, (k_clonedIds (ht.below B20d) (by omega)).mono ?_⟩
    rintro _ w22 ⟨a22, n22, c22, rfl, ho22, B22'⟩
    have B22 := B20d.trans (B22'.mono B20d.size)
    have q122 := blk_below q120d B22' (blk_lt q120d)
    have q222 := blk_below q220d B22' (blk_lt q220d)
    have o22 := o20d.below B22'
    obtain ⟨gb, ha, hgl, hcells, hput, hgrw⟩ := o22.put enNode (i := k0) hkl (⟨true, ⟨a22, n22, c22⟩, ⟨none, 0, 0⟩, ⟨none, 0, 0⟩⟩ : RNode)
    have c0' := hcells 0 (by decide)
    rw [Addr.add_zero'] at c0'
    refine ⟨_, _, _, rfl, blk_cell q122 0, _, ha, by omega, by omega, ?_⟩
    rw [Int.toNat_natCast]
    refine ⟨c0'.1, c0'.2, (hcells 1 (by decide)).1, (hcells 1 (by decide)).2, (hcells 2 (by decide)).1, (hcells 2 (by decide)).2, (hcells 3 (by decide)).1, (hcells 3 (by decide)).2, ?_⟩
    rintro w23 h23
    have h23' : w23 = wrs w22 (Addr.add ⟨gb, 0, none⟩ (k0 * 4)) 0 (encNode (⟨true, ⟨a22, n22, c22⟩, ⟨none, 0, 0⟩, ⟨none, 0, 0⟩⟩ : RNode)) := h23
    rw [← h23'] at hput hgrw
    rw [show some gb = Option.map (·.block) (some (⟨gb, 0, none⟩ : Addr)) from rfl, ← ha] at hgrw
    have q123 := o22.keepBlk hgrw q122 (.inl (by decide))
    have q223 := o22.keepBlk hgrw q222 (.inl (by decide))
    have B23 := B22.trans (o22.belowOf hgrw B22.size)
    refine ⟨_, _, _, _, _, _, blk_cell q123 0, blk_cell q123 1, put_back2 q223 (put2 (G' := ⟨setNode G.nodes k0 ⟨true, t, [], []⟩, (putL G.slots t ((k0 : Int) + 1)).1⟩) q223 (by simp [ofG, hr2, g, hk0, hpe]) ?_ ?_ B23)⟩
    · refine ⟨L9.set k0 ((⟨true, ⟨a22, n22, c22⟩, ⟨none, 0, 0⟩, ⟨none, 0, 0⟩⟩ : RNode), (⟨true, t, [], []⟩ : Node)), by rw [List.map_set]; exact hset, by rw [List.map_set]; exact hput, fun p hp => ?_, ?_⟩
      · rcases List.mem_or_eq_of_mem_set hp with hp | rfl
        · obtain ⟨e1, e2, e3⟩ := hL20d p hp
          exact ⟨e1, (e2.below B22').keepBy o22 hgrw (by decide) (by decide), e3⟩
        · exact ⟨⟨rfl, hr, fun s hs => by simp at hs⟩, OwnN.keepBy ⟨ho22.mono B20d.size, Own.nil, Own.nil⟩ o22 hgrw (by decide) (by decide), rfl, rfl⟩
      · rw [List.map_set]
        exact (sblks_set _ _ _ rfl).nodup hnd20
    · obtain ⟨qs, e1, e2, e3⟩ := hE20d.below B22'
      exact ⟨qs, e1, o22.keepOwn hgrw e2 (by decide), fun p hp => ⟨(e3 p hp).1, o22.keepOwn hgrw (e3 p hp).2 (by decide)⟩⟩)
end
end Go.Eng
namespace Go.Eng
open Go Go.Proofs
theorem pigeon {α : Type} [DecidableEq α] : ∀ {l l' : List α}, l.Nodup → (∀ x ∈ l, x ∈ l') → l.length ≤ l'.length
  | [], l', _, _ => Nat.zero_le _
  | x :: l, l', hn, hs => by
    obtain ⟨h1, h2⟩ := List.nodup_cons.1 hn
    have hx : x ∈ l' := hs x (by simp)
    have := pigeon (l := l) (l' := l'.erase x) h2 fun y hy => (List.mem_erase_of_ne (by rintro rfl; exact h1 hy)).2 (hs y (by simp [hy]))
    rw [List.length_erase_of_mem hx] at this
    have := List.length_pos_of_mem hx
    simp only [List.length_cons]; omega
theorem pigeon_perm {α : Type} [DecidableEq α] : ∀ {l l' : List α}, l.Nodup → (∀ x ∈ l, x ∈ l') → l'.length ≤ l.length → l'.Perm l
  | [], l', _, _, h => by
    have : l' = [] := List.eq_nil_of_length_eq_zero (by simpa using h)
    rw [this]
  | x :: l, l', hn, hs, hl => by
    obtain ⟨h1, h2⟩ := List.nodup_cons.1 hn
    have hx : x ∈ l' := hs x (by simp)
    have := pigeon_perm (l := l) (l' := l'.erase x) h2 (fun y hy => (List.mem_erase_of_ne (by rintro rfl; exact h1 hy)).2 (hs y (by simp [hy]))) (by rw [List.length_erase_of_mem hx]; simp at hl; omega)
    exact (List.perm_cons_erase hx).trans (this.cons x)
theorem nodup_map_inj {α β : Type} {f : α → β} {l : List α} (h : (l.map f).Nodup) {x y : α} (hx : x ∈ l) (hy : y ∈ l) (hxy : f x = f y) : x = y := by
  obtain ⟨i, hi, rfl⟩ := List.mem_iff_getElem.1 hx
  obtain ⟨j, hj, rfl⟩ := List.mem_iff_getElem.1 hy
  by_cases hij : i = j
  · subst hij; rfl
  · exfalso
    have := (List.pairwise_iff_getElem.1 h)
    rcases Nat.lt_or_gt_of_ne hij with h1 | h1
    · exact this i j (by simpa using hi) (by simpa using hj) h1 (by simpa using hxy)
    · exact this j i (by simpa using hj) (by simpa using hi) h1 (by simpa using hxy.symm)
theorem adj_sorted {l : List Int} (h : ∀ i (h1 : i + 1 < l.length), l[i] < l[i + 1]) : l.Pairwise (· < ·) := by
  rw [List.pairwise_iff_getElem]
  intro i j hi hj hij
  obtain ⟨d, rfl⟩ : ∃ d, j = i + 1 + d := ⟨j - (i + 1), by omega⟩
  clear hij
  induction d with
  | zero => exact h i hj
  | succ d ih =>
    have h1 := ih (by omega)
    have h2 := h (i + 1 + d) (by omega)
    exact Int.lt_trans h1 h2
structure ChG (G : PG) : Prop where
  pos : 0 < G.nodes.length
  last : isN G.nodes (G.nodes.length : Int) = true
  one : isN G.nodes 1 = true
  ty1 : (node G.nodes 1).ty.length = 0
  look : checkL G.slots = true
  ok : ∀ i, i < G.nodes.length → nodeOkG G i = true
  many : manyN G.nodes = (all7 Entry.st Entry.ty G.slots).length
theorem checkG_iff (G : PG) : checkG G = true ↔ ChG G := by
  constructor
  · intro h
    simp only [checkG, Bool.and_eq_true, decide_eq_true_eq, List.all_eq_true, List.mem_range] at h
    obtain ⟨⟨⟨⟨⟨⟨h1, h2⟩, h3⟩, h4⟩, h5⟩, h6⟩, h7⟩ := h
    rw [allL, if_pos h5] at h7
    exact ⟨h1, h2, h3, h4, h5, h6, h7⟩
  · rintro ⟨h1, h2, h3, h4, h5, h6, h7⟩
    simp only [checkG, Bool.and_eq_true, decide_eq_true_eq, List.all_eq_true, List.mem_range]
    refine ⟨⟨⟨⟨⟨⟨h1, h2⟩, h3⟩, h4⟩, h5⟩, h6⟩, ?_⟩
    rw [allL, if_pos h5]; exact h7
theorem ChG.node {G : PG} (h : ChG G) {i : Nat} (hi : i < G.nodes.length) (hu : G.nodes[i].used = true) : right2 G.nodes[i].ty = true ∧ findL G.slots G.nodes[i].ty = ((i : Int) + 1, true) ∧ stepsG G.nodes ((i : Int) + 1) G.nodes[i].plus true = true ∧ stepsG G.nodes ((i : Int) + 1) G.nodes[i].less false = true := by
  have := h.ok i hi
  rw [nodeOkG, node_eq hi, if_pos hu] at this
  simp only [Bool.and_eq_true, beq_iff_eq] at this
  obtain ⟨⟨⟨⟨h1, h2⟩, h3⟩, h4⟩, h5⟩ := this
  exact ⟨h1, Prod.ext h3 h2, h4, h5⟩
theorem ChG.free {G : PG} (h : ChG G) {i : Nat} (hi : i < G.nodes.length) (hu : G.nodes[i].used = false) : G.nodes[i].ty = [] ∧ G.nodes[i].plus = [] ∧ G.nodes[i].less = [] := by
  have := h.ok i hi
  rw [nodeOkG, node_eq hi, if_neg (by rw [hu]; simp)] at this
  simp only [decide_eq_true_eq] at this
  exact ⟨List.eq_nil_of_length_eq_zero (by omega), List.eq_nil_of_length_eq_zero (by omega), List.eq_nil_of_length_eq_zero (by omega)⟩
theorem stepsG_sorted {l : List Node} {n : Int} {row : List Stp} {plus : Bool} (h : stepsG l n row plus = true) : (keys row).Pairwise (· < ·) := by
  refine adj_sorted fun i h1 => ?_
  have hl : (keys row).length = row.length := by simp [keys]
  simp only [stepsG, List.all_eq_true, List.mem_range] at h
  have := h (i + 1) (by omega)
  simp only [stepOkG, Bool.and_eq_true, Bool.or_eq_true, decide_eq_true_eq] at this
  have h2 := this.1.1.1
  rcases h2 with h2 | h2
  · omega
  · rw [Nat.add_sub_cancel, stp_eqAt (by omega), stp_eqAt (by omega)] at h2
    rw [keys_get (by omega), keys_get (by omega)]; exact h2
theorem findL_some {l : List Entry} {t : List Int} {m : Int} (h : findL l t = (m, true)) : checkL l = true ∧ ∃ k, k < l.length ∧ place l t = (k : Int) ∧ (slot l k).st = 1 ∧ (slot l k).ty = t ∧ (slot l k).num = m := by
  unfold findL at h
  cases hc : checkL l with
  | false => simp [hc] at h
  | true =>
    refine ⟨rfl, ?_⟩
    rw [hc] at h
    rcases place_lt (l := l) (t := t) with h0 | ⟨k, hk, hp, h1, h2⟩
    · simp [h0] at h
    · have hn : ¬ ((k : Nat) : Int) < 0 := by omega
      rw [hp] at h
      simp [hn] at h
      exact ⟨k, hk, hp, h1, h2, h⟩
def usedE (l : List Entry) : List Entry := l.filter fun e => e.st == 1
def usedIx (l : List Node) : List Nat := (List.range l.length).filter fun i : Nat => (node l ((i : Int) + 1)).used
theorem usedIx_nodup (l : List Node) : (usedIx l).Nodup := List.nodup_range.filter _
theorem filter_range_len : ∀ (l : List Node), ((List.range l.length).filter fun i : Nat => (node l ((i : Int) + 1)).used).length = (l.filter fun x => x.used).length := by
  intro l
  have h1 : l = (List.range l.length).map fun i : Nat => node l ((i : Int) + 1) := by
    apply List.ext_getElem
    · simp
    · intro i h1 h2
      simp [node_eq h1]
  have h2 : (l.filter fun x => x.used) = (((List.range l.length).map fun i : Nat => node l ((i : Int) + 1)).filter fun x => x.used) := by rw [← h1]
  rw [h2, List.filter_map, List.length_map]
  rfl
theorem usedIx_len (l : List Node) : (usedIx l).length = manyN l := filter_range_len l
theorem mem_usedIx {l : List Node} {i : Nat} : i ∈ usedIx l ↔ ∃ h : i < l.length, l[i].used = true := by
  simp only [usedIx, List.mem_filter, List.mem_range]
  constructor
  · rintro ⟨h1, h2⟩; rw [node_eq h1] at h2; exact ⟨h1, h2⟩
  · rintro ⟨h1, h2⟩; exact ⟨h1, by rw [node_eq h1]; exact h2⟩
/-- The numbers of the used slots are those of the used nodes. -/
theorem ChG.nums {G : PG} (h : ChG G) : ((usedE G.slots).map (·.num)).Perm ((usedIx G.nodes).map fun i : Nat => (i : Int) + 1) := by
  refine pigeon_perm ?_ ?_ ?_
  · rw [List.nodup_iff_pairwise_ne, List.pairwise_map]
    exact (usedIx_nodup G.nodes).imp fun hab => by omega
  · intro x hx
    obtain ⟨i, hi, rfl⟩ := List.mem_map.1 hx
    obtain ⟨h1, h2⟩ := mem_usedIx.1 hi
    obtain ⟨_, hf, _, _⟩ := h.node h1 h2
    obtain ⟨_, k, hk, _, hst, hty, hnum⟩ := findL_some hf
    rw [slot_eq hk] at hst hnum
    exact List.mem_map.2 ⟨G.slots[k], List.mem_filter.2 ⟨List.getElem_mem hk, by simp [hst]⟩, hnum⟩
  · have h1 := h.many
    have h2 := (all7_perm Entry.st Entry.ty G.slots).length_eq
    rw [List.length_map, List.length_map, usedIx_len, h1, h2]; exact Nat.le_refl _
theorem ChG.numInj {G : PG} (h : ChG G) {e e' : Entry} (he : e ∈ G.slots) (he' : e' ∈ G.slots) (h1 : e.st = 1) (h2 : e'.st = 1) (hn : e.num = e'.num) : e = e' := by
  have hnd : ((usedE G.slots).map (·.num)).Nodup := by
    rw [h.nums.nodup_iff, List.nodup_iff_pairwise_ne, List.pairwise_map]
    exact (usedIx_nodup G.nodes).imp fun hab => by omega
  exact nodup_map_inj hnd (List.mem_filter.2 ⟨he, by simp [h1]⟩) (List.mem_filter.2 ⟨he', by simp [h2]⟩) hn
/-- A slot's number is its type's node. -/
theorem ChG.slotNode {G : PG} (h : ChG G) {e : Entry} (he : e ∈ G.slots) (h1 : e.st = 1) : ∃ (i : Nat) (hi : i < G.nodes.length), e.num = (i : Int) + 1 ∧ G.nodes[i].used = true ∧ G.nodes[i].ty = e.ty := by
  have hm : e.num ∈ (usedE G.slots).map (·.num) := List.mem_map.2 ⟨e, List.mem_filter.2 ⟨he, by simp [h1]⟩, rfl⟩
  obtain ⟨i, hi, hin⟩ := List.mem_map.1 (h.nums.mem_iff.1 hm)
  obtain ⟨hi1, hu⟩ := mem_usedIx.1 hi
  obtain ⟨_, hf, _, _⟩ := h.node hi1 hu
  obtain ⟨_, k, hk, _, hst, hty, hnum⟩ := findL_some hf
  rw [slot_eq hk] at hst hty hnum
  have := h.numInj he (List.getElem_mem hk) h1 hst (by rw [hnum, ← hin])
  exact ⟨i, hi1, hin.symm, hu, by rw [this, hty]⟩
theorem ChG.find {G : PG} (h : ChG G) {t : List Int} (hf : (findL G.slots t).2 = true) : ∃ (i : Nat) (hi : i < G.nodes.length), (findL G.slots t).1 = (i : Int) + 1 ∧ G.nodes[i].used = true ∧ G.nodes[i].ty = t := by
  obtain ⟨_, k, hk, _, hst, hty, hnum⟩ := findL_some (l := G.slots) (t := t) (m := (findL G.slots t).1) (Prod.ext rfl hf)
  rw [slot_eq hk] at hst hty hnum
  obtain ⟨i, hi, h1, h2, h3⟩ := h.slotNode (List.getElem_mem hk) hst
  exact ⟨i, hi, by rw [← hnum, h1], h2, by rw [h3, hty]⟩
end Go.Eng
namespace Go.Eng
open Go Go.Proofs
set_option exponentiation.threshold 300
theorem hi_nat {n : Nat} (h : n < 2 ^ 64) : hi1 (n : Int) = ((n / 2 ^ 32 % 2 ^ 30 : Nat) : Int) ∧ hi2 (n : Int) = ((n / 2 ^ 32 % 2 ^ 30 : Nat) : Int) := by
  have h1 : n / 2 ^ 32 < 2 ^ 64 := Nat.lt_of_le_of_lt (Nat.div_le_self _ _) h
  have h2 : n / 2 ^ 32 % 2 ^ 30 < 2 ^ 30 := Nat.mod_lt _ (by decide)
  constructor
  · unfold hi1
    rw [show Int.tdiv (n : Int) 4294967296 = ((n / 2 ^ 32 : Nat) : Int) from rfl, u64_wrap, Nat.mod_eq_of_lt h1, show Int.tmod ((n / 2 ^ 32 : Nat) : Int) 1073741824 = ((n / 2 ^ 32 % 2 ^ 30 : Nat) : Int) from rfl, wrap64 (by omega) (by omega)]
  · unfold hi2
    rw [show (32 : Int) = ((32 : Nat) : Int) from rfl, bshr_nat (by decide), show (1073741823 : Int) = ((2 ^ 30 - 1 : Nat) : Int) by decide, band_nat h1 (by decide), Nat.and_two_pow_sub_one_eq_mod, wrap64 (by omega) (by omega)]
theorem lo_nat {n : Nat} (h : n < 2 ^ 64) : lo1 (n : Int) = ((n % 2 ^ 30 : Nat) : Int) ∧ lo2 (n : Int) = ((n % 2 ^ 30 : Nat) : Int) := by
  have h2 : n % 2 ^ 30 < 2 ^ 30 := Nat.mod_lt _ (by decide)
  constructor
  · unfold lo1
    rw [show Int.tmod (n : Int) 1073741824 = ((n % 2 ^ 30 : Nat) : Int) from rfl, wrap64 (by omega) (by omega)]
  · unfold lo2
    rw [show (1073741823 : Int) = ((2 ^ 30 - 1 : Nat) : Int) by decide, band_nat h (by decide), Nat.and_two_pow_sub_one_eq_mod, wrap64 (by omega) (by omega)]
theorem made_nat {m a b : Nat} (hm : m = 0 ∨ m = 2 ^ 62 ∨ m = 2 ^ 63) (ha : a < 2 ^ 30) (hb : b < 2 ^ 30) : made1 (m : Int) (a : Int) (b : Int) = ((m + a * 2 ^ 32 + b : Nat) : Int) ∧ packed2 (m : Int) (a : Int) (b : Int) = ((m + a * 2 ^ 32 + b : Nat) : Int) := by
  have h1 : a * 2 ^ 32 < 2 ^ 62 := by omega
  have h2 : m + a * 2 ^ 32 + b < 2 ^ 64 := by omega
  constructor
  · unfold made1
    rw [u64_wrap, Nat.mod_eq_of_lt (by omega), show ((a : Nat) : Int) * 4294967296 = ((a * 2 ^ 32 : Nat) : Int) by omega, u64_wrap, Nat.mod_eq_of_lt (by omega), ← Int.natCast_add, u64_wrap, Nat.mod_eq_of_lt (by omega), u64_wrap, Nat.mod_eq_of_lt (by omega), ← Int.natCast_add, u64_wrap, Nat.mod_eq_of_lt h2]
  · have e1 : m ||| (a * 2 ^ 32) = m + a * 2 ^ 32 := by
      rcases hm with rfl | rfl | rfl
      · simp
      · have := Nat.two_pow_add_eq_or_of_lt (i := 62) (b := a * 2 ^ 32) h1 1
        simpa using this.symm
      · have := Nat.two_pow_add_eq_or_of_lt (i := 63) (b := a * 2 ^ 32) (by omega) 1
        simpa using this.symm
    have e2 : (m + a * 2 ^ 32) ||| b = m + a * 2 ^ 32 + b := by
      have e3 : m + a * 2 ^ 32 = 2 ^ 32 * (m / 2 ^ 32 + a) := by
        rcases hm with rfl | rfl | rfl <;> omega
      have := Nat.two_pow_add_eq_or_of_lt (i := 32) (b := b) (by omega) (m / 2 ^ 32 + a)
      rw [← e3] at this; exact this.symm
    unfold packed2
    rw [u64_wrap, Nat.mod_eq_of_lt (by omega), show (32 : Int) = ((32 : Nat) : Int) from rfl, bshl_nat (by decide), Nat.mod_eq_of_lt (by omega), bor_nat (by omega) (by omega), e1, u64_wrap, Nat.mod_eq_of_lt (by omega), bor_nat (by omega) (by omega), e2]
theorem kind_alike {id : Int} (h : 0 ≤ id ∧ id < 18446744073709551616) : kind1 id = kind2 id := by
  obtain ⟨n, rfl⟩ : ∃ n : Nat, id = n := ⟨id.toNat, by omega⟩
  have hn : n < 2 ^ 64 := by omega
  obtain ⟨a1, a2⟩ := hi_nat hn
  obtain ⟨b1, b2⟩ := lo_nat hn
  have ha : n / 2 ^ 32 % 2 ^ 30 < 2 ^ 30 := Nat.mod_lt _ (by decide)
  have hb : n % 2 ^ 30 < 2 ^ 30 := Nat.mod_lt _ (by decide)
  have m0 := made_nat (m := 0) (.inl rfl) ha hb
  have m0' := made_nat (m := 2 ^ 62) (a := 0) (.inr (.inl rfl)) (by decide) hb
  have m3 := made_nat (m := 2 ^ 63) (.inr (.inr rfl)) ha hb
  have c0 : made1 0 (hi1 n) (lo1 n) = packed2 0 (hi1 n) (lo1 n) := by rw [a1, b1]; exact m0.1.trans m0.2.symm
  have c1 : made1 4611686018427387904 0 (lo1 n) = packed2 4611686018427387904 0 (lo1 n) := by rw [b1]; exact m0'.1.trans m0'.2.symm
  have c2 : made1 9223372036854775808 (hi1 n) (lo1 n) = packed2 9223372036854775808 (hi1 n) (lo1 n) := by rw [a1, b1]; exact m3.1.trans m3.2.symm
  have d1 : hi2 (n : Int) = hi1 n := by rw [a1, a2]
  have d2 : lo2 (n : Int) = lo1 n := by rw [b1, b2]
  unfold kind1 kind2 ent2 com2 pai2 pat2
  rw [d1, d2, c0, c1, c2]
  simp only [Bool.and_eq_true]
theorem may_alike {id : Int} (h : 0 ≤ id ∧ id < 18446744073709551616) : may2 id = may3 id := by unfold may2 may3; rw [kind_alike h]
theorem up_alike : ∀ {l : List Int}, Rng l → up2 l = up3 l
  | [], _ => rfl
  | [x], h => by simp only [up2, up3]; exact may_alike (h x (by simp))
  | x :: y :: l, h => by
    have := up_alike (l := y :: l) fun z hz => h z (List.mem_cons_of_mem _ hz)
    simp only [up2, up3] at this ⊢
    rw [may_alike (h x (by simp)), this]
theorem right_alike {l : List Int} (h : Rng l) : right2 l = right3 l := by unfold right2 right3; rw [up_alike h, Bool.and_comm]
theorem at2_split {l : List Int} (h : l.Pairwise (· < ·)) (x : Int) : l.take (at2 l x) = l.filter (fun y => decide (y < x)) ∧ l.drop (at2 l x) = l.filter (fun y => decide (x ≤ y)) := by
  induction l with
  | nil => simp [at2]
  | cons y l ih =>
    obtain ⟨h1, h2⟩ := List.pairwise_cons.1 h
    obtain ⟨i1, i2⟩ := ih h2
    by_cases hy : y < x
    · have e : at2 (y :: l) x = at2 l x + 1 := by simp [at2, hy]
      have hn : ¬ x ≤ y := by omega
      rw [e]
      simp only [List.take_succ_cons, List.drop_succ_cons, List.filter_cons, hy, hn, decide_true, decide_false, if_true, Bool.false_eq_true, if_false, i1, i2, and_self]
    · have e : at2 (y :: l) x = 0 := by simp [at2, hy]
      have hle : x ≤ y := by omega
      rw [e]
      have f1 : l.filter (fun z => decide (z < x)) = [] := by
        rw [List.filter_eq_nil_iff]; intro z hz; have := h1 z hz; simp; omega
      have f2 : l.filter (fun z => decide (x ≤ z)) = l := by
        rw [List.filter_eq_self]; intro z hz; have := h1 z hz; simp; omega
      simp only [List.take_zero, List.drop_zero, List.filter_cons, hy, hle, decide_true, decide_false, if_true, Bool.false_eq_true, if_false, f1, f2, and_self]
theorem filter_ge {l : List Int} (h : l.Pairwise (· < ·)) (x : Int) : l.filter (fun y => decide (x ≤ y)) = if x ∈ l then x :: l.filter (fun y => decide (x < y)) else l.filter (fun y => decide (x < y)) := by
  induction l with
  | nil => simp
  | cons y l ih =>
    obtain ⟨h1, h2⟩ := List.pairwise_cons.1 h
    have := ih h2
    by_cases hxy : x = y
    · subst hxy
      have hno : x ∉ l := fun hm => by have := h1 x hm; omega
      rw [if_neg hno] at this
      simp only [List.filter_cons, Int.le_refl, decide_true, if_true, Int.lt_irrefl, decide_false, Bool.false_eq_true, if_false, this, List.mem_cons, true_or]
    · have hm : (x ∈ y :: l) ↔ x ∈ l := by simp [hxy]
      by_cases hlt : x < y
      · have hle : x ≤ y := by omega
        have hno : x ∉ l := fun hm => by have := h1 x hm; omega
        rw [if_neg hno] at this
        simp only [hm, hno, if_false, List.filter_cons, hle, hlt, decide_true, if_true, this]
      · have hle : ¬ x ≤ y := by omega
        simp only [hm, List.filter_cons, hle, hlt, decide_false, Bool.false_eq_true, if_false, this]
theorem with_alike {l : List Int} (h : l.Pairwise (· < ·)) (x : Int) : with2 l x = with3 l x := by
  obtain ⟨h1, h2⟩ := at2_split h x
  have h3 := filter_ge h x
  unfold with2 with3
  by_cases hx : x ∈ l
  · rw [if_pos hx] at h3 ⊢
    rw [← h3, ← h1, ← h2, List.take_append_drop]
  · rw [if_neg hx] at h3 ⊢
    rw [h1, h2, h3]
theorem without_alike {l : List Int} (h : l.Pairwise (· < ·)) {x : Int} (hx : x ∈ l) : without2 l x = without3 l x := by
  obtain ⟨h1, h2⟩ := at2_split h x
  have h3 := filter_ge h x
  rw [if_pos hx] at h3
  have h4 : l.drop (at2 l x + 1) = l.filter (fun y => decide (x < y)) := by
    have : l.drop (at2 l x + 1) = (l.drop (at2 l x)).drop 1 := by rw [List.drop_drop]
    rw [this, h2, h3]; rfl
  have h5 : without3 l x = l.filter (fun y => decide (y < x)) ++ l.filter (fun y => decide (x < y)) := by
    conv => lhs; rw [without3, ← List.take_append_drop (at2 l x) l, h1, h2, h3, List.filter_append, List.filter_cons]
    have e1 : (l.filter (fun y => decide (y < x))).filter (fun y => y != x) = l.filter (fun y => decide (y < x)) := by
      rw [List.filter_eq_self]; intro z hz; have := (List.mem_filter.1 hz).2; simp at this ⊢; omega
    have e2 : (l.filter (fun y => decide (x < y))).filter (fun y => y != x) = l.filter (fun y => decide (x < y)) := by
      rw [List.filter_eq_self]; intro z hz; have := (List.mem_filter.1 hz).2; simp at this ⊢; omega
    rw [e1, e2]; simp
  rw [h5, without2, h1, h4]
theorem up2_may {l : List Int} (h : up2 l = true) : ∀ x ∈ l, may2 x = true := by
  induction l with
  | nil => simp
  | cons x l ih =>
    cases l with
    | nil => simpa [up2] using h
    | cons y l =>
      simp only [up2, Bool.and_eq_true] at h
      intro z hz
      rcases List.mem_cons.1 hz with rfl | hz
      · exact h.1.1
      · exact ih h.2 z hz
theorem up2_of {l : List Int} (h : l.Pairwise (· < ·)) (hm : ∀ x ∈ l, may2 x = true) : up2 l = true := by
  induction l with
  | nil => rfl
  | cons x l ih =>
    obtain ⟨h1, h2⟩ := List.pairwise_cons.1 h
    have := ih h2 fun z hz => hm z (List.mem_cons_of_mem _ hz)
    cases l with
    | nil => simpa [up2] using hm x (by simp)
    | cons y l =>
      simp only [up2, Bool.and_eq_true, decide_eq_true_eq]
      exact ⟨⟨hm x (by simp), h1 y (by simp)⟩, this⟩
theorem right2_iff {l : List Int} : right2 l = true ↔ l.Pairwise (· < ·) ∧ (∀ x ∈ l, may2 x = true) ∧ l.length ≤ 12 := by
  constructor
  · intro h
    have h' := h
    simp only [right2, Bool.and_eq_true, decide_eq_true_eq] at h'
    exact ⟨(right2_sorted h).1, up2_may h'.2, h'.1⟩
  · rintro ⟨h1, h2, h3⟩
    simp only [right2, Bool.and_eq_true, decide_eq_true_eq]
    exact ⟨h3, up2_of h1 h2⟩
theorem with3_mem {l : List Int} {x y : Int} : y ∈ with3 l x ↔ y = x ∨ (y ∈ l ∧ y ≠ x) := by
  simp only [with3, List.mem_append, List.mem_cons, List.mem_filter, decide_eq_true_eq]
  constructor
  · rintro (⟨h1, h2⟩ | rfl | ⟨h1, h2⟩)
    · exact .inr ⟨h1, by omega⟩
    · exact .inl rfl
    · exact .inr ⟨h1, by omega⟩
  · rintro (rfl | ⟨h1, h2⟩)
    · exact .inr (.inl rfl)
    · rcases Int.lt_or_gt_of_ne h2 with h | h
      · exact .inl ⟨h1, h⟩
      · exact .inr (.inr ⟨h1, h⟩)
theorem with3_sorted {l : List Int} (h : l.Pairwise (· < ·)) (x : Int) : (with3 l x).Pairwise (· < ·) := by
  unfold with3
  rw [List.pairwise_append]
  refine ⟨h.filter _, List.pairwise_cons.2 ⟨fun y hy => by have := (List.mem_filter.1 hy).2; simpa using this, h.filter _⟩, ?_⟩
  intro y hy z hz
  have h1 : y < x := by have := (List.mem_filter.1 hy).2; simpa using this
  rcases List.mem_cons.1 hz with rfl | hz
  · exact h1
  · have h2 : x < z := by have := (List.mem_filter.1 hz).2; simpa using this
    omega
theorem without3_mem {l : List Int} {x y : Int} : y ∈ without3 l x ↔ y ∈ l ∧ y ≠ x := by simp [without3]
theorem without3_sorted {l : List Int} (h : l.Pairwise (· < ·)) (x : Int) : (without3 l x).Pairwise (· < ·) := h.filter _
theorem with3_len {l : List Int} (h : l.Pairwise (· < ·)) (x : Int) : (with3 l x).length = if x ∈ l then l.length else l.length + 1 := by
  rw [← with_alike h x, with2]
  split
  · rfl
  · have := at2_le l x; simp; omega
/-- Strictly in order, the same elements: the same row. -/
theorem sorted_ext {l l' : List Int} (h : l.Pairwise (· < ·)) (h' : l'.Pairwise (· < ·)) (he : ∀ x, x ∈ l ↔ x ∈ l') : l = l' := by
  refine List.Perm.eq_of_pairwise (le := (· < ·)) (fun a b _ _ h1 h2 => by omega) h h' ?_
  have n1 : l.Nodup := h.imp fun hab => by omega
  have n2 : l'.Nodup := h'.imp fun hab => by omega
  exact pigeon_perm n2 (fun x hx => (he x).2 hx) (pigeon n1 fun x hx => (he x).1 hx)
theorem without_with {l : List Int} (h : l.Pairwise (· < ·)) {x : Int} (hx : x ∉ l) : without3 (with3 l x) x = l := by
  refine sorted_ext (without3_sorted (with3_sorted h x) x) h fun y => ?_
  rw [without3_mem, with3_mem]
  constructor
  · rintro ⟨rfl | h1, h2⟩
    · exact absurd rfl h2
    · exact h1.1
  · intro hy; exact ⟨.inr ⟨hy, by rintro rfl; exact hx hy⟩, by rintro rfl; exact hx hy⟩
theorem with_without {l : List Int} (h : l.Pairwise (· < ·)) {x : Int} (hx : x ∈ l) : with3 (without3 l x) x = l := by
  refine sorted_ext (with3_sorted (without3_sorted h x) x) h fun y => ?_
  rw [with3_mem, without3_mem]
  constructor
  · rintro (rfl | h1)
    · exact hx
    · exact h1.1.1
  · intro hy
    by_cases hyx : y = x
    · exact .inl hyx
    · exact .inr ⟨⟨hy, hyx⟩, hyx⟩
end Go.Eng
namespace Go.Eng
open Go Go.Proofs
set_option exponentiation.threshold 300
theorem and_pred_half {m : Nat} (hm : 0 < m) : (2 * m) &&& (2 * m - 1) = 2 * (m &&& (m - 1)) := by
  have h1 : ((2 * m) &&& (2 * m - 1)) / 2 = m &&& (m - 1) := by
    have := Nat.and_div_two_pow (a := 2 * m) (b := 2 * m - 1) (n := 1)
    rw [show 2 * m / 2 ^ 1 = m by omega, show (2 * m - 1) / 2 ^ 1 = m - 1 by omega] at this
    exact this
  have h2 : ((2 * m) &&& (2 * m - 1)) % 2 = 0 := by
    have := Nat.and_mod_two_pow (a := 2 * m) (b := 2 * m - 1) (n := 1)
    rw [show 2 * m % 2 ^ 1 = 0 by omega, Nat.zero_and] at this
    exact this
  omega
theorem and_pred_odd (m : Nat) : (2 * m + 1) &&& (2 * m) = 2 * m := by
  have h1 : ((2 * m + 1) &&& (2 * m)) / 2 = m := by
    have := Nat.and_div_two_pow (a := 2 * m + 1) (b := 2 * m) (n := 1)
    rw [show (2 * m + 1) / 2 ^ 1 = m by omega, show (2 * m) / 2 ^ 1 = m by omega, Nat.and_self] at this
    exact this
  have h2 : ((2 * m + 1) &&& (2 * m)) % 2 = 0 := by
    have := Nat.and_mod_two_pow (a := 2 * m + 1) (b := 2 * m) (n := 1)
    rw [show 2 * m % 2 ^ 1 = 0 by omega, Nat.and_zero] at this
    exact this
  omega
theorem and_pred_zero : ∀ {n : Nat}, 0 < n → (n &&& (n - 1) = 0 ↔ ∃ j, n = 2 ^ j) := by
  intro n
  induction n using Nat.strongRecOn with
  | _ n ih =>
    intro h0
    rcases Nat.mod_two_eq_zero_or_one n with he | ho
    · obtain ⟨m, rfl⟩ : ∃ m, n = 2 * m := ⟨n / 2, by omega⟩
      have hm : 0 < m := by omega
      rw [and_pred_half hm]
      have := ih m (by omega) hm
      constructor
      · intro h
        obtain ⟨j, hj⟩ := this.1 (by omega)
        exact ⟨j + 1, by rw [Nat.pow_succ]; omega⟩
      · rintro ⟨j, hj⟩
        cases j with
        | zero => simp at hj; omega
        | succ j =>
          rw [Nat.pow_succ] at hj
          have := this.2 ⟨j, by omega⟩
          omega
    · obtain ⟨m, rfl⟩ : ∃ m, n = 2 * m + 1 := ⟨n / 2, by omega⟩
      rw [Nat.add_sub_cancel, and_pred_odd]
      constructor
      · intro h; exact ⟨0, by omega⟩
      · rintro ⟨j, hj⟩
        cases j with
        | zero => simp at hj; omega
        | succ j => rw [Nat.pow_succ] at hj; omega
theorem band_nat64 {a b : Nat} (ha : a < 2 ^ 63) (hb : b < 2 ^ 63) : band .i64 (a : Int) (b : Int) = ((a &&& b : Nat) : Int) := by
  have hx : a &&& b < 2 ^ 63 := Nat.and_lt_two_pow a hb
  have h1 : (BitVec.ofInt IntKind.i64.bits (a : Int) &&& BitVec.ofInt IntKind.i64.bits (b : Int)).toNat = a &&& b := by
    show (BitVec.ofInt 64 (a : Int) &&& BitVec.ofInt 64 (b : Int)).toNat = a &&& b
    rw [bv_nat, bv_nat, BitVec.toNat_and, BitVec.toNat_ofNat, BitVec.toNat_ofNat, Nat.mod_eq_of_lt (by omega), Nat.mod_eq_of_lt (by omega)]
  show IntKind.i64.wrap (_ : Int) = _
  rw [h1, wrap64 (by omega) (by omega)]
theorem pow8_iff {n : Nat} (hn : n < 2 ^ 62) : Pow8 n ↔ 8 ≤ n ∧ pow2 n = true := by
  have key : 8 ≤ n → (pow2 n = true ↔ ∃ j, n = 2 ^ j) := by
    intro h8
    unfold pow2
    rw [show (n : Int) - 1 = ((n - 1 : Nat) : Int) by omega, band_nat64 (by omega) (by omega), beq_iff_eq, ← and_pred_zero (by omega)]
    omega
  constructor
  · rintro ⟨j, hj⟩
    have hp : 0 < 2 ^ j := Nat.pow_pos (by decide)
    refine ⟨by omega, (key (by omega)).2 ⟨j + 3, by rw [hj, Nat.pow_add]; omega⟩⟩
  · rintro ⟨h8, hp⟩
    obtain ⟨j, hj⟩ := (key h8).1 hp
    have h3 : 3 ≤ j := by
      rcases Nat.lt_or_ge j 3 with h | h
      · have := Nat.pow_lt_pow_right (a := 2) (by decide) h; omega
      · exact h
    exact ⟨j - 3, by rw [hj, show (8 : Nat) = 2 ^ 3 by rfl, ← Nat.pow_add]; congr 1; omega⟩
theorem taken_eq : ∀ {l : List Entry}, (∀ e ∈ l, 0 ≤ e.st ∧ e.st ≤ 2) → taken l = takenN l := by
  intro l
  induction l with
  | nil => intro _; rfl
  | cons x l ih =>
    intro h
    have := ih fun e he => h e (List.mem_cons_of_mem _ he)
    have hx := h x (by simp)
    unfold taken cnt takenN at this ⊢
    have : x.st = 0 ∨ x.st = 1 ∨ x.st = 2 := by omega
    rcases this with h1 | h1 | h1 <;> simp [h1] <;> omega
/-- Used slots of the same type are one. -/
def Uniq (l : List Entry) : Prop := ∀ i j, i < l.length → j < l.length → (slot l i).st = 1 → (slot l j).st = 1 → (slot l i).ty = (slot l j).ty → i = j
theorem find_range_some {n u : Nat} {p : Nat → Bool} : (List.range n).find? p = some u ↔ p u = true ∧ u < n ∧ ∀ v, v < u → p v = false := by
  rw [List.find?_range_eq_some, List.mem_range]; simp
theorem find_range_none {n : Nat} {p : Nat → Bool} : (List.range n).find? p = none ↔ ∀ v, v < n → p v = false := by
  rw [List.find?_range_eq_none]; simp
theorem place_iff {l : List Entry} {t : List Int} {k : Nat} : place l t = (k : Int) ↔ ∃ u, u < l.length ∧ probe (hashT t) l.length u = k ∧ (∀ v, v < u → stopAt l t v = false) ∧ (slot l k).st = 1 ∧ (slot l k).ty = t := by
  unfold place
  constructor
  · intro h
    split at h
    · omega
    · rename_i u hu
      obtain ⟨h1, h2, h3⟩ := find_range_some.1 hu
      split at h
      · rename_i hst
        have hk : probe (hashT t) l.length u = k := by omega
        simp only [stopAt, stops, hst] at h1
        rw [hk] at hst h1
        exact ⟨u, h2, hk, h3, hst, by simpa using h1⟩
      · omega
  · rintro ⟨u, h1, h2, h3, h4, h5⟩
    have : (List.range l.length).find? (stopAt l t) = some u := find_range_some.2 ⟨by simp [stopAt, stops, h2, h4, h5], h1, h3⟩
    rw [this]; simp only [h2, h4, if_true]
theorem found_place {l : List Entry} {t : List Int} {k : Nat} (hu : Uniq l) (hk : k < l.length) : FoundP l t (k : Int) ↔ place l t = (k : Int) := by
  rw [place_iff]
  constructor
  · rintro ⟨u, h1, h2, h3, h4, h5⟩
    have h2' : probe (hashT t) l.length u = k := by omega
    refine ⟨u, h1, h2', fun v hv => ?_, by rw [← h2']; exact h4, by rw [← h2']; exact h5⟩
    obtain ⟨a1, a2⟩ := h3 v hv
    cases hs : stopAt l t v with
    | false => rfl
    | true =>
      exfalso
      simp only [stopAt, stops, Bool.or_eq_true, beq_iff_eq, Bool.and_eq_true] at hs
      rcases hs with hs | ⟨s1, s2⟩
      · exact a2 hs
      · exact a1 (by have := hu _ k (probe_lt (by omega)) hk s1 (by rw [← h2']; exact h4) (by rw [s2, ← h2', h5]); omega)
  · rintro ⟨u, h1, h2, h3, h4, h5⟩
    refine ⟨u, h1, by omega, fun v hv => ?_, by rw [h2]; exact h4, by rw [h2]; exact h5⟩
    have := h3 v hv
    simp only [stopAt, stops, Bool.or_eq_false_iff, Bool.and_eq_false_iff, beq_eq_false_iff_ne, ne_eq] at this
    refine ⟨fun he => ?_, this.1⟩
    have he' : probe (hashT t) l.length v = k := by omega
    rw [he'] at this
    rcases this.2 with h | h
    · exact h h4
    · exact h h5
/-- The code and the document agree on which lookups may be. -/
theorem right7_iff {l : List Entry} (hr : ∀ e ∈ l, e.st = 1 → Rng e.ty) (hn : l.length < 2 ^ 62) : Right7 l ↔ checkL l = true := by
  constructor
  · rintro ⟨h1, h2, h3, h4⟩
    have hst : ∀ e ∈ l, 0 ≤ e.st ∧ e.st ≤ 2 := by
      intro e he
      obtain ⟨i, hi, rfl⟩ := List.mem_iff_getElem.1 he
      have := h2 i hi
      rw [Ent7, slot_eq hi] at this
      rcases this with ⟨h | h, _⟩ | ⟨h, _⟩ <;> omega
    have hu : Uniq l := by
      intro i j hi hj si sj ht
      have gi := h2 i hi; have gj := h2 j hj
      rcases Nat.lt_trichotomy i j with hlt | he | hlt
      · rcases gj with ⟨h | h, _⟩ | ⟨_, _, _, _, h⟩
        · omega
        · omega
        · exact absurd ht.symm (h i hlt si)
      · exact he
      · rcases gi with ⟨h | h, _⟩ | ⟨_, _, _, _, h⟩
        · omega
        · omega
        · exact absurd ht (h j hlt sj)
    have ⟨p1, p2⟩ := (pow8_iff hn).1 h1
    simp only [checkL, preL, Bool.and_eq_true, List.all_eq_true, decide_eq_true_eq, List.mem_range]
    rw [taken_eq hst]
    refine ⟨⟨⟨⟨⟨hst, p1⟩, p2⟩, h3⟩, h4⟩, fun i hi => ?_⟩
    unfold slotOk
    rcases h2 i hi with ⟨h, ht, hm⟩ | ⟨s, hr3, hm, hf, _⟩
    · have : ¬ (slot l i).st = 1 := by rcases h with h | h <;> omega
      rw [if_neg this, ht, hm]; simp
    · have hrng : Rng (slot l i).ty := by rw [slot_eq hi] at s ⊢; exact hr _ (List.getElem_mem hi) s
      rw [if_pos s, right_alike hrng, hr3, (found_place hu hi).1 hf]; simp [hm]
  · intro h
    obtain ⟨hp, hs⟩ := checkL_ok h
    simp only [preL, Bool.and_eq_true, List.all_eq_true, decide_eq_true_eq] at hp
    obtain ⟨⟨⟨⟨hst, p1⟩, p2⟩, h3⟩, h4⟩ := hp
    rw [taken_eq hst] at h3 h4
    have hu : Uniq l := by
      intro i j hi hj si sj ht
      rw [slot_eq hi] at si ht
      rw [slot_eq hj] at sj ht
      have e1 := (checkL_used h hi si).2.2
      have e2 := (checkL_used h hj sj).2.2
      rw [ht, e2] at e1; omega
    refine ⟨(pow8_iff hn).2 ⟨p1, p2⟩, fun i hi => ?_, h3, h4⟩
    have hi' := hs i hi
    by_cases s : (slot l i).st = 1
    · right
      have s' := s
      rw [slot_eq hi] at s'
      obtain ⟨a1, a2, a3⟩ := checkL_used h hi s'
      have hrng : Rng l[i].ty := hr _ (List.getElem_mem hi) s'
      rw [slot_eq hi]
      refine ⟨s', by rw [← right_alike hrng]; exact a1, a2, (found_place hu hi).2 a3, fun j hj sj he => ?_⟩
      have := hu i j hi (by omega) s sj (by rw [slot_eq hi]; exact he)
      omega
    · left
      rw [slotOk, if_neg s] at hi'
      simp only [Bool.and_eq_true, decide_eq_true_eq, beq_iff_eq] at hi'
      have := hst _ (List.getElem_mem hi)
      rw [slot_eq hi] at s hi' ⊢
      exact ⟨by omega, List.eq_nil_of_length_eq_zero hi'.1, hi'.2⟩
theorem checkL_uniq {l : List Entry} (h : checkL l = true) : Uniq l := by
  intro i j hi hj si sj ht
  rw [slot_eq hi] at si ht
  rw [slot_eq hj] at sj ht
  have e1 := (checkL_used h hi si).2.2
  have e2 := (checkL_used h hj sj).2.2
  rw [ht, e2] at e1; omega
end Go.Eng
namespace Go.Eng
open Go Go.Proofs
set_option exponentiation.threshold 300
theorem probe_all {h many i : Nat} (hi : i < many) : ∃ u, u < many ∧ probe h many u = i := by
  have hm : 0 < many := by omega
  have hh : h % many < many := Nat.mod_lt _ hm
  rcases Nat.lt_or_ge i (h % many) with hlt | hge
  · refine ⟨i + many - h % many, by omega, ?_⟩
    unfold probe
    rw [Nat.mod_eq_of_lt (show i + many - h % many < many by omega), show h % many + (i + many - h % many) = i + many by omega, Nat.add_mod_right, Nat.mod_eq_of_lt hi]
  · refine ⟨i - h % many, by omega, ?_⟩
    unfold probe
    rw [Nat.mod_eq_of_lt (show i - h % many < many by omega), show h % many + (i - h % many) = i by omega, Nat.mod_eq_of_lt hi]
theorem filter_set {α : Type} {p : α → Bool} {x : α} : ∀ {l : List α} {i : Nat} (hi : i < l.length), p l[i] = false → p x = true → ((l.set i x).filter p).Perm (x :: l.filter p)
  | y :: l, 0, hi, h1, h2 => by
    have h1' : p y = false := h1
    simp only [List.set_cons_zero, List.filter_cons, h1', h2, if_true, Bool.false_eq_true, if_false]
    exact .refl _
  | y :: l, i + 1, hi, h1, h2 => by
    have ih := filter_set (l := l) (i := i) (by simpa using hi) (by simpa using h1) h2
    simp only [List.set_cons_succ, List.filter_cons]
    split
    · exact (ih.cons y).trans (.swap x y _)
    · exact ih
theorem filter_unset {α : Type} {p : α → Bool} {x : α} : ∀ {l : List α} {i : Nat} (hi : i < l.length), p l[i] = true → p x = false → (l.filter p).Perm (l[i] :: (l.set i x).filter p)
  | y :: l, 0, hi, h1, h2 => by
    have h1' : p y = true := h1
    simp only [List.set_cons_zero, List.filter_cons, h1', h2, if_true, Bool.false_eq_true, if_false, List.getElem_cons_zero]
    exact .refl _
  | y :: l, i + 1, hi, h1, h2 => by
    have ih := filter_unset (l := l) (i := i) (by simpa using hi) (by simpa using h1) h2
    simp only [List.set_cons_succ, List.filter_cons, List.getElem_cons_succ]
    split
    · exact (ih.cons y).trans (.swap _ y _)
    · exact ih
theorem slot_set {l : List Entry} {i k : Nat} {x : Entry} (hk : k < l.length) : slot (l.set i x) k = if i = k then x else slot l k := by
  rw [slot_eq (by simpa using hk), slot_eq hk, List.getElem_set]
/-- A slot that is not free, put where another stood. -/
theorem found_set {l : List Entry} {t : List Int} {i j : Nat} {x : Entry} (hx : x.st ≠ 0) (hi : i < l.length) (hij : j ≠ i) (h : FoundP l t (i : Int)) : FoundP (l.set j x) t (i : Int) := by
  obtain ⟨u, h1, h2, h3, h4, h5⟩ := h
  have hp : ∀ v, probe (hashT t) l.length v < l.length := fun v => probe_lt (by omega)
  have h2' : probe (hashT t) l.length u = i := by omega
  refine ⟨u, by simpa using h1, by simpa using h2, fun v hv => ?_, ?_, ?_⟩
  · rw [List.length_set]
    refine ⟨(h3 v hv).1, ?_⟩
    rw [slot_set (hp v)]; split
    · exact hx
    · exact (h3 v hv).2
  · rw [List.length_set, slot_set (hp u), if_neg (by omega)]; exact h4
  · rw [List.length_set, slot_set (hp u), if_neg (by omega)]; exact h5
structure Laid (acc es : List Entry) : Prop where
  at_ : ∀ i, i < acc.length → slot acc i = blankE ∨ ((slot acc i).st = 1 ∧ FoundP acc (slot acc i).ty (i : Int))
  perm : (usedE acc).Perm es
theorem Laid.free {acc es : List Entry} (h : Laid acc es) (hl : es.length < acc.length) : ∃ i, i < acc.length ∧ (slot acc i).st = 0 := by
  by_cases hf : ∃ i, i < acc.length ∧ (slot acc i).st = 0
  · exact hf
  · exfalso
    have : usedE acc = acc := by
      unfold usedE
      rw [List.filter_eq_self]
      intro e he
      obtain ⟨i, hi, rfl⟩ := List.mem_iff_getElem.1 he
      rcases h.at_ i hi with hb | ⟨hs, _⟩
      · exact absurd ⟨i, hi, by rw [hb]; rfl⟩ hf
      · rw [slot_eq hi] at hs; simp [hs]
    have := h.perm.length_eq
    rw [‹usedE acc = acc›] at this; omega
theorem Laid.lay {acc es : List Entry} (h : Laid acc es) (hl : es.length < acc.length) {x : Entry} (hx : x.st = 1) : Laid (layL acc x) (es ++ [x]) := by
  obtain ⟨i, hi, hfree⟩ := h.free hl
  obtain ⟨u, hu, hui⟩ := probe_all (h := hashT x.ty) hi
  unfold layL
  split
  · rename_i k hk
    obtain ⟨h1, h2, h3⟩ := find_range_some.1 hk
    have hp : probe (hashT x.ty) acc.length k < acc.length := probe_lt (by omega)
    have hkf : (slot acc (probe (hashT x.ty) acc.length k)).st = 0 := by simpa [freeAt] using h1
    constructor
    · intro j hj
      rw [List.length_set] at hj
      rw [slot_set hj]
      split
      · rename_i he
        right
        refine ⟨hx, k, by simpa using h2, by rw [List.length_set]; omega, fun v hv => ?_, ?_, ?_⟩
        · rw [List.length_set]
          have hv' := h3 v hv
          simp only [freeAt, beq_eq_false_iff_ne, ne_eq] at hv'
          have hne : probe (hashT x.ty) acc.length k ≠ probe (hashT x.ty) acc.length v := fun he' => hv' (by rw [← he']; exact hkf)
          refine ⟨by omega, ?_⟩
          rw [slot_set (probe_lt (by omega)), if_neg hne]; exact hv'
        · rw [List.length_set, slot_set hp, if_pos rfl]; exact hx
        · rw [List.length_set, slot_set hp, if_pos rfl]
      · rename_i hne
        rcases h.at_ j hj with hb | ⟨hs, hf⟩
        · exact .inl hb
        · exact .inr ⟨hs, found_set (by omega) hj hne hf⟩
    · have := filter_set (l := acc) (p := fun e => e.st == 1) (x := x) hp (by rw [← slot_eq hp, hkf]; rfl) (by simp [hx])
      refine this.trans ?_
      exact ((h.perm.cons x).trans (List.perm_append_singleton x es).symm)
  · rename_i hk
    have := find_range_none.1 hk u hu
    simp [freeAt, hui, hfree] at this
theorem laid_fold : ∀ {es acc done : List Entry}, Laid acc done → done.length + es.length ≤ acc.length → (∀ e ∈ es, e.st = 1) → Laid (es.foldl layL acc) (done ++ es)
  | [], acc, done, h, _, _ => by simpa using h
  | x :: es, acc, done, h, hl, hs => by
    have h1 := h.lay (x := x) (by simp at hl; omega) (hs x (by simp))
    have := laid_fold (es := es) h1 (by rw [layL_len]; simp at hl ⊢; omega) fun e he => hs e (List.mem_cons_of_mem _ he)
    simpa using this
theorem laid_laid {es : List Entry} {many : Nat} (hl : es.length ≤ many) (hs : ∀ e ∈ es, e.st = 1) : Laid (laidL es many) es := by
  have h0 : Laid (List.replicate many blankE) [] := by
    constructor
    · intro i hi; left; rw [slot_eq hi]; simp
    · unfold usedE
      rw [List.filter_eq_nil_iff.2]
      intro e he; rw [(List.mem_replicate.1 he).2]; decide
  have := laid_fold (es := es) h0 (by simpa using hl) hs
  rwa [List.nil_append] at this
theorem checkL_iff {l : List Entry} : checkL l = true ↔ (∀ e ∈ l, 0 ≤ e.st ∧ e.st ≤ 2) ∧ 8 ≤ l.length ∧ pow2 l.length = true ∧ 4 * taken l ≤ 3 * l.length ∧ taken l ≤ 4000 ∧ ∀ i, i < l.length → slotOk l i = true := by
  simp only [checkL, preL, Bool.and_eq_true, List.all_eq_true, decide_eq_true_eq, List.mem_range, and_assoc]
theorem uniq_of {l : List Entry} (h : ((usedE l).map (·.ty)).Nodup) : Uniq l := by
  intro i j hi hj si sj ht
  rw [slot_eq hi] at si ht
  rw [slot_eq hj] at sj ht
  rw [List.nodup_iff_pairwise_ne, List.pairwise_map] at h
  unfold usedE at h
  rw [List.pairwise_filter] at h
  have := List.pairwise_iff_getElem.1 h
  rcases Nat.lt_trichotomy i j with hl | he | hl
  · exact absurd ht (this i j hi hj hl (by simp [si]) (by simp [sj]))
  · exact he
  · exact absurd ht.symm (this j i hj hi hl (by simp [sj]) (by simp [si]))
theorem nodup_ty {l : List Entry} (h : checkL l = true) : ((usedE l).map (·.ty)).Nodup := by
  rw [List.nodup_iff_pairwise_ne, List.pairwise_map]
  unfold usedE
  rw [List.pairwise_filter, List.pairwise_iff_getElem]
  intro i j hi hj hij si sj ht
  have e1 := (checkL_used h hi (by simpa using si)).2.2
  have e2 := (checkL_used h hj (by simpa using sj)).2.2
  rw [ht, e2] at e1; omega
theorem usedE_len (l : List Entry) : (usedE l).length = cnt l 1 := rfl
/-- Entries laid into slots enough: a lookup that may be. -/
theorem laid_check {es : List Entry} {many : Nat} (hm : Pow8 many) (hmx : many < 2 ^ 62) (hs : ∀ e ∈ es, e.st = 1 ∧ right2 e.ty = true ∧ 0 ≤ e.num) (hn : (es.map (·.ty)).Nodup) (h4 : 4 * es.length ≤ 3 * many) (h4k : es.length ≤ 4000) :
    checkL (laidL es many) = true ∧ (usedE (laidL es many)).Perm es := by
  have hL := laid_laid (es := es) (many := many) (by omega) fun e he => (hs e he).1
  have hlen := laidL_len es many
  generalize laidL es many = acc at *
  refine ⟨?_, hL.perm⟩
  have hu : Uniq acc := uniq_of ((hL.perm.map _).nodup_iff.2 hn)
  have ⟨p1, p2⟩ := (pow8_iff hmx).1 hm
  have hst : ∀ i, i < acc.length → (slot acc i).st = 0 ∨ (slot acc i).st = 1 := fun i hi => by
    rcases hL.at_ i hi with hb | ⟨h, _⟩
    · left; rw [hb]; rfl
    · exact .inr h
  have hst' : ∀ e ∈ acc, e.st = 0 ∨ e.st = 1 := fun e he => by
    obtain ⟨i, hi, rfl⟩ := List.mem_iff_getElem.1 he
    rw [← slot_eq hi]; exact hst i hi
  have c2 : cnt acc 2 = 0 := by
    unfold cnt
    rw [List.length_eq_zero_iff, List.filter_eq_nil_iff]
    intro e he; rcases hst' e he with h | h <;> simp [h]
  have c1 : cnt acc 1 = es.length := hL.perm.length_eq
  have ht : taken acc = es.length := by unfold taken; omega
  refine checkL_iff.2 ⟨fun e he => by rcases hst' e he with h | h <;> omega, by rw [hlen]; exact p1, by rw [hlen]; exact p2, by omega, by omega, fun i hi => ?_⟩
  unfold slotOk
  rcases hL.at_ i (by omega) with hb | ⟨h, hf⟩
  · rw [hb]; rfl
  · have hm : slot acc i ∈ es := by
      refine hL.perm.mem_iff.1 (List.mem_filter.2 ⟨?_, by simp [h]⟩)
      rw [slot_eq (by omega)]; exact List.getElem_mem _
    obtain ⟨_, h2, h3⟩ := hs _ hm
    rw [if_pos h, h2, (found_place hu (by omega)).1 hf]; simp [h3]
theorem manyFrom_pow : ∀ (f m k : Nat), ∃ j, j ≤ f ∧ manyFrom f m k = m * 2 ^ j ∧ (4 * k ≤ 2 * (m * 2 ^ j) ∨ j = f)
  | 0, m, k => ⟨0, Nat.le_refl _, by simp [manyFrom], .inr rfl⟩
  | f + 1, m, k => by
    simp only [manyFrom]
    split
    · obtain ⟨j, h1, h2, h3⟩ := manyFrom_pow f (m * 2) k
      have e : m * 2 * 2 ^ j = m * 2 ^ (j + 1) := by rw [Nat.pow_succ, Nat.mul_assoc, Nat.mul_comm 2]
      refine ⟨j + 1, by omega, by rw [h2, e], ?_⟩
      rw [e] at h3
      rcases h3 with h3 | h3
      · exact .inl h3
      · exact .inr (by omega)
    · exact ⟨0, by omega, by simp, .inl (by simp; omega)⟩
theorem manyOf_ok {k : Nat} (hk : k ≤ 4000) : Pow8 (manyOf k) ∧ manyOf k < 2 ^ 62 ∧ 4 * k ≤ 2 * manyOf k := by
  have hle := manyOf_le k
  obtain ⟨j, h1, h2, h3⟩ := manyFrom_pow 20 8 k
  refine ⟨⟨j, h2⟩, by omega, ?_⟩
  show 4 * k ≤ 2 * manyFrom 20 8 k
  rcases h3 with h3 | rfl
  · omega
  · rw [h2]; omega
theorem place_none {l : List Entry} (h : checkL l = true) {t : List Int} (hp : place l t < 0) : ∀ e ∈ l, e.st = 1 → e.ty ≠ t := by
  intro e he hs ht
  obtain ⟨i, hi, rfl⟩ := List.mem_iff_getElem.1 he
  have := (checkL_used h hi hs).2.2
  rw [ht] at this; omega
theorem all7_perm' {l : List Entry} : (all7 Entry.st Entry.ty l).Perm (usedE l) := all7_perm Entry.st Entry.ty l
theorem put_ok {l : List Entry} {t : List Int} {num : Int} (h : checkL l = true) (ht : right2 t = true) (hn : 0 ≤ num) (hp : place l t < 0) (hc : (all7 Entry.st Entry.ty l).length ≠ 4000) :
    (putL l t num).2 = 0 ∧ checkL (putL l t num).1 = true ∧ (usedE (putL l t num).1).Perm (⟨1, t, num⟩ :: usedE l) := by
  have hlen : (all7 Entry.st Entry.ty l).length ≤ 4000 := by
    rw [all7_perm'.length_eq, usedE_len]
    have := (checkL_iff.1 h).2.2.2.2.1
    unfold taken at this; omega
  obtain ⟨m1, m2, m3⟩ := manyOf_ok (k := (all7 Entry.st Entry.ty l).length + 1) (by omega)
  have hcheck := laid_check (es := all7 Entry.st Entry.ty l ++ [⟨1, t, num⟩]) m1 m2 ?_ ?_ (by simp; omega) (by simp; omega)
  · simp only [putL, h, ht, hc, Bool.true_eq_false, if_false, show ¬ num < 0 by omega, show ¬ 0 ≤ place l t by omega]
    exact ⟨by trivial, hcheck.1, hcheck.2.trans ((List.perm_append_singleton _ _).trans (all7_perm'.cons _))⟩
  · intro e he
    rcases List.mem_append.1 he with he | he
    · have := all7_perm'.mem_iff.1 he
      obtain ⟨h1, h2⟩ := List.mem_filter.1 this
      obtain ⟨i, hi, rfl⟩ := List.mem_iff_getElem.1 h1
      have hs : l[i].st = 1 := by simpa using h2
      obtain ⟨a1, a2, _⟩ := checkL_used h hi hs
      exact ⟨hs, a1, a2⟩
    · rw [List.mem_singleton.1 he]; exact ⟨rfl, ht, hn⟩
  · have hP : ((all7 Entry.st Entry.ty l ++ [(⟨1, t, num⟩ : Entry)]).map (fun e : Entry => e.ty)).Perm (t :: (usedE l).map (fun e : Entry => e.ty)) := by
      rw [List.map_append]
      exact (List.perm_append_singleton _ _).trans ((all7_perm'.map _).cons _)
    rw [hP.nodup_iff, List.nodup_cons]
    refine ⟨fun hm => ?_, nodup_ty h⟩
    obtain ⟨e, he, het⟩ := List.mem_map.1 hm
    obtain ⟨h1, h2⟩ := List.mem_filter.1 he
    exact place_none h hp e h1 (by simpa using h2) het
/-- A type less: a lookup that may be. -/
theorem drop_ok {l : List Entry} {t : List Int} (h : checkL l = true) (hp : ¬ place l t < 0) :
    (dropL l t).2 = 0 ∧ checkL (dropL l t).1 = true ∧ ∃ e, e.ty = t ∧ e.st = 1 ∧ (usedE l).Perm (e :: usedE (dropL l t).1) := by
  rcases place_lt (l := l) (t := t) with h0 | ⟨k, hk, hpk, hs, hty⟩
  · exact absurd h0 hp
  have hd : dropL l t = (l.set k ⟨2, [], 0⟩, 0) := by
    simp only [dropL, h, Bool.true_eq_false, if_false, hpk, show ¬ ((k : Nat) : Int) < 0 by omega, Int.toNat_natCast]
  rw [hd]
  refine ⟨rfl, ?_, l[k], by rw [← slot_eq hk]; exact hty, by rw [← slot_eq hk]; exact hs, ?_⟩
  · have hP := filter_unset (l := l) (p := fun e => e.st == 1) (x := ⟨2, [], 0⟩) hk (by rw [← slot_eq hk, hs]; rfl) rfl
    have hN := nodup_ty h
    have hu : Uniq (l.set k ⟨2, [], 0⟩) := by
      refine uniq_of ?_
      have h1 := (hP.map (·.ty)).nodup_iff.1 hN
      exact (List.nodup_cons.1 h1).2
    have c1 : cnt l 1 = cnt (l.set k ⟨2, [], 0⟩) 1 + 1 := by have := hP.length_eq; rw [List.length_cons] at this; exact this
    have c2 : cnt (l.set k ⟨2, [], 0⟩) 2 = cnt l 2 + 1 := by
      have := (filter_set (l := l) (p := fun e => e.st == 2) (x := ⟨2, [], 0⟩) hk (by rw [← slot_eq hk, hs]; rfl) rfl).length_eq
      rw [List.length_cons] at this; exact this
    obtain ⟨hst, p1, p2, h3, h4, hok⟩ := checkL_iff.1 h
    have ht : taken (l.set k ⟨2, [], 0⟩) = taken l := by unfold taken; omega
    refine checkL_iff.2 ⟨fun e he => ?_, by rw [List.length_set]; exact p1, by rw [List.length_set]; exact p2, by rw [List.length_set]; show 4 * taken (l.set k ⟨2, [], 0⟩) ≤ _; omega, by show taken (l.set k ⟨2, [], 0⟩) ≤ _; omega, fun i hi => ?_⟩
    · rcases List.mem_or_eq_of_mem_set he with he | rfl
      · exact hst e he
      · exact ⟨by decide, by decide⟩
    · rw [List.length_set] at hi
      have hi' := hok i hi
      unfold slotOk at hi' ⊢
      rw [slot_set hi]
      by_cases hki : k = i
      · rw [if_pos hki]; rfl
      · rw [if_neg hki]
        by_cases hsi : (slot l i).st = 1
        · rw [if_pos hsi] at hi' ⊢
          simp only [Bool.and_eq_true, decide_eq_true_eq, beq_iff_eq] at hi' ⊢
          refine ⟨hi'.1, (found_place hu (by simpa using hi)).1 ?_⟩
          exact found_set (by decide) hi hki ((found_place (checkL_uniq h) hi).2 hi'.2)
        · rw [if_neg hsi] at hi' ⊢; exact hi'
  · exact filter_unset (l := l) (p := fun e => e.st == 1) (x := ⟨2, [], 0⟩) hk (by rw [← slot_eq hk, hs]; rfl) rfl
theorem new_ok : checkL newL = true ∧ usedE newL = [] := by
  constructor
  · have := laid_check (es := []) (many := 8) ⟨0, rfl⟩ (by decide) (by simp) (by simp) (by simp) (by simp)
    exact this.1
  · rfl
end Go.Eng
namespace Go.Eng
open Go Go.RowKit Go.Proofs
set_option maxRecDepth 10000
/-- Steps with one more, where its id is not there. -/
def putS (l : List Stp) (id to : Int) : List Stp := if id ∈ keys l then l else l.take (at2 (keys l) id) ++ (id, to) :: l.drop (at2 (keys l) id)
theorem set_at {α : Type} (l : List α) (k : Nat) (h : k < l.length) : l.set k l[k] = l := by simp
theorem Own.fieldB {α : Type} {enc : α → List Value} {k : Nat} {e : TypeId} {lo : Nat} {w : World} {a : Option Addr} {n c : Nat} {l : List α} (E : En enc k) (h : Own enc k e lo w a n c l) {i j : Nat} (hi : i < n) (hj : j < k) :
    ∃ (g : Nat) (hl : i < l.length), a = some ⟨g, 0, none⟩ ∧ w.cell? ((Addr.add ⟨g, 0, none⟩ (i * k)).add j) = (enc l[i])[j]? ∧ w.frozen? ((Addr.add ⟨g, 0, none⟩ (i * k)).add j) = false ∧ ∃ cs, w.heap[g]? = some (.cells cs e (0, 0)) := by
  obtain ⟨hl, p, hp, hc⟩ := h.row.atK E hi
  rcases h.2.2.2 with ⟨ha, hc0⟩ | ⟨g, cs, ha, _, hg, _⟩
  · have := h.2.1; omega
  · rw [ha] at hp; cases hp
    refine ⟨g, hl, ha, by simpa using hc j hj, ?_, cs, hg⟩
    rw [Addr.add_lit, Nat.zero_add, Addr.add_lit]; exact blk_free hg _
theorem putS_rng {l : List Stp} {id to : Int} (h : ∀ s ∈ l, 0 ≤ s.1 ∧ s.1 < 18446744073709551616 ∧ I64 s.2) (h1 : 0 ≤ id ∧ id < 18446744073709551616) (h2 : I64 to) : ∀ s ∈ putS l id to, 0 ≤ s.1 ∧ s.1 < 18446744073709551616 ∧ I64 s.2 := by
  intro s hs
  unfold putS at hs
  split at hs
  · exact h s hs
  · rcases List.mem_append.1 hs with hs | hs
    · exact h s (List.mem_of_mem_take hs)
    · rcases List.mem_cons.1 hs with rfl | hs
      · exact ⟨h1.1, h1.2, h2⟩
      · exact h s (List.mem_of_mem_drop hs)
section
variable {W : World} {a : Option Addr} {n c lo : Nat} {qs : List NP} {id to : Int} {c0 : Nat} {cs0 : Array Value}
theorem k_putPlus (ho : Own encNode 4 56 lo W a n c (qs.map (·.1))) (hlo : lo ≤ W.heap.size) (hq : ∀ p ∈ qs, NodeSays p.1 p.2 ∧ OwnN lo W p.1 p.2) (ht : ∀ p ∈ qs, p.1.plus.c = p.1.plus.n) {k : Nat} (hk : k < qs.length)
    (h0 : W.heap[c0]? = some (.cells #[.int .u64 id] 32)) (hid : 0 ≤ id ∧ id < 18446744073709551616) (hto : I64 to) (hsort : (keys qs[k].2.plus).Pairwise (· < ·)) (hlen : qs[k].2.plus.length ≤ 1000000) :
    ∃ g, a = some ⟨g, 0, none⟩ ∧ Cl Tryz.prog 100 #[.pointer (some ((Addr.add ⟨g, 0, none⟩ (k * 4)).add 2)), .int .i64 to, .pointer (some ⟨c0, 0, none⟩)] W (fun v W' => v = undef ∧ ∃ r' : RNode, r'.less = qs[k].1.less ∧
      Own encNode 4 56 lo W' a n c ((qs.set k (r', ⟨qs[k].2.used, qs[k].2.ty, putS qs[k].2.plus id to, qs[k].2.less⟩)).map (·.1)) ∧
      (∀ p ∈ qs.set k (r', ⟨qs[k].2.used, qs[k].2.ty, putS qs[k].2.plus id to, qs[k].2.less⟩), NodeSays p.1 p.2 ∧ OwnN lo W' p.1 p.2) ∧ Below lo W W' ∧
      ∀ (b : Nat) (cs : Array Value) (t : TypeId) (fr : Nat × Nat), W.heap[b]? = some (.cells cs t fr) → t ≠ 56 → W'.heap[b]? = some (.cells cs t fr)) := by
  have hn : qs.length = n := by have := ho.len; simpa using this.symm
  obtain ⟨g, hl, ha, hcell, hfr, cs, hg⟩ := ho.fieldB enNode (i := k) (j := 2) (by omega) (by decide)
  have hmem := List.getElem_mem hk
  obtain ⟨hsay, hown⟩ := hq _ hmem
  have htk := ht _ hmem
  have e0 : (qs.map (·.1))[k] = qs[k].1 := by simp
  rw [e0] at hcell
  have hcell' : W.cell? ((Addr.add ⟨g, 0, none⟩ (k * 4)).add 2) = some (.slice qs[k].1.plus.a qs[k].1.plus.n qs[k].1.plus.n) := by rw [hcell]; simp [encNode, Hd.v, htk]
  have hrow : Row encStp W qs[k].1.plus.a qs[k].1.plus.n qs[k].1.plus.n qs[k].2.plus := by have := hown.plus.row; rwa [htk] at this
  have hrl := hrow.len
  refine ⟨g, ha, (k_ggone1 (to := to) hcell' hfr (blk_cell h0 0) hrow hsort (by omega)).mono ?_⟩
  rintro v W' ⟨rfl, hput⟩
  refine ⟨rfl, ?_⟩
  rcases hput with ⟨hin, hB⟩ | ⟨hno, w5, a5, n5, c5, hB5, ho5, hW'⟩
  · refine ⟨qs[k].1, rfl, ?_, ?_, hB.mono hlo, fun b cs t fr hb _ => blk_below hb hB (blk_lt hb)⟩
    · rw [List.map_set]; dsimp only
      have : (qs.map (·.1)).set k qs[k].1 = qs.map (·.1) := by
        rw [← e0]; exact set_at _ _ _
      rw [this]; exact ho.below hB
    · intro p hp
      rcases List.mem_or_eq_of_mem_set hp with hp | rfl
      · exact ⟨(hq p hp).1, (hq p hp).2.below hB⟩
      · have e : putS qs[k].2.plus id to = qs[k].2.plus := by rw [putS, if_pos hin]
        exact ⟨by dsimp only; rw [e]; exact ⟨hsay.used, hsay.rng⟩, by dsimp only; rw [e]; exact ⟨(hown.below hB).ty, (hown.below hB).plus, (hown.below hB).less⟩⟩
  · have e : putS qs[k].2.plus id to = qs[k].2.plus.take (at2 (keys qs[k].2.plus) id) ++ (id, to) :: qs[k].2.plus.drop (at2 (keys qs[k].2.plus) id) := by rw [putS, if_neg hno]
    have oo5 := ho.below hB5
    obtain ⟨g', ha', hgl, hc1, hc2, hput1, hgr1, _⟩ := oo5.put1 enNode (i := k) (j := 2) (by omega) (by decide) (.slice a5 n5 c5) ⟨qs[k].1.used, qs[k].1.ty, ⟨a5, n5, c5⟩, qs[k].1.less⟩ (fun hl => by simp [encNode])
    rw [ha] at ha'; cases ha'
    rw [← hW'] at hput1 hgr1
    rw [show some g = Option.map (·.block) (some (⟨g, 0, none⟩ : Addr)) from rfl, ← ha] at hgr1
    refine ⟨⟨qs[k].1.used, qs[k].1.ty, ⟨a5, n5, c5⟩, qs[k].1.less⟩, rfl, by rw [List.map_set]; exact hput1, ?_, (hB5.mono hlo).trans (oo5.belowOf hgr1 (Nat.le_trans hlo hB5.size)), fun b cs t fr hb hne => oo5.keepBlk hgr1 (blk_below hb hB5 (blk_lt hb)) (.inl hne)⟩
    intro p hp
    rcases List.mem_or_eq_of_mem_set hp with hp | rfl
    · exact ⟨(hq p hp).1, ((hq p hp).2.below hB5).keepBy oo5 hgr1 (by decide) (by decide)⟩
    · refine ⟨⟨hsay.used, hsay.rng.1, fun s hs => ?_⟩, OwnN.keepBy ⟨(hown.below hB5).ty, by rw [e]; exact ho5.mono hlo, (hown.below hB5).less⟩ oo5 hgr1 (by decide) (by decide)⟩
      rcases List.mem_append.1 hs with hs | hs
      · exact putS_rng (fun s hs => hsay.rng.2 s (List.mem_append.2 (.inl hs))) hid hto s hs
      · exact hsay.rng.2 s (List.mem_append.2 (.inr hs))
theorem k_putLess (ho : Own encNode 4 56 lo W a n c (qs.map (·.1))) (hlo : lo ≤ W.heap.size) (hq : ∀ p ∈ qs, NodeSays p.1 p.2 ∧ OwnN lo W p.1 p.2) (ht : ∀ p ∈ qs, p.1.less.c = p.1.less.n) {k : Nat} (hk : k < qs.length)
    (h0 : W.heap[c0]? = some (.cells #[.int .u64 id] 32)) (hid : 0 ≤ id ∧ id < 18446744073709551616) (hto : I64 to) (hsort : (keys qs[k].2.less).Pairwise (· < ·)) (hlen : qs[k].2.less.length ≤ 1000000) :
    ∃ g, a = some ⟨g, 0, none⟩ ∧ Cl Tryz.prog 100 #[.pointer (some ((Addr.add ⟨g, 0, none⟩ (k * 4)).add 3)), .int .i64 to, .pointer (some ⟨c0, 0, none⟩)] W (fun v W' => v = undef ∧ ∃ r' : RNode, r'.plus = qs[k].1.plus ∧
      Own encNode 4 56 lo W' a n c ((qs.set k (r', ⟨qs[k].2.used, qs[k].2.ty, qs[k].2.plus, putS qs[k].2.less id to⟩)).map (·.1)) ∧
      (∀ p ∈ qs.set k (r', ⟨qs[k].2.used, qs[k].2.ty, qs[k].2.plus, putS qs[k].2.less id to⟩), NodeSays p.1 p.2 ∧ OwnN lo W' p.1 p.2) ∧ Below lo W W' ∧
      ∀ (b : Nat) (cs : Array Value) (t : TypeId) (fr : Nat × Nat), W.heap[b]? = some (.cells cs t fr) → t ≠ 56 → W'.heap[b]? = some (.cells cs t fr)) := by
  have hn : qs.length = n := by have := ho.len; simpa using this.symm
  obtain ⟨g, hl, ha, hcell, hfr, cs, hg⟩ := ho.fieldB enNode (i := k) (j := 3) (by omega) (by decide)
  have hmem := List.getElem_mem hk
  obtain ⟨hsay, hown⟩ := hq _ hmem
  have htk := ht _ hmem
  have e0 : (qs.map (·.1))[k] = qs[k].1 := by simp
  rw [e0] at hcell
  have hcell' : W.cell? ((Addr.add ⟨g, 0, none⟩ (k * 4)).add 3) = some (.slice qs[k].1.less.a qs[k].1.less.n qs[k].1.less.n) := by rw [hcell]; simp [encNode, Hd.v, htk]
  have hrow : Row encStp W qs[k].1.less.a qs[k].1.less.n qs[k].1.less.n qs[k].2.less := by have := hown.less.row; rwa [htk] at this
  have hrl := hrow.len
  refine ⟨g, ha, (k_ggone1 (to := to) hcell' hfr (blk_cell h0 0) hrow hsort (by omega)).mono ?_⟩
  rintro v W' ⟨rfl, hput⟩
  refine ⟨rfl, ?_⟩
  rcases hput with ⟨hin, hB⟩ | ⟨hno, w5, a5, n5, c5, hB5, ho5, hW'⟩
  · refine ⟨qs[k].1, rfl, ?_, ?_, hB.mono hlo, fun b cs t fr hb _ => blk_below hb hB (blk_lt hb)⟩
    · rw [List.map_set]; dsimp only
      have : (qs.map (·.1)).set k qs[k].1 = qs.map (·.1) := by
        rw [← e0]; exact set_at _ _ _
      rw [this]; exact ho.below hB
    · intro p hp
      rcases List.mem_or_eq_of_mem_set hp with hp | rfl
      · exact ⟨(hq p hp).1, (hq p hp).2.below hB⟩
      · have e : putS qs[k].2.less id to = qs[k].2.less := by rw [putS, if_pos hin]
        exact ⟨by dsimp only; rw [e]; exact ⟨hsay.used, hsay.rng⟩, by dsimp only; rw [e]; exact ⟨(hown.below hB).ty, (hown.below hB).plus, (hown.below hB).less⟩⟩
  · have e : putS qs[k].2.less id to = qs[k].2.less.take (at2 (keys qs[k].2.less) id) ++ (id, to) :: qs[k].2.less.drop (at2 (keys qs[k].2.less) id) := by rw [putS, if_neg hno]
    have oo5 := ho.below hB5
    obtain ⟨g', ha', hgl, hc1, hc2, hput1, hgr1, _⟩ := oo5.put1 enNode (i := k) (j := 3) (by omega) (by decide) (.slice a5 n5 c5) ⟨qs[k].1.used, qs[k].1.ty, qs[k].1.plus, ⟨a5, n5, c5⟩⟩ (fun hl => by simp [encNode])
    rw [ha] at ha'; cases ha'
    rw [← hW'] at hput1 hgr1
    rw [show some g = Option.map (·.block) (some (⟨g, 0, none⟩ : Addr)) from rfl, ← ha] at hgr1
    refine ⟨⟨qs[k].1.used, qs[k].1.ty, qs[k].1.plus, ⟨a5, n5, c5⟩⟩, rfl, by rw [List.map_set]; exact hput1, ?_, (hB5.mono hlo).trans (oo5.belowOf hgr1 (Nat.le_trans hlo hB5.size)), fun b cs t fr hb hne => oo5.keepBlk hgr1 (blk_below hb hB5 (blk_lt hb)) (.inl hne)⟩
    intro p hp
    rcases List.mem_or_eq_of_mem_set hp with hp | rfl
    · exact ⟨(hq p hp).1, ((hq p hp).2.below hB5).keepBy oo5 hgr1 (by decide) (by decide)⟩
    · refine ⟨⟨hsay.used, hsay.rng.1, fun s hs => ?_⟩, OwnN.keepBy ⟨(hown.below hB5).ty, (hown.below hB5).plus, by rw [e]; exact ho5.mono hlo⟩ oo5 hgr1 (by decide) (by decide)⟩
      rcases List.mem_append.1 hs with hs | hs
      · exact hsay.rng.2 s (List.mem_append.2 (.inl hs))
      · exact putS_rng (fun s hs => hsay.rng.2 s (List.mem_append.2 (.inr hs))) hid hto s hs
end
end Go.Eng
