/- Part 8 of the proof of GraphMaySaid. What is proved: what a call of each function leaves. Conditions: those that each theorem names. -/
import Derived.Test.YtfcnkaignjdpgaaGreatA7
set_option linter.unusedVariables false
set_option linter.unusedSimpArgs false
set_option linter.unusedSectionVars false
namespace Go.Eng
open Go Go.RowKit Go.Proofs
set_option maxRecDepth 10000
def addPlus (l : List Node) (n id to : Int) : List Node := l.set (n - 1).toNat ⟨(node l n).used, (node l n).ty, putS (node l n).plus id to, (node l n).less⟩
def addLess (l : List Node) (n id to : Int) : List Node := l.set (n - 1).toNat ⟨(node l n).used, (node l n).ty, (node l n).plus, putS (node l n).less id to⟩
/-- A graph, a step being gone, and where to; the error. -/
def goneG (turn : List Int → Int → List Int × Int) (G : PG) (n id : Int) (plus : Bool) : PG × Int × Int :=
  if checkG G = false then (⟨[], []⟩, 0, 220)
  else if isN G.nodes n = false then (⟨[], []⟩, 0, 2)
  else if (turn (node G.nodes n).ty id).2 ≠ 0 then (⟨[], []⟩, 0, (turn (node G.nodes n).ty id).2)
  else if (turn (node G.nodes n).ty id).1 = (node G.nodes n).ty then (G, n, 0)
  else if (ofG G (turn (node G.nodes n).ty id).1).2.2 ≠ 0 then (⟨[], []⟩, 0, (ofG G (turn (node G.nodes n).ty id).1).2.2)
  else (⟨if plus = true then addLess (addPlus (ofG G (turn (node G.nodes n).ty id).1).1.nodes n id (ofG G (turn (node G.nodes n).ty id).1).2.1) (ofG G (turn (node G.nodes n).ty id).1).2.1 id n
      else addPlus (addLess (ofG G (turn (node G.nodes n).ty id).1).1.nodes n id (ofG G (turn (node G.nodes n).ty id).1).2.1) (ofG G (turn (node G.nodes n).ty id).1).2.1 id n, (ofG G (turn (node G.nodes n).ty id).1).1.slots⟩, (ofG G (turn (node G.nodes n).ty id).1).2.1, 0)
def SortedN (x : Node) : Prop := (keys x.plus).Pairwise (· < ·) ∧ (keys x.less).Pairwise (· < ·)
theorem ChG.sorted {G : PG} (h : ChG G) : ∀ x ∈ G.nodes, SortedN x := by
  intro x hx
  obtain ⟨i, hi, rfl⟩ := List.mem_iff_getElem.1 hx
  cases hu : G.nodes[i].used with
  | true =>
    obtain ⟨_, _, h1, h2⟩ := h.node hi hu
    exact ⟨stepsG_sorted h1, stepsG_sorted h2⟩
  | false =>
    obtain ⟨_, h1, h2⟩ := h.free hi hu
    unfold SortedN; rw [h1, h2]; exact ⟨.nil, .nil⟩
theorem setNode_mem {l : List Node} {k : Nat} {x y : Node} (h : y ∈ setNode l k x) : y ∈ l ∨ y = x := by
  unfold setNode at h
  split at h
  · exact List.mem_or_eq_of_mem_set h
  · simpa using h
theorem setNode_len {l : List Node} {k : Nat} {x : Node} (hk : k ≤ l.length) : l.length ≤ (setNode l k x).length ∧ k < (setNode l k x).length := by
  unfold setNode; split
  · simp; omega
  · simp; omega
theorem setNode_get {l : List Node} {k i : Nat} {x : Node} (hi : i < l.length) (hne : i ≠ k) (h' : i < (setNode l k x).length) : (setNode l k x)[i] = l[i] := by
  unfold setNode at h' ⊢
  split
  · rw [List.getElem_set_ne (Ne.symm hne)]
  · rw [List.getElem_append_left hi]
/-- What a graph of which a node has a type is. -/
theorem of_facts {G : PG} {t : List Int} (h : ChG G) (he : (ofG G t).2.2 = 0) : right2 t = true ∧ (∃ k : Nat, (ofG G t).2.1 = (k : Int) + 1 ∧ k < (ofG G t).1.nodes.length) ∧ (∀ x ∈ (ofG G t).1.nodes, x ∈ G.nodes ∨ x = ⟨true, t, [], []⟩) ∧
    (G.nodes.length ≤ (ofG G t).1.nodes.length) ∧ (ofG G t).1.nodes.length ≤ G.nodes.length + 1 ∧ (∀ i (hi : i < G.nodes.length), G.nodes[i].used = true → ∃ h' : i < (ofG G t).1.nodes.length, (ofG G t).1.nodes[i] = G.nodes[i]) := by
  have hr2 : right2 t = true := by
    cases hr : right2 t with
    | true => rfl
    | false => simp [ofG, hr] at he
  refine ⟨hr2, ?_⟩
  cases hf : (findL G.slots t).2 with
  | true =>
    obtain ⟨i, hi, h1, _, _⟩ := h.find hf
    have e : ofG G t = (G, (findL G.slots t).1, 0) := by simp [ofG, hr2, hf]
    rw [e]
    exact ⟨⟨i, h1, hi⟩, fun x hx => .inl hx, Nat.le_refl _, by dsimp only; omega, fun i hi _ => ⟨hi, rfl⟩⟩
  | false =>
    by_cases hp : (putL G.slots t ((freeIx G.nodes : Int) + 1)).2 = 0
    · have e : ofG G t = (⟨setNode G.nodes (freeIx G.nodes) ⟨true, t, [], []⟩, (putL G.slots t ((freeIx G.nodes : Int) + 1)).1⟩, (freeIx G.nodes : Int) + 1, 0) := by simp [ofG, hr2, hf, hp]
      rw [e]
      have hle := freeIx_le G.nodes
      have hl := setNode_len (x := ⟨true, t, [], []⟩) hle
      refine ⟨⟨freeIx G.nodes, rfl, hl.2⟩, fun x hx => setNode_mem hx, hl.1, ?_, fun i hi hu => ?_⟩
      · dsimp only; unfold setNode; split <;> simp
      · have hne : i ≠ freeIx G.nodes := by
          rintro rfl
          have h1 := List.findIdx_getElem (p := fun x : Node => !x.used) (xs := G.nodes) (w := hi)
          have h2 : (!G.nodes[freeIx G.nodes].used) = true := h1
          rw [hu] at h2; simp at h2
        exact ⟨by have := hl.1; dsimp only; omega, setNode_get hi hne _⟩
    · exfalso
      rw [ofG, if_neg (by rw [hr2]; simp), if_neg (by rw [hf]; simp), if_pos hp] at he
      exact hp he
/-- A graph in memory of its own, a number and an error. -/
def GrfD3 (w : World) (p : PG × Int × Int) (v : Value) (w' : World) : Prop :=
  ∃ a n c sa sn sc, v = .tuple #[.agg #[.slice a n c, .slice sa sn sc], .int .i64 p.2.1, .int .i64 p.2.2] ∧ DNodes w.heap.size w' a n c p.1.nodes ∧ DEnts w.heap.size w' sa sn sc p.1.slots ∧ Below w.heap.size w w'
theorem GrfE3.d {w w' : World} {p : PG × Int × Int} {v : Value} (h : GrfE3 w p v w') : GrfD3 w p v w' := by
  obtain ⟨a, n, c, sa, sn, sc, h1, h2, h3⟩ := h; exact ⟨a, n, c, sa, sn, sc, h1, h2.d, h3⟩
theorem grfD3 {w w' : World} {p : PG × Int × Int} {G : PG} {m e : Int} {a sa : Option Addr} {n c sn sc : Nat} (hp : p = (G, m, e)) (h1 : DNodes w.heap.size w' a n c G.nodes) (h2 : DEnts w.heap.size w' sa sn sc G.slots) (hB : Below w.heap.size w w') :
    GrfD3 w p (.tuple #[.agg #[.slice a n c, .slice sa sn sc], .int .i64 m, .int .i64 e]) w' := by
  subst hp; exact ⟨_, _, _, _, _, _, rfl, h1, h2, hB⟩
section
variable {w : World} {a sa : Option Addr} {n c sn sc : Nat} {G : PG} {turn : List Int → Int → List Int × Int} {f : FuncId} {cf : List Value}
set_option maxHeartbeats 1000000
theorem k_ggone (h : Grf w a n c sa sn sc G) (hs : SmallG G) {m id : Int} (hm : I64 m) (hid : 0 ≤ id ∧ id < 18446744073709551616) (plus : Bool)
    (ht : ∀ (W : World) (xa : Option Addr) (xn xc : Nat) (t : List Int), Row encId W xa xn xc t → Cl Tryz.prog f (([.slice xa xn xc, .int .u64 id] : List Value) ++ cf).toArray W (ReadsE W (turn t id).1 (turn t id).2)) (htr : ∀ t, Rng t → Rng (turn t id).1) :
    Cl Tryz.prog 53 #[.agg #[.slice a n c, .slice sa sn sc], .int .i64 m, .int .u64 id, .bool plus, .func (.func f) #[] cf.toArray] w (GrfD3 w (goneG turn G m id plus)) := by
  refine c53 _ _ _ _ _ _ _ _ _ _ _ ?_
  have hs1 := hs.n.1; have hs2 := hs.s
  have hnl := h.nodes.len; have hsl := h.slots.len
  rintro _ w1 rfl h1 _ w2 rfl h2 _ w3 rfl h3
  have q1 : w3.heap[w.heap.size]? = some (.cells #[.slice a n c, .slice sa sn sc] 27) := by rw [h3, h2, h1]; exact blk_alloc (blk_alloc (blk_new _))
  have q2 : w3.heap[w1.heap.size]? = some (.cells #[.int .u64 id] 32) := by rw [h3, h2]; exact blk_alloc (blk_new _)
  have q3 : w3.heap[w2.heap.size]? = some (.cells #[.slice none 0 0, .slice none 0 0] 27) := by rw [h3]; exact blk_new _
  have z1 : w1.heap.size = w.heap.size + 1 := by rw [h1, size_alloc]
  have z2 : w2.heap.size = w1.heap.size + 1 := by rw [h2, size_alloc]
  have B3 : Below w.heap.size w w3 := by rw [h3, h2, h1]; exact ((alloc_below w _).alloc (by rw [size_alloc]; omega) _).alloc (by rw [size_alloc, size_alloc]; omega) _
  clear h1 h2 h3
  have hw2 : w.heap.size ≤ w2.heap.size := by omega
  have put2 : ∀ {W : World} {G' : PG} {m' e : Int} {a' : Option Addr} {n' c' : Nat} {sa' : Option Addr} {sn' sc' : Nat} {v0 v1 : Value}, W.heap[w2.heap.size]? = some (.cells #[v0, v1] 27) → goneG turn G m id plus = (G', m', e) → DNodes w.heap.size W a' n' c' G'.nodes → DEnts w.heap.size W sa' sn' sc' G'.slots → Below w.heap.size w W →
      ∀ W', W' = (W.setCell ⟨w2.heap.size, 0, none⟩ (.slice a' n' c')).setCell ⟨w2.heap.size, 1, none⟩ (.slice sa' sn' sc') → W'.heap[w2.heap.size]? = some (.cells #[.slice a' n' c', .slice sa' sn' sc'] 27) →
      GrfD3 w (goneG turn G m id plus) (.tuple #[.agg #[.slice a' n' c', .slice sa' sn' sc'], .int .i64 m', .int .i64 e]) W' := by
    intro W G' m' e a' n' c' sa' sn' sc' v0 v1 hq hp hn' he hB W' hW' hq'
    have qm := blk_set hq 0 (.slice a' n' c')
    rw [hW']
    exact grfD3 hp ((hn'.farB hq (by decide) (by decide) (by decide) _).farB qm (by decide) (by decide) (by decide) _) ((he.farB hq (by decide) (by decide) _).farB qm (by decide) (by decide) _) ((hB.setCell hw2 _).setCell hw2 _)
  refine ⟨_, _, _, _, _, _, blk_cell q1 0, blk_cell q1 1, (k_gCheck (h.below B3) hs).gives fun w4 B4' => ⟨_, rfl, ?_⟩⟩
  have B4 := B3.trans (B4'.mono B3.size)
  have q14 := blk_below q1 B4' (blk_lt q1)
  have q24 := blk_below q2 B4' (blk_lt q2)
  have q34 := blk_below q3 B4' (blk_lt q3)
  cases hc : checkG G with
  | false => exact put_back2 q34 (put2 (G' := ⟨[], []⟩) q34 (by simp [goneG, hc]) DNodes.nil DEnts.nil B4)
  | true =>
  have hC := (checkG_iff G).1 hc
  refine ⟨_, _, _, _, _, _, blk_cell q14 0, blk_cell q14 1, (k_gis (h.nodes.below B4) m hm).gives fun w6 B6' => ⟨_, rfl, ?_⟩⟩
  have B6 := B4.trans (B6'.mono B4.size)
  have q16 := blk_below q14 B6' (blk_lt q14)
  have q26 := blk_below q24 B6' (blk_lt q24)
  have q36 := blk_below q34 B6' (blk_lt q34)
  refine cnd (fun g => ?_) fun g => ?_
  · have : isN G.nodes m = false := by simpa using g
    exact put_back2 q36 (put2 (G' := ⟨[], []⟩) q36 (by simp [goneG, hc, this]) DNodes.nil DEnts.nil B6)
  have hi : isN G.nodes m = true := by simpa using g
  clear g
  obtain ⟨k0, rfl, hk0⟩ := isN_iff hi
  have hnode : node G.nodes ((k0 : Int) + 1) = G.nodes[k0] := node_eq hk0
  have hused : G.nodes[k0].used = true := by
    have := hi
    simp only [isN, hnode, Bool.and_eq_true] at this; exact this.2
  have hp2 : IntKind.i64.wrap ((k0 : Int) + 1 - 1) = (k0 : Int) := pre2 (by omega)
  rw [hp2]
  obtain ⟨ps, hrow, hps, hpG⟩ := h.nodes.pairs
  have hpl : ps.length = n := by rw [hnl, ← hpG]; simp
  have hpk : ps[k0].2 = G.nodes[k0] := by
    have : (ps.map (·.2))[k0]'(by simp; omega) = G.nodes[k0] := by simp only [hpG]
    simpa using this
  have hX := hps _ (List.getElem_mem (show k0 < ps.length by omega))
  rw [hpk] at hX
  refine ⟨_, _, _, blk_cell q16 0, (hrow.below B6).nodeTy (i := k0) (by omega) fun hl => ?_⟩
  have e0 : (ps.map (·.1))[k0] = ps[k0].1 := by simp
  rw [e0]
  refine ⟨_, blk_cell q26 0, (ht w6 _ _ _ _ (hX.ty.below B6)).mono ?_⟩
  rintro _ w8 ⟨a8, n8, c8, rfl, hr8, B8'⟩
  have B8 := B6.trans (B8'.mono B6.size)
  have q18 := blk_below q16 B8' (blk_lt q16)
  have q28 := blk_below q26 B8' (blk_lt q26)
  have q38 := blk_below q36 B8' (blk_lt q36)
  have hrng := htr _ hX.rng.1
  generalize hT : turn G.nodes[k0].ty id = T at *
  refine ⟨_, _, _, _, rfl, ?_⟩
  refine cnd (fun g => ?_) fun g => ?_
  · have hne : T.2 ≠ 0 := by intro h0; rw [h0] at g; simp at g
    exact put_back2 q38 (put2 (G' := ⟨[], []⟩) q38 (by simp [goneG, hc, hi, hnode, hT, hne]) DNodes.nil DEnts.nil B8)
  have hT2 : T.2 = 0 := by simpa using g
  clear g
  refine (k_EqIds hr8 (hX.ty.below B8)).tells fun w10 hq10 => ⟨_, rfl, ?_⟩
  have B10 := B8.trans (hq10.below _)
  have q110 := blk_below q18 (hq10.below _) (blk_lt q18)
  have q210 := blk_below q28 (hq10.below _) (blk_lt q28)
  have q310 := blk_below q38 (hq10.below _) (blk_lt q38)
  refine cnd (fun g => ?_) fun g => ?_
  · have hTe : T.1 = G.nodes[k0].ty := by simpa using g
    refine ⟨_, _, _, _, _, _, blk_cell q110 0, blk_cell q110 1, (k_gown (h.below B10) hs).mono ?_⟩
    rintro _ w11 ⟨g6, g6', rfl, hN, hEn, B11'⟩
    have B11 := B10.trans (B11'.mono B10.size)
    have q311 := blk_below q310 B11' (blk_lt q310)
    exact ⟨_, _, _, _, _, _, rfl, put_back2 q311 (put2 q311 (by simp [goneG, hc, hi, hnode, hT, hT2, hTe]) (hN.d.mono B10.size) (hEn.mono B10.size) B11)⟩
  have hTe : T.1 ≠ G.nodes[k0].ty := by simpa using g
  clear g
  refine ⟨_, _, _, _, _, _, blk_cell q110 0, blk_cell q110 1, (k_gof (h.below B10) hs (hr8.qt hq10) hrng).mono ?_⟩
  rintro _ w13 ⟨a13, n13, c13, sa13, sn13, sc13, rfl, hN, hEn, B13'⟩
  have B13 := B10.trans (B13'.mono B10.size)
  have q113 := blk_below q110 B13' (blk_lt q110)
  have q213 := blk_below q210 B13' (blk_lt q210)
  have q313 := blk_below q310 B13' (blk_lt q310)
  have hofF := of_facts (t := T.1) hC
  generalize hQ : ofG G T.1 = Q at *
  refine ⟨_, _, _, _, _, _, _, _, rfl, blk_some q113 (by simp), blk_free q113 _, blk_some q113 (j := 1) (by simp), blk_free q113 1, ?_⟩
  rintro w14 h14
  have qm := blk_set q113 0 (.slice a13 n13 c13)
  have q114 : w14.heap[w.heap.size]? = some (.cells #[.slice a13 n13 c13, .slice sa13 sn13 sc13] 27) := by rw [h14]; exact blk_set qm 1 _
  have q214 : w14.heap[w1.heap.size]? = some (.cells #[.int .u64 id] 32) := by
    rw [h14]; exact blk_far (blk_far q213 (by show w1.heap.size ≠ w.heap.size; omega) _) (by show w1.heap.size ≠ w.heap.size; omega) _
  have q314 : w14.heap[w2.heap.size]? = some (.cells #[.slice none 0 0, .slice none 0 0] 27) := by
    rw [h14]; exact blk_far (blk_far q313 (by show w2.heap.size ≠ w.heap.size; omega) _) (by show w2.heap.size ≠ w.heap.size; omega) _
  have B14 : Below w.heap.size w w14 := by rw [h14]; exact (B13.setCell (Nat.le_refl _) _).setCell (Nat.le_refl _) _
  have hN14 : DNodesT w.heap.size w14 a13 n13 c13 Q.1.nodes := by
    rw [h14]; exact ((hN.mono B10.size).farB q113 (by decide) (by decide) (by decide) _).farB qm (by decide) (by decide) (by decide) _
  have hE14 : DEnts w.heap.size w14 sa13 sn13 sc13 Q.1.slots := by
    rw [h14]; exact ((hEn.mono B10.size).farB q113 (by decide) (by decide) _).farB qm (by decide) (by decide) _
  clear h14 qm q113 q213 q313 hN hEn
  refine cnd (fun g => ?_) fun g => ?_
  · have hne : Q.2.2 ≠ 0 := by intro h0; rw [h0] at g; simp at g
    exact put_back2 q314 (put2 (G' := ⟨[], []⟩) q314 (by simp [goneG, hc, hi, hnode, hT, hT2, hTe, hQ, hne]) DNodes.nil DEnts.nil B14)
  have hQ2 : Q.2.2 = 0 := by simpa using g
  clear g
  obtain ⟨_, ⟨k1, hk1, hk1l⟩, hmem, hlen1, hlen2, hsame⟩ := hofF hQ2
  obtain ⟨hk0', hget0⟩ := hsame k0 hk0 hused
  rw [hk1]
  rintro _ rfl
  have q116 := blk_drew q114
  have q216 := blk_drew q214
  have q316 := blk_drew q314
  have B16 := B14.drew
  have hN16 := hN14.below (Below.refl _ _).drew
  have hE16 := hE14.below (Below.refl _ _).drew
  clear q114 q214 q314 hN14 hE14 B14
  generalize w14.drew = w16 at q116 q216 q316 B16 hN16 hE16 ⊢
  obtain ⟨qs, hqs, ho, hq, hnd⟩ := hN16
  have hql : qs.length = Q.1.nodes.length := by rw [← hqs]; simp
  have hqn : qs.length = n13 := by have := ho.len; simpa using this.symm
  have hqG : ∀ i (hi : i < qs.length), qs[i].2 = Q.1.nodes[i]'(by omega) := by
    intro i hi
    have : (qs.map (·.2))[i]'(by simpa using hi) = Q.1.nodes[i]'(by omega) := by simp only [hqs]
    simpa using this
  have hsort : ∀ x ∈ Q.1.nodes, SortedN x ∧ x.plus.length ≤ 1000000 ∧ x.less.length ≤ 1000000 := by
    intro x hx
    rcases hmem x hx with hx | rfl
    · exact ⟨hC.sorted x hx, (hs.n.2 x hx).2⟩
    · exact ⟨⟨.nil, .nil⟩, by simp, by simp⟩
  have hp2' : IntKind.i64.wrap ((k1 : Int) + 1 - 1) = (k1 : Int) := pre2 (by omega)
  rw [hp2']
  have hkq0 : k0 < qs.length := by omega
  have hkq1 : k1 < qs.length := by omega
  have hI0 : I64 ((k0 : Int) + 1) := by simp only [I64]; omega
  have hI1 : I64 ((k1 : Int) + 1) := by simp only [I64]; omega
  have hno0 : node Q.1.nodes ((k0 : Int) + 1) = Q.1.nodes[k0] := node_eq hk0'
  have hno1 : node Q.1.nodes ((k1 : Int) + 1) = Q.1.nodes[k1] := node_eq hk1l
  have ht0 : ((k0 : Int) + 1 - 1).toNat = k0 := by omega
  have ht1 : ((k1 : Int) + 1 - 1).toNat = k1 := by omega
  have hs0 := hsort _ (List.getElem_mem hk0')
  have hs1' := hsort _ (List.getElem_mem hk1l)
  have htoN : ∀ k : Nat, ((k : Nat) : Int).toNat = k := fun k => Int.toNat_natCast k
  cases plus with
  | true =>
    obtain ⟨g13, hga, hcl⟩ := k_putPlus (to := (k1 : Int) + 1) ho B16.size (fun p hp => ⟨(hq p hp).1, (hq p hp).2.1⟩) (fun p hp => (hq p hp).2.2.1) hkq0 q216 hid hI1 (by rw [hqG k0 hkq0]; exact hs0.1.1) (by rw [hqG k0 hkq0]; exact hs0.2.1)
    refine ⟨_, _, _, blk_cell q116 0, ⟨g13, 0, none⟩, hga, by omega, by omega, _, _, _, blk_cell q116 0, ⟨g13, 0, none⟩, hga, by omega, by omega, _, rfl, ?_⟩
    rw [htoN, htoN]
    refine hcl.mono ?_
    rintro _ w17 ⟨rfl, r', hr', ho17, hq17, B17', keep17⟩
    refine ⟨rfl, _, rfl, ?_⟩
    have B17 := B16.trans B17'
    have hgt : (qs.set k0 (r', ⟨qs[k0].2.used, qs[k0].2.ty, putS qs[k0].2.plus id ((k1 : Int) + 1), qs[k0].2.less⟩))[k1]'(by simpa using hkq1) = if k0 = k1 then (r', ⟨qs[k0].2.used, qs[k0].2.ty, putS qs[k0].2.plus id ((k1 : Int) + 1), qs[k0].2.less⟩) else qs[k1] := List.getElem_set ..
    have hless1 : ((qs.set k0 (r', ⟨qs[k0].2.used, qs[k0].2.ty, putS qs[k0].2.plus id ((k1 : Int) + 1), qs[k0].2.less⟩))[k1]'(by simpa using hkq1)).2.less = Q.1.nodes[k1].less := by
      rw [hgt]; split
      · rename_i he; subst he; dsimp only; rw [hqG k0 hkq0]
      · rw [hqG k1 hkq1]
    obtain ⟨g13', hga', hcl2⟩ := k_putLess (to := (k0 : Int) + 1) (k := k1) ho17 B17.size hq17 (fun p hp => by
        rcases List.mem_or_eq_of_mem_set hp with hp | rfl
        · exact (hq p hp).2.2.2
        · dsimp only; rw [hr']; exact (hq _ (List.getElem_mem hkq0)).2.2.2) (by simpa using hkq1) (keep17 _ _ _ _ q216 (by decide)) hid hI0 (by rw [hless1]; exact hs1'.1.2) (by rw [hless1]; exact hs1'.2.2)
    rw [hga] at hga'; cases hga'
    refine hcl2.mono ?_
    rintro _ w18 ⟨rfl, r2, hr2', ho18, hq18, B18', keep18⟩
    have B18 := B17.trans B18'
    have q118 := keep18 _ _ _ _ (keep17 _ _ _ _ q116 (by decide)) (by decide)
    have q318 := keep18 _ _ _ _ (keep17 _ _ _ _ q316 (by decide)) (by decide)
    refine ⟨rfl, _, _, _, _, _, _, blk_cell q118 0, blk_cell q118 1, put_back2 q318 (put2 (G' := ⟨addLess (addPlus Q.1.nodes ((k0 : Int) + 1) id ((k1 : Int) + 1)) ((k1 : Int) + 1) id ((k0 : Int) + 1), Q.1.slots⟩) q318 (by simp [goneG, hc, hi, hnode, hT, hT2, hTe, hQ, hQ2, hk1]) ⟨_, ?_, ho18, hq18⟩ ?_ B18)⟩
    · rw [List.map_set, List.map_set, hqs]
      have hadd : addPlus Q.1.nodes ((k0 : Int) + 1) id ((k1 : Int) + 1) = Q.1.nodes.set k0 ⟨qs[k0].2.used, qs[k0].2.ty, putS qs[k0].2.plus id ((k1 : Int) + 1), qs[k0].2.less⟩ := by
        rw [addPlus, hno0, ht0, hqG k0 hkq0]
      have hx : ((qs.set k0 (r', ⟨qs[k0].2.used, qs[k0].2.ty, putS qs[k0].2.plus id ((k1 : Int) + 1), qs[k0].2.less⟩))[k1]'(by simpa using hkq1)).2 = node (addPlus Q.1.nodes ((k0 : Int) + 1) id ((k1 : Int) + 1)) ((k1 : Int) + 1) := by
        rw [hadd, node_eq (by simpa using hk1l), hgt, List.getElem_set]
        split
        · rfl
        · exact hqG k1 hkq1
      rw [hx, ← hadd, addLess, ht1]
    · obtain ⟨es, e1, e2, e3⟩ := hE16
      have kk : ∀ {α : Type} {enc : α → List Value} {k : Nat} {e : TypeId} {a : Option Addr} {n c : Nat} {l : List α}, Own enc k e w.heap.size w16 a n c l → e ≠ 56 → Own enc k e w.heap.size w18 a n c l := fun ho hne => ho.keep fun g cs _ _ hg => keep18 _ _ _ _ (keep17 _ _ _ _ hg hne) hne
      exact ⟨es, e1, kk e2 (by decide), fun p hp => ⟨(e3 p hp).1, kk (e3 p hp).2 (by decide)⟩⟩
  | false =>
    obtain ⟨g13, hga, hcl⟩ := k_putLess (to := (k1 : Int) + 1) ho B16.size (fun p hp => ⟨(hq p hp).1, (hq p hp).2.1⟩) (fun p hp => (hq p hp).2.2.2) hkq0 q216 hid hI1 (by rw [hqG k0 hkq0]; exact hs0.1.2) (by rw [hqG k0 hkq0]; exact hs0.2.2)
    refine ⟨_, _, _, blk_cell q116 0, ⟨g13, 0, none⟩, hga, by omega, by omega, _, _, _, blk_cell q116 0, ⟨g13, 0, none⟩, hga, by omega, by omega, _, rfl, ?_⟩
    rw [htoN, htoN]
    refine hcl.mono ?_
    rintro _ w17 ⟨rfl, r', hr', ho17, hq17, B17', keep17⟩
    refine ⟨rfl, _, rfl, ?_⟩
    have B17 := B16.trans B17'
    have hgt : (qs.set k0 (r', ⟨qs[k0].2.used, qs[k0].2.ty, qs[k0].2.plus, putS qs[k0].2.less id ((k1 : Int) + 1)⟩))[k1]'(by simpa using hkq1) = if k0 = k1 then (r', ⟨qs[k0].2.used, qs[k0].2.ty, qs[k0].2.plus, putS qs[k0].2.less id ((k1 : Int) + 1)⟩) else qs[k1] := List.getElem_set ..
    have hplus1 : ((qs.set k0 (r', ⟨qs[k0].2.used, qs[k0].2.ty, qs[k0].2.plus, putS qs[k0].2.less id ((k1 : Int) + 1)⟩))[k1]'(by simpa using hkq1)).2.plus = Q.1.nodes[k1].plus := by
      rw [hgt]; split
      · rename_i he; subst he; dsimp only; rw [hqG k0 hkq0]
      · rw [hqG k1 hkq1]
    obtain ⟨g13', hga', hcl2⟩ := k_putPlus (to := (k0 : Int) + 1) (k := k1) ho17 B17.size hq17 (fun p hp => by
        rcases List.mem_or_eq_of_mem_set hp with hp | rfl
        · exact (hq p hp).2.2.1
        · dsimp only; rw [hr']; exact (hq _ (List.getElem_mem hkq0)).2.2.1) (by simpa using hkq1) (keep17 _ _ _ _ q216 (by decide)) hid hI0 (by rw [hplus1]; exact hs1'.1.1) (by rw [hplus1]; exact hs1'.2.1)
    rw [hga] at hga'; cases hga'
    refine hcl2.mono ?_
    rintro _ w18 ⟨rfl, r2, hr2', ho18, hq18, B18', keep18⟩
    have B18 := B17.trans B18'
    have q118 := keep18 _ _ _ _ (keep17 _ _ _ _ q116 (by decide)) (by decide)
    have q318 := keep18 _ _ _ _ (keep17 _ _ _ _ q316 (by decide)) (by decide)
    refine ⟨rfl, _, _, _, _, _, _, blk_cell q118 0, blk_cell q118 1, put_back2 q318 (put2 (G' := ⟨addPlus (addLess Q.1.nodes ((k0 : Int) + 1) id ((k1 : Int) + 1)) ((k1 : Int) + 1) id ((k0 : Int) + 1), Q.1.slots⟩) q318 (by simp [goneG, hc, hi, hnode, hT, hT2, hTe, hQ, hQ2, hk1]) ⟨_, ?_, ho18, hq18⟩ ?_ B18)⟩
    · rw [List.map_set, List.map_set, hqs]
      have hadd : addLess Q.1.nodes ((k0 : Int) + 1) id ((k1 : Int) + 1) = Q.1.nodes.set k0 ⟨qs[k0].2.used, qs[k0].2.ty, qs[k0].2.plus, putS qs[k0].2.less id ((k1 : Int) + 1)⟩ := by
        rw [addLess, hno0, ht0, hqG k0 hkq0]
      have hx : ((qs.set k0 (r', ⟨qs[k0].2.used, qs[k0].2.ty, qs[k0].2.plus, putS qs[k0].2.less id ((k1 : Int) + 1)⟩))[k1]'(by simpa using hkq1)).2 = node (addLess Q.1.nodes ((k0 : Int) + 1) id ((k1 : Int) + 1)) ((k1 : Int) + 1) := by
        rw [hadd, node_eq (by simpa using hk1l), hgt, List.getElem_set]
        split
        · rfl
        · exact hqG k1 hkq1
      rw [hx, ← hadd, addPlus, ht1]
    · obtain ⟨es, e1, e2, e3⟩ := hE16
      have kk : ∀ {α : Type} {enc : α → List Value} {k : Nat} {e : TypeId} {a : Option Addr} {n c : Nat} {l : List α}, Own enc k e w.heap.size w16 a n c l → e ≠ 56 → Own enc k e w.heap.size w18 a n c l := fun ho hne => ho.keep fun g cs _ _ hg => keep18 _ _ _ _ (keep17 _ _ _ _ hg hne) hne
      exact ⟨es, e1, kk e2 (by decide), fun p hp => ⟨(e3 p hp).1, kk (e3 p hp).2 (by decide)⟩⟩
end
end Go.Eng
namespace Go.Eng
open Go Go.RowKit Go.Proofs
set_option maxRecDepth 10000
theorem rng_with2e {t : List Int} {id : Int} (h : Rng t) (hid : 0 ≤ id ∧ id < 18446744073709551616) : Rng (with2e t id).1 := by
  intro x hx
  unfold with2e at hx
  split at hx
  · simp at hx
  · split at hx
    · simp at hx
    · split at hx
      · simp at hx
      · simp only [with2] at hx
        split at hx
        · exact h x hx
        · rcases List.mem_append.1 hx with hx | hx
          · exact h x (List.mem_of_mem_take hx)
          · rcases List.mem_cons.1 hx with rfl | hx
            · exact hid
            · exact h x (List.mem_of_mem_drop hx)
theorem rng_without2e {t : List Int} {id : Int} (h : Rng t) : Rng (without2e t id).1 := by
  intro x hx
  unfold without2e at hx
  split at hx
  · simp at hx
  · split at hx
    · simp at hx
    · simp only [without2] at hx
      rcases List.mem_append.1 hx with hx | hx
      · exact h x (List.mem_of_mem_take hx)
      · exact h x (List.mem_of_mem_drop hx)
section
variable {w : World} {a sa : Option Addr} {n c sn sc : Nat} {G : PG}
theorem k_gPlus (h : Grf w a n c sa sn sc G) (hs : SmallG G) {m id : Int} (hm : I64 m) (hid : 0 ≤ id ∧ id < 18446744073709551616) :
    Cl Tryz.prog 14 #[.agg #[.slice a n c, .slice sa sn sc], .int .i64 m, .int .u64 id] w (GrfD3 w (goneG with2e G m id true)) := by
  refine c14 _ _ _ _ _ _ _ _ ?_
  rintro _ w1 rfl h1 _ w2 rfl h2
  have q1 : w2.heap[w.heap.size]? = some (.cells #[.slice a n c, .slice sa sn sc] 27) := by rw [h2, h1]; exact blk_alloc (blk_new _)
  have q2 : w2.heap[w1.heap.size]? = some (.cells #[.slice none 0 0, .slice none 0 0] 27) := by rw [h2]; exact blk_new _
  have z1 : w1.heap.size = w.heap.size + 1 := by rw [h1, size_alloc]
  have B2 : Below w.heap.size w w2 := by rw [h2, h1]; exact (alloc_below w _).alloc (by rw [size_alloc]; omega) _
  clear h1 h2
  have hw1 : w.heap.size ≤ w1.heap.size := by omega
  refine ⟨_, _, _, _, _, _, blk_cell q1 0, blk_cell q1 1, (k_ggone (f := 25) (cf := []) (turn := with2e) (h.below B2) hs hm hid true (fun W xa xn xc t ht => k_tWith ht id) (fun t ht => rng_with2e ht hid)).mono ?_⟩
  rintro _ w3 ⟨a5, n5, c5, sa5, sn5, sc5, rfl, h1, h2, B3'⟩
  have B3 := B2.trans (B3'.mono B2.size)
  have q23 := blk_below q2 B3' (blk_lt q2)
  refine ⟨_, _, _, _, _, _, _, _, rfl, put_back2 q23 fun W' hW' hq' => ?_⟩
  have qm := blk_set q23 0 (.slice a5 n5 c5)
  rw [hW']
  exact grfD3 rfl (((h1.mono B2.size).farB q23 (by decide) (by decide) (by decide) _).farB qm (by decide) (by decide) (by decide) _) (((h2.mono B2.size).farB q23 (by decide) (by decide) _).farB qm (by decide) (by decide) _) ((B3.setCell hw1 _).setCell hw1 _)
theorem k_gLess (h : Grf w a n c sa sn sc G) (hs : SmallG G) {m id : Int} (hm : I64 m) (hid : 0 ≤ id ∧ id < 18446744073709551616) :
    Cl Tryz.prog 15 #[.agg #[.slice a n c, .slice sa sn sc], .int .i64 m, .int .u64 id] w (GrfD3 w (goneG without2e G m id false)) := by
  refine c15 _ _ _ _ _ _ _ _ ?_
  rintro _ w1 rfl h1 _ w2 rfl h2
  have q1 : w2.heap[w.heap.size]? = some (.cells #[.slice a n c, .slice sa sn sc] 27) := by rw [h2, h1]; exact blk_alloc (blk_new _)
  have q2 : w2.heap[w1.heap.size]? = some (.cells #[.slice none 0 0, .slice none 0 0] 27) := by rw [h2]; exact blk_new _
  have z1 : w1.heap.size = w.heap.size + 1 := by rw [h1, size_alloc]
  have B2 : Below w.heap.size w w2 := by rw [h2, h1]; exact (alloc_below w _).alloc (by rw [size_alloc]; omega) _
  clear h1 h2
  have hw1 : w.heap.size ≤ w1.heap.size := by omega
  refine ⟨_, _, _, _, _, _, blk_cell q1 0, blk_cell q1 1, (k_ggone (f := 54) (cf := []) (turn := without2e) (h.below B2) hs hm hid false (fun W xa xn xc t ht => k_tWithout ht id) (fun t ht => rng_without2e ht)).mono ?_⟩
  rintro _ w3 ⟨a5, n5, c5, sa5, sn5, sc5, rfl, h1, h2, B3'⟩
  have B3 := B2.trans (B3'.mono B2.size)
  have q23 := blk_below q2 B3' (blk_lt q2)
  refine ⟨_, _, _, _, _, _, _, _, rfl, put_back2 q23 fun W' hW' hq' => ?_⟩
  have qm := blk_set q23 0 (.slice a5 n5 c5)
  rw [hW']
  exact grfD3 rfl (((h1.mono B2.size).farB q23 (by decide) (by decide) (by decide) _).farB qm (by decide) (by decide) (by decide) _) (((h2.mono B2.size).farB q23 (by decide) (by decide) _).farB qm (by decide) (by decide) _) ((B3.setCell hw1 _).setCell hw1 _)
/-- A new graph. -/
def newG : PG := ⟨[node1], (putL newL [] 1).1⟩
theorem k_gNew : Cl Tryz.prog 34 #[] w (fun v w' => ∃ a n c sa sn sc, v = .agg #[.slice a n c, .slice sa sn sc] ∧ DNodes w.heap.size w' a n c newG.nodes ∧ DEnts w.heap.size w' sa sn sc newG.slots ∧ Below w.heap.size w w') := by
  refine c34 ?_
  rintro _ w1 rfl h1
  have q1 : w1.heap[w.heap.size]? = some (.cells #[.slice none 0 0, .slice none 0 0] 27) := by rw [h1]; exact blk_new _
  have B1 : Below w.heap.size w w1 := by rw [h1]; exact alloc_below _ _
  clear h1
  refine k_lNew.mono ?_
  rintro _ w2 ⟨a2, n2, c2, rfl, hd2, B2'⟩
  have B2 := B1.trans (B2'.mono B1.size)
  have q2 := blk_below q1 B2' (blk_lt q1)
  have hn2 := hd2.len
  refine ⟨_, _, _, rfl, (k_lPut hd2.ents (by rw [hn2]; simp [newL]) Row.nil' (fun x hx => by simp at hx) (by simp [I64])).mono ?_⟩
  rintro _ w3 ⟨a3, n3, c3, rfl, hd3, B3'⟩
  have B3 := B2.trans (B3'.mono B2.size)
  have q3 := blk_below q2 B3' (blk_lt q2)
  refine ⟨_, _, _, _, rfl, ?_⟩
  rintro _ w4 rfl h4
  have r4 : w4.heap[w3.heap.size]? = some (.cells #[.slice none 0 0] 25) := by rw [h4]; exact blk_new _
  have B4' : Below w3.heap.size w3 w4 := by rw [h4]; exact alloc_below _ _
  clear h4
  refine ⟨blk_some r4 (by decide), blk_free r4 _, ?_⟩
  rintro w5 h5
  have r5 : w5.heap[w3.heap.size]? = some (.cells #[.slice a3 n3 c3] 25) := by rw [h5]; exact blk_set r4 0 _
  have B5' : Below w3.heap.size w3 w5 := by rw [h5]; exact B4'.setCell (Nat.le_refl _) _
  clear h5 r4 B4'
  rintro _ w6 rfl h6
  have s6 : Own encNode 4 56 w3.heap.size w6 (some ⟨w5.heap.size, 0, none⟩) 1 1 [(⟨true, ⟨none, 0, 0⟩, ⟨none, 0, 0⟩, ⟨none, 0, 0⟩⟩ : RNode)] := by
    rw [h6]; exact (Own.new enNode.len w5 [(⟨true, ⟨none, 0, 0⟩, ⟨none, 0, 0⟩, ⟨none, 0, 0⟩⟩ : RNode)] B5'.size (by simp only [maxLen]; decide))
  have B6' : Below w3.heap.size w3 w6 := by rw [h6]; exact B5'.alloc B5'.size _
  have B56 : Below w5.heap.size w5 w6 := by rw [h6]; exact alloc_below _ _
  clear h6
  have B6 := B3.trans (B6'.mono B3.size)
  have q6 := blk_below q3 B6' (blk_lt q3)
  have r6 := blk_below r5 B56 (blk_lt r5)
  have hd6 := (hd3.below B6').mono (lo' := w.heap.size) B2.size
  have hn6 : DNodes w.heap.size w6 (some ⟨w5.heap.size, 0, none⟩) 1 1 newG.nodes := by
    refine ⟨[(⟨true, ⟨none, 0, 0⟩, ⟨none, 0, 0⟩, ⟨none, 0, 0⟩⟩, node1)], rfl, s6.mono B3.size, fun p hp => ?_⟩
    simp only [List.mem_singleton] at hp
    subst hp
    exact ⟨⟨rfl, fun x hx => by simp [node1] at hx, fun s hs => by simp [node1] at hs⟩, Own.nil, Own.nil, Own.nil⟩
  refine ⟨_, _, _, blk_cell r6 0, put_back2 q6 fun W' hW' hq' => ?_⟩
  have qm := blk_set q6 0 (.slice (some ⟨w5.heap.size, 0, none⟩) 1 1)
  refine ⟨_, _, _, _, _, _, rfl, ?_, ?_, ?_⟩
  · rw [hW']; exact (hn6.farB q6 (by decide) (by decide) (by decide) _).farB qm (by decide) (by decide) (by decide) _
  · rw [hW']; exact (hd6.farB q6 (by decide) (by decide) _).farB qm (by decide) (by decide) _
  · rw [hW']; exact (B6.setCell (Nat.le_refl _) _).setCell (Nat.le_refl _) _
end
end Go.Eng
namespace Go.Eng
open Go Go.RowKit Go.Proofs
set_option maxRecDepth 10000
def awayN (m : Int) (x : Node) : Node := ⟨x.used, x.ty, awayS x.plus m, awayS x.less m⟩
/-- Nodes but those behind the last that's used. -/
def trimN (l : List Node) : List Node := (l.reverse.dropWhile fun x => !x.used).reverse
/-- A graph, a node being dropped; the error. -/
def dropG (G : PG) (n : Int) : PG × Int :=
  if checkG G = false then (⟨[], []⟩, 220)
  else if isN G.nodes n = false then (⟨[], []⟩, 2)
  else if n = 1 then (⟨[], []⟩, 2)
  else if (dropL G.slots (node G.nodes n).ty).2 ≠ 0 then (⟨[], []⟩, (dropL G.slots (node G.nodes n).ty).2)
  else (⟨trimN ((G.nodes.set (n - 1).toNat blankN).map (awayN n)), (dropL G.slots (node G.nodes n).ty).1⟩, 0)
theorem trimN_eq {l : List Node} {k : Nat} (h1 : 0 < k) (h2 : k ≤ l.length) (hu : (l[k - 1]'(by omega)).used = true) (hno : ∀ j (hj : j < l.length), k ≤ j → l[j].used = false) : trimN l = l.take k := by
  have e : l = l.take k ++ l.drop k := (List.take_append_drop k l).symm
  have h3 : ∀ x ∈ (l.drop k).reverse, (!x.used) = true := by
    intro x hx
    rw [List.mem_reverse] at hx
    obtain ⟨j, hj, rfl⟩ := List.mem_iff_getElem.1 hx
    simp only [List.length_drop] at hj
    simp [hno (k + j) (by omega) (by omega)]
  have h4 : (l.take k).reverse = l[k - 1]'(by omega) :: (l.take (k - 1)).reverse := by
    have := take_one (l := l) (k := k - 1) (by omega)
    rw [show k - 1 + 1 = k by omega] at this
    rw [this]; simp
  unfold trimN
  conv => lhs; rw [e]
  rw [List.reverse_append, List.dropWhile_append_of_pos h3, h4, List.dropWhile_cons, if_neg (by rw [hu]; simp), ← h4, List.reverse_reverse]
theorem Own.keepG {α : Type} {enc : α → List Value} {k : Nat} {e : TypeId} {lo : Nat} {w w' : World} {a : Option Addr} {n c : Nat} {l : List α} (h : Own enc k e lo w a n c l) {r : Option Nat} (hg : w.grownBy w' r) (hne : ∀ p, a = some p → r ≠ some p.block) : Own enc k e lo w' a n c l :=
  h.keep fun g cs ha _ hgb => (hg.block g (blk_lt hgb) (fun he => hne _ ha he.symm)).trans hgb
theorem sblks_of {l l' : List RNode} (h : l.map sblk = l'.map sblk) : sblks l = sblks l' := by
  rw [sblks, sblks, List.flatMap_def, List.flatMap_def, h]
theorem sblks_nodup {l : List RNode} : (sblks l).Nodup ↔ (∀ r ∈ l, (sblk r).Nodup) ∧ l.Pairwise fun r s => ∀ x ∈ sblk r, ∀ y ∈ sblk s, x ≠ y := by
  unfold sblks
  rw [List.nodup_iff_pairwise_ne, List.pairwise_flatMap]
  simp only [List.nodup_iff_pairwise_ne]
theorem sblks_disj {l : List RNode} (h : (sblks l).Nodup) {i j : Nat} (hi : i < l.length) (hj : j < l.length) (hij : i ≠ j) : ∀ x ∈ sblk l[i], ∀ y ∈ sblk l[j], x ≠ y := by
  have := List.pairwise_iff_getElem.1 (sblks_nodup.1 h).2
  intro x hx y hy
  rcases Nat.lt_or_gt_of_ne hij with h1 | h1
  · exact this i j hi hj h1 x hx y hy
  · exact (this j i hj hi h1 y hy x hx).symm
theorem sblk_plus {r : RNode} {p : Addr} (h : r.plus.a = some p) : p.block ∈ sblk r := by simp [sblk, h]
theorem sblk_less {r : RNode} {p : Addr} (h : r.less.a = some p) : p.block ∈ sblk r := by simp [sblk, h]
theorem sblk_pl {r : RNode} (h : (sblk r).Nodup) {p q : Addr} (hp : r.plus.a = some p) (hq : r.less.a = some q) : p.block ≠ q.block := by
  simp only [sblk, hp, hq, Option.map_some, Option.toList_some, List.singleton_append, List.nodup_cons, List.mem_singleton] at h
  exact h.1
/-- A graph in memory of its own, and an error. -/
def GrfD2 (w : World) (p : PG × Int) (v : Value) (w' : World) : Prop :=
  ∃ a n c sa sn sc, v = .tuple #[.agg #[.slice a n c, .slice sa sn sc], .int .i64 p.2] ∧ DNodes w.heap.size w' a n c p.1.nodes ∧ DEnts w.heap.size w' sa sn sc p.1.slots ∧ Below w.heap.size w w'
theorem grfD2 {w w' : World} {p : PG × Int} {G : PG} {e : Int} {a sa : Option Addr} {n c sn sc : Nat} (hp : p = (G, e)) (h1 : DNodes w.heap.size w' a n c G.nodes) (h2 : DEnts w.heap.size w' sa sn sc G.slots) (hB : Below w.heap.size w w') :
    GrfD2 w p (.tuple #[.agg #[.slice a n c, .slice sa sn sc], .int .i64 e]) w' := by
  subst hp; exact ⟨_, _, _, _, _, _, rfl, h1, h2, hB⟩
theorem dropL_small {l : List Entry} {t : List Int} (h : (dropL l t).2 = 0) : (dropL l t).1.length = l.length ∧ ∀ e ∈ (dropL l t).1, e.ty.length ≤ 12 := by
  unfold dropL at h ⊢
  cases h1 : checkL l
  · simp [h1] at h
  by_cases h2 : place l t < 0
  · simp [h1, h2] at h
  simp only [h2, Bool.true_eq_false, if_false]
  refine ⟨by simp, fun e he => ?_⟩
  rcases List.mem_or_eq_of_mem_set he with he | rfl
  · exact checkL_all12 h1 e he
  · simp
section
variable {w : World} {a sa : Option Addr} {n c sn sc : Nat} {G : PG}
set_option maxHeartbeats 2000000
theorem k_gDrop (h : Grf w a n c sa sn sc G) (hs : SmallG G) {m : Int} (hm : I64 m) :
    Cl Tryz.prog 17 #[.agg #[.slice a n c, .slice sa sn sc], .int .i64 m] w (GrfD2 w (dropG G m)) := by
  refine c17 _ _ _ _ _ _ _ ?_
  have hs1 := hs.n.1; have hs2 := hs.s
  have hnl := h.nodes.len; have hsl := h.slots.len
  rintro _ w1 rfl h1 _ w2 rfl h2 _ w3 rfl h3
  have q1 : w3.heap[w.heap.size]? = some (.cells #[.slice a n c, .slice sa sn sc] 27) := by rw [h3, h2, h1]; exact blk_alloc (blk_alloc (blk_new _))
  have q2 : w3.heap[w1.heap.size]? = some (.cells #[.int .i64 m] 3) := by rw [h3, h2]; exact blk_alloc (blk_new _)
  have q3 : w3.heap[w2.heap.size]? = some (.cells #[.slice none 0 0, .slice none 0 0] 27) := by rw [h3]; exact blk_new _
  have z1 : w1.heap.size = w.heap.size + 1 := by rw [h1, size_alloc]
  have z2 : w2.heap.size = w1.heap.size + 1 := by rw [h2, size_alloc]
  have B3 : Below w.heap.size w w3 := by rw [h3, h2, h1]; exact ((alloc_below w _).alloc (by rw [size_alloc]; omega) _).alloc (by rw [size_alloc, size_alloc]; omega) _
  clear h1 h2 h3
  have hw2 : w.heap.size ≤ w2.heap.size := by omega
  have put2 : ∀ {W : World} {G' : PG} {e : Int} {a' : Option Addr} {n' c' : Nat} {sa' : Option Addr} {sn' sc' : Nat} {v0 v1 : Value}, W.heap[w2.heap.size]? = some (.cells #[v0, v1] 27) → dropG G m = (G', e) → DNodes w.heap.size W a' n' c' G'.nodes → DEnts w.heap.size W sa' sn' sc' G'.slots → Below w.heap.size w W →
      ∀ W', W' = (W.setCell ⟨w2.heap.size, 0, none⟩ (.slice a' n' c')).setCell ⟨w2.heap.size, 1, none⟩ (.slice sa' sn' sc') → W'.heap[w2.heap.size]? = some (.cells #[.slice a' n' c', .slice sa' sn' sc'] 27) →
      GrfD2 w (dropG G m) (.tuple #[.agg #[.slice a' n' c', .slice sa' sn' sc'], .int .i64 e]) W' := by
    intro W G' e a' n' c' sa' sn' sc' v0 v1 hq hp hn' he hB W' hW' hq'
    have qm := blk_set hq 0 (.slice a' n' c')
    rw [hW']
    exact grfD2 hp ((hn'.farB hq (by decide) (by decide) (by decide) _).farB qm (by decide) (by decide) (by decide) _) ((he.farB hq (by decide) (by decide) _).farB qm (by decide) (by decide) _) ((hB.setCell hw2 _).setCell hw2 _)
  refine ⟨_, _, _, _, _, _, blk_cell q1 0, blk_cell q1 1, (k_gCheck (h.below B3) hs).gives fun w4 B4' => ⟨_, rfl, ?_⟩⟩
  have B4 := B3.trans (B4'.mono B3.size)
  have q14 := blk_below q1 B4' (blk_lt q1)
  have q24 := blk_below q2 B4' (blk_lt q2)
  have q34 := blk_below q3 B4' (blk_lt q3)
  cases hc : checkG G with
  | false => exact put_back2 q34 (put2 (G' := ⟨[], []⟩) q34 (by simp [dropG, hc]) DNodes.nil DEnts.nil B4)
  | true =>
  have hC := (checkG_iff G).1 hc
  refine ⟨_, _, _, _, _, _, blk_cell q14 0, blk_cell q14 1, _, blk_cell q24 0, (k_gis (h.nodes.below B4) m hm).gives fun w6 B6' => ⟨_, rfl, ?_⟩⟩
  have B6 := B4.trans (B6'.mono B4.size)
  have q16 := blk_below q14 B6' (blk_lt q14)
  have q26 := blk_below q24 B6' (blk_lt q24)
  have q36 := blk_below q34 B6' (blk_lt q34)
  refine cnd (fun g => ?_) fun g => ?_
  · have : isN G.nodes m = false := by simpa using g
    exact put_back2 q36 (put2 (G' := ⟨[], []⟩) q36 (by simp [dropG, hc, this]) DNodes.nil DEnts.nil B6)
  have hi : isN G.nodes m = true := by simpa using g
  clear g
  refine ⟨_, blk_cell q26 0, cnd (fun g => ?_) fun g => ?_⟩
  · have : m = 1 := by simpa using g
    exact put_back2 q36 (put2 (G' := ⟨[], []⟩) q36 (by simp [dropG, hc, hi, this]) DNodes.nil DEnts.nil B6)
  have hm1 : m ≠ 1 := by simpa using g
  clear g
  obtain ⟨k0, rfl, hk0⟩ := isN_iff hi
  have hnode : node G.nodes ((k0 : Int) + 1) = G.nodes[k0] := node_eq hk0
  have hk00 : 0 < k0 := by omega
  have hp2 : IntKind.i64.wrap ((k0 : Int) + 1 - 1) = (k0 : Int) := pre2 (by omega)
  obtain ⟨ps, hrow, hps, hpG⟩ := h.nodes.pairs
  have hpl : ps.length = n := by rw [hnl, ← hpG]; simp
  have hpk : ps[k0].2 = G.nodes[k0] := by
    have : (ps.map (·.2))[k0]'(by simp; omega) = G.nodes[k0] := by simp only [hpG]
    simpa using this
  have hX := hps _ (List.getElem_mem (show k0 < ps.length by omega))
  rw [hpk] at hX
  have e0 : (ps.map (·.1))[k0]'(by simp; omega) = ps[k0].1 := by simp
  have htoN : ((k0 : Nat) : Int).toNat = k0 := Int.toNat_natCast k0
  rintro _ rfl
  have q19 := blk_drew q16
  have q29 := blk_drew q26
  have q39 := blk_drew q36
  have B9 := B6.drew
  clear q16 q26 q36 B6
  generalize w6.drew = w9 at q19 q29 q39 B9 ⊢
  clear B6' q14 q24 q34 B4 B4' q1 q2 q3 B3
  have hDL : ∀ W, Below w.heap.size w W → Cl Tryz.prog 61 #[.agg #[.slice sa sn sc], .slice ps[k0].1.ty.a ps[k0].1.ty.n ps[k0].1.ty.c] W (LkE W (dropL G.slots G.nodes[k0].ty)) := fun W hW => k_lDrop (h.slots.below hW) (by omega) (hX.ty.below hW) hX.rng.1
  -- either order comes to this
  refine ⟨?_, ?_⟩
  refine ⟨_, _, _, blk_cell q19 1, _, _, _, blk_cell q19 0, _, blk_cell q29 0, ?_⟩
  rw [hp2]
  obtain ⟨p9, hp9, hb1, hb2, ta, tn, tc, htc, rfl, rfl, rfl⟩ := (hrow.below B9).nodeTy (i := k0) (K := fun x y z => x = ps[k0].1.ty.a ∧ y = ps[k0].1.ty.n ∧ z = ps[k0].1.ty.c) (by omega) (fun hl => by rw [e0]; exact ⟨rfl, rfl, rfl⟩)
  refine ⟨p9, hp9, hb1, hb2, _, _, _, htc, (hDL _ B9).mono ?_⟩
  rintro _ w10 ⟨a13, n13, c13, rfl, hd10, B10'⟩
  refine ⟨_, _, _, _, rfl, ?_⟩
  rintro _ w11 rfl h11
  have r11 : w11.heap[w10.heap.size]? = some (.cells #[.slice none 0 0] 25) := by rw [h11]; exact blk_new _
  have B11' : Below w9.heap.size w9 w11 := B10'.trans (by rw [h11]; exact (alloc_below w10 _).mono B10'.size)
  have hd11 : DEnts w.heap.size w11 a13 n13 c13 (dropL G.slots G.nodes[k0].ty).1 := by rw [h11]; exact (hd10.below (alloc_below _ _)).mono B9.size
  have hb4 : w9.heap.size ≤ w10.heap.size := B10'.size
  refine ⟨cell_below htc B11', blk_cell (blk_below q29 B11' (blk_lt q29)) 0, blk_cell (blk_below q19 B11' (blk_lt q19)) 0, blk_cell (blk_below q19 B11' (blk_lt q19)) 1, ?_⟩
  clear h11 hd10 htc B10'
  generalize w10.heap.size = z4 at r11 hb4 ⊢
  clear w10
  rotate_left
  refine ⟨_, _, _, blk_cell q19 1, _, _, _, blk_cell q19 0, _, blk_cell q29 0, ?_⟩
  rw [hp2]
  obtain ⟨p9, hp9, hb1, hb2, ta, tn, tc, htc, rfl, rfl, rfl⟩ := (hrow.below B9).nodeTy (i := k0) (K := fun x y z => x = ps[k0].1.ty.a ∧ y = ps[k0].1.ty.n ∧ z = ps[k0].1.ty.c) (by omega) (fun hl => by rw [e0]; exact ⟨rfl, rfl, rfl⟩)
  refine ⟨p9, hp9, hb1, hb2, _, _, _, htc, ?_⟩
  rintro _ w28 rfl h28
  have r28 : w28.heap[w9.heap.size]? = some (.cells #[.slice none 0 0] 25) := by rw [h28]; exact blk_new _
  have B28' : Below w9.heap.size w9 w28 := by rw [h28]; exact alloc_below _ _
  clear h28
  have B28 := B9.trans (B28'.mono B9.size)
  refine ⟨cell_below htc B28', blk_cell (blk_below q29 B28' (blk_lt q29)) 0, blk_cell (blk_below q19 B28' (blk_lt q19)) 0, blk_cell (blk_below q19 B28' (blk_lt q19)) 1, (hDL _ B28).mono ?_⟩
  rintro _ w11 ⟨a13, n13, c13, rfl, hd11', B29'⟩
  refine ⟨_, _, _, _, rfl, ?_⟩
  have r11 := blk_below r28 B29' (blk_lt r28)
  have B11' : Below w9.heap.size w9 w11 := B28'.trans (B29'.mono B28'.size)
  have hd11 : DEnts w.heap.size w11 a13 n13 c13 (dropL G.slots G.nodes[k0].ty).1 := hd11'.mono B28.size
  have hb4 : w9.heap.size ≤ w9.heap.size := Nat.le_refl _
  clear hd11' B29' r28 B28' B28 htc
  generalize hz4 : w9.heap.size = z4 at r11 ⊢
  rw [hz4] at hb4
  have hb4 : w9.heap.size ≤ z4 := by omega
  clear hz4
  all_goals (
    clear hp9 hb1 hb2 p9
    have B11 := B9.trans (B11'.mono B9.size)
    have q111 := blk_below q19 B11' (blk_lt q19)
    have q211 := blk_below q29 B11' (blk_lt q29)
    have q311 := blk_below q39 B11' (blk_lt q39)
    have hq3lt := blk_lt q39
    have hw9 := B9.size
    refine ⟨blk_some r11 (by decide), blk_free r11 _, ?_⟩
    rintro w12 h12
    have r12 : w12.heap[z4]? = some (.cells #[.slice a13 n13 c13] 25) := by rw [h12]; exact blk_set r11 0 _
    have q112 : w12.heap[w.heap.size]? = some (.cells #[.slice a n c, .slice sa sn sc] 27) := by rw [h12]; exact blk_far q111 (by show w.heap.size ≠ z4; have := blk_lt q19; omega) _
    have q212 : w12.heap[w1.heap.size]? = some (.cells #[.int .i64 ((k0 : Int) + 1)] 3) := by rw [h12]; exact blk_far q211 (by show w1.heap.size ≠ z4; have := blk_lt q29; omega) _
    have q312 : w12.heap[w2.heap.size]? = some (.cells #[.slice none 0 0, .slice none 0 0] 27) := by rw [h12]; exact blk_far q311 (by show w2.heap.size ≠ z4; omega) _
    have B12 : Below w.heap.size w w12 := by rw [h12]; exact B11.setCell (by show w.heap.size ≤ z4; omega) _
    have hd12 : DEnts w.heap.size w12 a13 n13 c13 (dropL G.slots G.nodes[k0].ty).1 := by rw [h12]; exact hd11.farB r11 (by decide) (by decide) _
    clear h12 r11 q111 q211 q311 B11 B11' hd11
    refine cnd (fun g => ?_) fun g => ?_
    · have hne : (dropL G.slots G.nodes[k0].ty).2 ≠ 0 := by intro h0; rw [h0] at g; simp at g
      exact put_back2 q312 (put2 (G' := ⟨[], []⟩) q312 (by simp [dropG, hc, hi, hm1, hnode, hne]) DNodes.nil DEnts.nil B12)
    have hpe : (dropL G.slots G.nodes[k0].ty).2 = 0 := by simpa using g
    clear g
    obtain ⟨hps1, hps2⟩ := dropL_small hpe
    refine ⟨_, _, _, blk_cell r12 0, blk_some q112 (j := 1) (by simp), blk_free q112 1, ?_⟩
    rintro w14 h14
    have q114 : w14.heap[w.heap.size]? = some (.cells #[.slice a n c, .slice a13 n13 c13] 27) := by rw [h14]; exact blk_set q112 1 _
    have q214 : w14.heap[w1.heap.size]? = some (.cells #[.int .i64 ((k0 : Int) + 1)] 3) := by rw [h14]; exact blk_far q212 (by show w1.heap.size ≠ w.heap.size; omega) _
    have q314 : w14.heap[w2.heap.size]? = some (.cells #[.slice none 0 0, .slice none 0 0] 27) := by rw [h14]; exact blk_far q312 (by show w2.heap.size ≠ w.heap.size; omega) _
    have B14 : Below w.heap.size w w14 := by rw [h14]; exact B12.setCell (Nat.le_refl _) _
    have hd14 : DEnts w.heap.size w14 a13 n13 c13 (dropL G.slots G.nodes[k0].ty).1 := by rw [h14]; exact hd12.farB q112 (by decide) (by decide) _
    clear h14 q112 q212 q312 B12 hd12 r12
    refine ⟨_, _, _, _, _, _, blk_cell q114 0, blk_cell q114 1, (k_gown (G := ⟨G.nodes, (dropL G.slots G.nodes[k0].ty).1⟩) ⟨h.nodes.below B14, hd14.ents⟩ ⟨hs.n, by show (dropL G.slots G.nodes[k0].ty).1.length ≤ _; omega, fun e he => by have := hps2 e he; omega⟩).mono ?_⟩
    rintro _ w15 ⟨g15, g15', rfl, hN, hEn, B15'⟩
    have B15 := B14.trans (B15'.mono B14.size)
    have q115 := blk_below q114 B15' (blk_lt q114)
    have q215 := blk_below q214 B15' (blk_lt q214)
    have q315 := blk_below q314 B15' (blk_lt q314)
    refine ⟨_, _, _, _, _, _, rfl, blk_some q115 (by simp), blk_free q115 _, blk_some q115 (j := 1) (by simp), blk_free q115 1, ?_⟩
    rintro w16 h16
    have qm := blk_set q115 0 (.slice (some ⟨g15, 0, none⟩) n n)
    have q116 : w16.heap[w.heap.size]? = some (.cells #[.slice (some ⟨g15, 0, none⟩) n n, .slice (some ⟨g15', 0, none⟩) n13 n13] 27) := by rw [h16]; exact blk_set qm 1 _
    have q216 : w16.heap[w1.heap.size]? = some (.cells #[.int .i64 ((k0 : Int) + 1)] 3) := by
      rw [h16]; exact blk_far (blk_far q215 (by show w1.heap.size ≠ w.heap.size; omega) _) (by show w1.heap.size ≠ w.heap.size; omega) _
    have q316 : w16.heap[w2.heap.size]? = some (.cells #[.slice none 0 0, .slice none 0 0] 27) := by
      rw [h16]; exact blk_far (blk_far q315 (by show w2.heap.size ≠ w.heap.size; omega) _) (by show w2.heap.size ≠ w.heap.size; omega) _
    have B16 : Below w.heap.size w w16 := by rw [h16]; exact (B15.setCell (Nat.le_refl _) _).setCell (Nat.le_refl _) _
    have hN16 : DNodesT w.heap.size w16 (some ⟨g15, 0, none⟩) n n G.nodes := by
      rw [h16]; exact ((hN.mono B14.size).farB q115 (by decide) (by decide) (by decide) _).farB qm (by decide) (by decide) (by decide) _
    have hE16 : DEnts w.heap.size w16 (some ⟨g15', 0, none⟩) n13 n13 (dropL G.slots G.nodes[k0].ty).1 := by
      rw [h16]; exact ((hEn.mono B14.size).farB q115 (by decide) (by decide) _).farB qm (by decide) (by decide) _
    clear h16 qm q115 q215 q315 hN hEn B15 B15' q114 q214 q314 B14 hd14
    obtain ⟨L0, hL0, oL0, hLd0, hnd0⟩ := hN16
    have hL0l : L0.length = n := by have := oL0.len; simpa using this.symm
    refine ⟨_, _, _, blk_cell q116 0, _, blk_cell q216 0, ?_⟩
    rw [hp2]
    obtain ⟨gb, ha, hgl, hcells, hput, hgrw⟩ := oL0.put enNode (i := k0) (by omega) blankRN
    cases ha
    have c0' := hcells 0 (by decide)
    rw [Addr.add_zero'] at c0'
    refine ⟨_, rfl, by omega, by omega, ?_⟩
    rw [htoN]
    refine ⟨c0'.1, c0'.2, (hcells 1 (by decide)).1, (hcells 1 (by decide)).2, (hcells 2 (by decide)).1, (hcells 2 (by decide)).2, (hcells 3 (by decide)).1, (hcells 3 (by decide)).2, ?_⟩
    rintro w17 h17
    have h17' : w17 = wrs w16 (Addr.add ⟨g15, 0, none⟩ (k0 * 4)) 0 (encNode blankRN) := h17
    rw [← h17'] at hput hgrw
    have hgrw' : w16.grownBy w17 ((some (⟨g15, 0, none⟩ : Addr)).map (·.block)) := hgrw
    have q117 := oL0.keepBlk hgrw' q116 (.inl (by decide))
    have q217 := oL0.keepBlk hgrw' q216 (.inl (by decide))
    have q317 := oL0.keepBlk hgrw' q316 (.inl (by decide))
    have B17 := B16.trans (oL0.belowOf hgrw' B16.size)
    have hE17 : DEnts w.heap.size w17 (some ⟨g15', 0, none⟩) n13 n13 (dropL G.slots G.nodes[k0].ty).1 := by
      obtain ⟨es, e1, e2, e3⟩ := hE16
      exact ⟨es, e1, oL0.keepOwn hgrw' e2 (by decide), fun p hp => ⟨(e3 p hp).1, oL0.keepOwn hgrw' (e3 p hp).2 (by decide)⟩⟩
    have oL : Own encNode 4 56 w.heap.size w17 (some ⟨g15, 0, none⟩) n n ((L0.set k0 ((blankRN, blankN) : NP)).map (·.1)) := by rw [List.map_set]; exact hput
    have hLd : ∀ p ∈ L0.set k0 ((blankRN, blankN) : NP), NodeSays p.1 p.2 ∧ OwnN w.heap.size w17 p.1 p.2 := by
      intro p hp
      rcases List.mem_or_eq_of_mem_set hp with hp | rfl
      · exact ⟨(hLd0 p hp).1, (hLd0 p hp).2.1.keepBy oL0 hgrw' (by decide) (by decide)⟩
      · exact ⟨says_blankN, own_blankN⟩
    have hnd : (sblks ((L0.set k0 ((blankRN, blankN) : NP)).map (·.1))).Nodup := by rw [List.map_set]; exact (sblks_set _ _ _ rfl).nodup hnd0
    have hLs : (L0.set k0 ((blankRN, blankN) : NP)).map (·.2) = G.nodes.set k0 blankN := by rw [List.map_set, hL0]
    have hLl : (L0.set k0 ((blankRN, blankN) : NP)).length = n := by rw [List.length_set]; exact hL0l
    clear h17 h17' hput hgrw hgrw' q116 q216 q316 B16 hE16 hnd0 hLd0 hcells c0'
    generalize L0.set k0 ((blankRN, blankN) : NP) = L at oL hLd hnd hLs hLl
    clear oL0 hL0 hL0l L0
    generalize hL9 : G.nodes.set k0 blankN = L9 at hLs
    have hL9l : L9.length = n := by rw [← hL9, List.length_set]; omega
    have hL9s : ∀ x ∈ L9, x.plus.length ≤ 1000000 ∧ x.less.length ≤ 1000000 := by
      intro x hx
      rw [← hL9] at hx
      rcases List.mem_or_eq_of_mem_set hx with hx | rfl
      · exact (hs.n.2 x hx).2
      · simp [blankN]
    refine ⟨_, _, _, blk_cell q117 0, ?_⟩
    refine ⟨fun i W => (Below w.heap.size w W ∧ W.heap[w.heap.size]? = some (.cells #[.slice (some ⟨g15, 0, none⟩) n n, .slice (some ⟨g15', 0, none⟩) n13 n13] 27) ∧ W.heap[w1.heap.size]? = some (.cells #[.int .i64 ((k0 : Int) + 1)] 3) ∧ W.heap[w2.heap.size]? = some (.cells #[.slice none 0 0, .slice none 0 0] 27)) ∧
        DEnts w.heap.size W (some ⟨g15', 0, none⟩) n13 n13 (dropL G.slots G.nodes[k0].ty).1 ∧
        ∃ (k : Nat) (qs : List NP), i = k ∧ k ≤ n ∧ qs.map (·.2) = (L9.take k).map (awayN ((k0 : Int) + 1)) ++ L9.drop k ∧ Own encNode 4 56 w.heap.size W (some ⟨g15, 0, none⟩) n n (qs.map (·.1)) ∧ (∀ p ∈ qs, NodeSays p.1 p.2 ∧ OwnN w.heap.size W p.1 p.2) ∧ (sblks (qs.map (·.1))).Nodup, fun i _ => n - i.toNat,
      ⟨⟨B17, q117, q217, q317⟩, hE17, 0, L, rfl, by omega, by simpa using hLs, oL, hLd, hnd⟩, ?_⟩
    rintro _ W _ ⟨⟨hB, qb, qb2, qb3⟩, hE, k, qs, rfl, hk, hsnd, ho, hq, hnd⟩
    have hql : qs.length = n := by have := ho.len; simpa using this.symm
    refine cnd (fun hcc => ?_) fun hcc => ?_
    · have hkm : k < n := by simpa using hcc
      have hkq : k < qs.length := by omega
      have hqk : qs[k].2 = L9[k]'(by omega) := by
        have h1 : (qs.map (·.2))[k]'(by simpa using hkq) = ((L9.take k).map (awayN ((k0 : Int) + 1)) ++ L9.drop k)[k]'(by rw [← hsnd]; simpa using hkq) := by simp only [hsnd]
        rw [List.getElem_append_right (by simp; omega)] at h1
        simp only [List.length_map, List.length_take, List.getElem_drop, List.getElem_map] at h1
        rw [h1]; congr 1; omega
      obtain ⟨hsay, hown⟩ := hq _ (List.getElem_mem hkq)
      have hlk := hL9s _ (List.getElem_mem (show k < L9.length by omega))
      have hnk := (sblks_nodup.1 hnd).1 qs[k].1 (List.mem_map.2 ⟨qs[k], List.getElem_mem hkq, rfl⟩)
      rintro _ rfl
      have qbd := blk_drew qb
      have qb2d := blk_drew qb2
      have qb3d := blk_drew qb3
      have hBd := hB.drew
      have hod := ho.below (Below.refl _ _).drew
      have hownd := hown.below (Below.refl _ _).drew
      have hEd := hE.below (Below.refl _ _).drew
      have hqd : ∀ p ∈ qs, NodeSays p.1 p.2 ∧ OwnN w.heap.size W.drew p.1 p.2 := fun p hp => ⟨(hq p hp).1, (hq p hp).2.below (Below.refl _ _).drew⟩
      generalize W.drew = W9 at qbd qb2d qb3d hBd hod hownd hEd hqd ⊢
      have e0k : (qs.map (·.1))[k]'(by simpa using hkq) = qs[k].1 := by simp
      obtain ⟨gx, _, hgx, hcp, _, _⟩ := hod.fieldB enNode (i := k) (j := 2) hkm (by decide)
      obtain ⟨gy, _, hgy, hcl, _, _⟩ := hod.fieldB enNode (i := k) (j := 3) hkm (by decide)
      cases hgx; cases hgy
      rw [e0k] at hcp hcl
      have hcp' : W9.cell? ((Addr.add ⟨g15, 0, none⟩ (k * 4)).add 2) = some (.slice qs[k].1.plus.a qs[k].1.plus.n qs[k].1.plus.c) := hcp
      have hcl' : W9.cell? ((Addr.add ⟨g15, 0, none⟩ (k * 4)).add 3) = some (.slice qs[k].1.less.a qs[k].1.less.n qs[k].1.less.c) := hcl
      have htk : ((k : Nat) : Int).toNat = k := Int.toNat_natCast k
      have hpl1 := hownd.plus.len
      have hll1 := hownd.less.len
      refine ⟨_, _, _, blk_cell qbd 0, _, _, _, blk_cell qbd 0, _, _, _, blk_cell qbd 0, _, rfl, by omega, by omega, _, _, _, by rw [htk]; exact hcp', _, _, _, blk_cell qbd 0, _, rfl, by omega, by omega, _, _, _, by rw [htk]; exact hcl', ?_⟩
      refine (k_DelSteps (f := 63) (cf := [.pointer (some ⟨w1.heap.size, 0, none⟩)]) (p := fun r => r.2 == (k0 : Int) + 1) hownd.plus hBd.size (by rw [hpl1, hqk]; omega) (fun W2 r hW2 => k_gDrop1 (blk_cell (hownd.plus.keepBlk hW2 qb2d (.inl (by decide))) 0))).mono ?_
      rintro _ w20 ⟨m20, rfl, ho20, hg20⟩
      have q120 := hownd.plus.keepBlk hg20 qbd (.inl (by decide))
      have q220 := hownd.plus.keepBlk hg20 qb2d (.inl (by decide))
      have q320 := hownd.plus.keepBlk hg20 qb3d (.inl (by decide))
      have oN20 := hownd.plus.keepOwn hg20 hod (by decide)
      have oT20 := hownd.plus.keepOwn hg20 hownd.ty (by decide)
      have oLs20 : Own encStp 2 71 w.heap.size w20 qs[k].1.less.a qs[k].1.less.n qs[k].1.less.c qs[k].2.less := hownd.less.keepG hg20 (fun p hp he => by
        cases hpa : qs[k].1.plus.a with
        | none => rw [hpa] at he; cases he
        | some q => rw [hpa] at he; exact sblk_pl hnk hpa hp (by simpa using he))
      have B20 : Below w.heap.size w w20 := hBd.trans (hownd.plus.belowOf hg20 hBd.size)
      obtain ⟨gy, _, hgy, hcl2, _, _⟩ := oN20.fieldB enNode (i := k) (j := 3) hkm (by decide)
      cases hgy
      rw [e0k] at hcl2
      refine ⟨_, _, _, rfl, by rw [htk]; exact hcl2, blk_cell q120 0, blk_cell q120 0, blk_cell q120 0, ?_⟩
      refine (k_DelSteps (f := 63) (cf := [.pointer (some ⟨w1.heap.size, 0, none⟩)]) (p := fun r => r.2 == (k0 : Int) + 1) oLs20 B20.size (by rw [hll1, hqk]; omega) (fun W2 r hW2 => k_gDrop1 (blk_cell (oLs20.keepBlk hW2 q220 (.inl (by decide))) 0))).mono ?_
      rintro _ w21 ⟨m21, rfl, ho21, hg21⟩
      have q121 := oLs20.keepBlk hg21 q120 (.inl (by decide))
      have q221 := oLs20.keepBlk hg21 q220 (.inl (by decide))
      have q321 := oLs20.keepBlk hg21 q320 (.inl (by decide))
      have oN21 := oLs20.keepOwn hg21 oN20 (by decide)
      have oT21 := oLs20.keepOwn hg21 oT20 (by decide)
      have oP21 := ho20.keepG hg21 (fun p hp he => by
        cases hpa : qs[k].1.less.a with
        | none => rw [hpa] at he; cases he
        | some q => rw [hpa] at he; exact sblk_pl hnk hp hpa (by simpa using he.symm))
      have B21 : Below w.heap.size w w21 := B20.trans (oLs20.belowOf hg21 B20.size)
      refine ⟨_, _, _, rfl, blk_cell q121 0, blk_cell q121 0, ?_⟩
      obtain ⟨gz, hgz, _, hc1, hc2, hput1, hgr1, _⟩ := oN21.put1 enNode (i := k) (j := 2) hkm (by decide) (.slice qs[k].1.plus.a m20 qs[k].1.plus.c) ⟨qs[k].1.used, qs[k].1.ty, ⟨qs[k].1.plus.a, m20, qs[k].1.plus.c⟩, qs[k].1.less⟩ (fun hl => by simp [encNode])
      cases hgz
      refine ⟨_, rfl, by omega, by omega, ?_⟩
      rw [htk]
      refine ⟨hc1, hc2, ?_⟩
      rintro w22 h22
      rw [← h22] at hput1 hgr1
      have hgr1' : w21.grownBy w22 ((some (⟨g15, 0, none⟩ : Addr)).map (·.block)) := hgr1
      have q122 := oN21.keepBlk hgr1' q121 (.inl (by decide))
      refine ⟨blk_cell q122 0, ?_⟩
      obtain ⟨gz, hgz, _, hc1, hc2, hput2, hgr2, _⟩ := hput1.put1 enNode (i := k) (j := 3) hkm (by decide) (.slice qs[k].1.less.a m21 qs[k].1.less.c) ⟨qs[k].1.used, qs[k].1.ty, ⟨qs[k].1.plus.a, m20, qs[k].1.plus.c⟩, ⟨qs[k].1.less.a, m21, qs[k].1.less.c⟩⟩ (fun hl => by simp [encNode])
      cases hgz
      refine ⟨_, rfl, by omega, by omega, hc1, hc2, ?_⟩
      rintro w23 h23
      rw [← h23] at hput2 hgr2
      have hgA : w21.grownBy w23 ((some (⟨g15, 0, none⟩ : Addr)).map (·.block)) := grown_trans hgr1 hgr2
      have hcol : ((qs.map (·.1)).set k ⟨qs[k].1.used, qs[k].1.ty, ⟨qs[k].1.plus.a, m20, qs[k].1.plus.c⟩, qs[k].1.less⟩).set k ⟨qs[k].1.used, qs[k].1.ty, ⟨qs[k].1.plus.a, m20, qs[k].1.plus.c⟩, ⟨qs[k].1.less.a, m21, qs[k].1.less.c⟩⟩ = (qs.set k ((⟨qs[k].1.used, qs[k].1.ty, ⟨qs[k].1.plus.a, m20, qs[k].1.plus.c⟩, ⟨qs[k].1.less.a, m21, qs[k].1.less.c⟩⟩ : RNode), awayN ((k0 : Int) + 1) qs[k].2)).map (·.1) := by
        rw [List.set_set, List.map_set]
      rw [hcol] at hput2
      rw [nx (by omega)]
      refine ⟨⟨⟨B21.trans (oN21.belowOf hgA B21.size), oN21.keepBlk hgA q121 (.inl (by decide)), oN21.keepBlk hgA q221 (.inl (by decide)), oN21.keepBlk hgA q321 (.inl (by decide))⟩, ?_, k + 1, _, rfl, by omega, ?_, hput2, ?_, ?_⟩, dec hkm⟩
      · obtain ⟨es, e1, e2, e3⟩ := hEd
        exact ⟨es, e1, oN21.keepOwn hgA (oLs20.keepOwn hg21 (hownd.plus.keepOwn hg20 e2 (by decide)) (by decide)) (by decide), fun p hp => ⟨(e3 p hp).1, oN21.keepOwn hgA (oLs20.keepOwn hg21 (hownd.plus.keepOwn hg20 (e3 p hp).2 (by decide)) (by decide)) (by decide)⟩⟩
      · rw [List.map_set, hsnd, hqk, take_one (show k < L9.length by omega), List.map_append, List.append_assoc, List.set_append_right _ _ (by simp; omega)]
        congr 1
        rw [List.drop_eq_getElem_cons (show k < L9.length by omega), show k - ((L9.take k).map (awayN ((k0 : Int) + 1))).length = 0 by simp; omega]
        rfl
      · intro p hp
        obtain ⟨j, hj, hjp⟩ := List.mem_iff_getElem.1 hp
        rw [List.getElem_set] at hjp
        split at hjp
        · subst hjp
          refine ⟨⟨hsay.used, hsay.rng.1, fun s hs => hsay.rng.2 s ?_⟩, OwnN.keepBy ⟨oT21, oP21, ho21⟩ oN21 hgA (by decide) (by decide)⟩
          rcases List.mem_append.1 hs with hs | hs
          · exact List.mem_append.2 (.inl (List.mem_filter.1 hs).1)
          · exact List.mem_append.2 (.inr (List.mem_filter.1 hs).1)
        · rename_i hne
          have hjq : j < qs.length := by simpa using hj
          have hpm := hqd qs[j] (List.getElem_mem hjq)
          rw [hjp] at hpm
          have hdis := sblks_disj hnd (i := j) (j := k) (by simpa using hjq) (by simpa using hkq) (Ne.symm hne)
          simp only [List.getElem_map, hjp] at hdis
          refine ⟨hpm.1, OwnN.keepBy ⟨oLs20.keepOwn hg21 (hownd.plus.keepOwn hg20 hpm.2.ty (by decide)) (by decide), ?_, ?_⟩ oN21 hgA (by decide) (by decide)⟩
          · refine (hpm.2.plus.keepG hg20 fun q hqa he => ?_).keepG hg21 fun q hqa he => ?_
            · cases hpa : qs[k].1.plus.a with
              | none => rw [hpa] at he; cases he
              | some q' => rw [hpa] at he; exact hdis _ (sblk_plus hqa) _ (sblk_plus hpa) (by simpa using he.symm)
            · cases hpa : qs[k].1.less.a with
              | none => rw [hpa] at he; cases he
              | some q' => rw [hpa] at he; exact hdis _ (sblk_plus hqa) _ (sblk_less hpa) (by simpa using he.symm)
          · refine (hpm.2.less.keepG hg20 fun q hqa he => ?_).keepG hg21 fun q hqa he => ?_
            · cases hpa : qs[k].1.plus.a with
              | none => rw [hpa] at he; cases he
              | some q' => rw [hpa] at he; exact hdis _ (sblk_less hqa) _ (sblk_plus hpa) (by simpa using he.symm)
            · cases hpa : qs[k].1.less.a with
              | none => rw [hpa] at he; cases he
              | some q' => rw [hpa] at he; exact hdis _ (sblk_less hqa) _ (sblk_less hpa) (by simpa using he.symm)
      · have hsb : sblks ((qs.set k ((⟨qs[k].1.used, qs[k].1.ty, ⟨qs[k].1.plus.a, m20, qs[k].1.plus.c⟩, ⟨qs[k].1.less.a, m21, qs[k].1.less.c⟩⟩ : RNode), awayN ((k0 : Int) + 1) qs[k].2)).map (·.1)) = sblks (qs.map (·.1)) := by
          have h1 : (qs.map (·.1)).map sblk = ((qs.set k ((⟨qs[k].1.used, qs[k].1.ty, ⟨qs[k].1.plus.a, m20, qs[k].1.plus.c⟩, ⟨qs[k].1.less.a, m21, qs[k].1.less.c⟩⟩ : RNode), awayN ((k0 : Int) + 1) qs[k].2)).map (·.1)).map sblk := by
            rw [List.map_set, List.map_set]
            have h2 : sblk (⟨qs[k].1.used, qs[k].1.ty, ⟨qs[k].1.plus.a, m20, qs[k].1.plus.c⟩, ⟨qs[k].1.less.a, m21, qs[k].1.less.c⟩⟩ : RNode) = ((qs.map (·.1)).map sblk)[k]'(by simpa using hkq) := by simp [sblk]
            rw [h2, set_at]
          exact sblks_of h1.symm
        rw [hsb]; exact hnd
    · have hkm : ¬ k < n := by simpa using hcc
      obtain rfl : k = n := by omega
      rw [List.take_of_length_le (by omega), List.drop_of_length_le (by omega), List.append_nil] at hsnd
      have hD : DNodes w.heap.size W (some ⟨g15, 0, none⟩) k k (L9.map (awayN ((k0 : Int) + 1))) := ⟨qs, hsnd, ho, hq⟩
      have hfirst : ∃ h0 : 0 < (L9.map (awayN ((k0 : Int) + 1))).length, ((L9.map (awayN ((k0 : Int) + 1)))[0]).used = true := by
        refine ⟨by simp; omega, ?_⟩
        have hone := hC.one
        have hp0 := hC.pos
        have e1 : node G.nodes 1 = G.nodes[0] := by
          have := node_eq (l := G.nodes) (k := 0) hp0
          simpa using this
        simp only [isN, e1, Bool.and_eq_true] at hone
        have e2 : L9[0]'(by omega) = G.nodes[0] := by
          subst hL9; rw [List.getElem_set_ne (by omega)]
        simp only [List.getElem_map, awayN, e2]; exact hone.2
      refine ⟨_, _, _, blk_cell qb 0, fun last W => (Below w.heap.size w W ∧ W.heap[w.heap.size]? = some (.cells #[.slice (some ⟨g15, 0, none⟩) k k, .slice (some ⟨g15', 0, none⟩) n13 n13] 27) ∧ W.heap[w2.heap.size]? = some (.cells #[.slice none 0 0, .slice none 0 0] 27)) ∧
          DEnts w.heap.size W (some ⟨g15', 0, none⟩) n13 n13 (dropL G.slots G.nodes[k0].ty).1 ∧ DNodes w.heap.size W (some ⟨g15, 0, none⟩) k k (L9.map (awayN ((k0 : Int) + 1))) ∧
          ∃ j : Nat, last = j ∧ 0 < j ∧ j ≤ k ∧ ∀ i (hi : i < (L9.map (awayN ((k0 : Int) + 1))).length), j ≤ i → ((L9.map (awayN ((k0 : Int) + 1)))[i]).used = false, fun last _ => last.toNat,
        ⟨⟨hB, qb, qb3⟩, hE, hD, k, rfl, by omega, by omega, fun i hi hki => by simp at hi; omega⟩, ?_⟩
      generalize hLL : L9.map (awayN ((k0 : Int) + 1)) = LL at hfirst ⊢
      have hLLl : LL.length = k := by rw [← hLL]; simp; omega
      rintro _ W2 _ ⟨⟨hB2, qb2', qb32⟩, hE2, hD2, j, rfl, hj0, hjk, hjno⟩
      refine ⟨_, _, _, _, _, _, blk_cell qb2' 0, blk_cell qb2' 1, (k_gis hD2.nodes (j : Int) (by simp only [I64]; omega)).gives fun w25 B25' => ⟨_, rfl, ?_⟩⟩
      have B25 := hB2.trans (B25'.mono hB2.size)
      have q125 := blk_below qb2' B25' (blk_lt qb2')
      have q325 := blk_below qb32 B25' (blk_lt qb32)
      have hE25 := hE2.below B25'
      have hD25 := hD2.below B25'
      have hnj : node LL (j : Int) = LL[j - 1]'(by omega) := by
        have := node_eq (l := LL) (k := j - 1) (by omega)
        rwa [show ((j - 1 : Nat) : Int) + 1 = (j : Int) by omega] at this
      have hisj : isN LL (j : Int) = (LL[j - 1]'(by omega)).used := by
        have h1 : (1 : Int) ≤ (j : Int) := by omega
        have h2 : (j : Int) ≤ (LL.length : Int) := by omega
        simp only [isN, hnj, h1, h2, decide_true, Bool.true_and]
      rw [hisj]
      refine cnd (fun g => ?_) fun g => ?_
      · have hf : (LL[j - 1]'(by omega)).used = false := by simpa using g
        have hj1 : 1 < j := by
          rcases Nat.lt_or_ge 1 j with h1 | h1
          · exact h1
          · have : j = 1 := by omega
            subst this
            obtain ⟨_, hf0⟩ := hfirst
            exact absurd (hf0.symm.trans hf) (by decide)
        rw [pre1 hj0 (by omega)]
        refine ⟨⟨⟨B25, q125, q325⟩, hE25, hD25, j - 1, rfl, by omega, by omega, fun i hi hji => ?_⟩, by simp only []; omega⟩
        by_cases hij : i = j - 1
        · subst hij; exact hf
        · exact hjno i hi (by omega)
      · have ht : (LL[j - 1]'(by omega)).used = true := by simpa using g
        refine ⟨_, _, _, blk_cell q125 0, by omega, by omega, by omega, by omega, blk_some q125 (by simp), blk_free q125 _, ?_⟩
        rw [Int.toNat_natCast]
        rintro w26 h26
        have q126 : w26.heap[w.heap.size]? = some (.cells #[.slice (some ⟨g15, 0, none⟩) j j, .slice (some ⟨g15', 0, none⟩) n13 n13] 27) := by rw [h26]; exact blk_set q125 0 _
        have q326 : w26.heap[w2.heap.size]? = some (.cells #[.slice none 0 0, .slice none 0 0] 27) := by rw [h26]; exact blk_far q325 (by show w2.heap.size ≠ w.heap.size; omega) _
        have B26 : Below w.heap.size w w26 := by rw [h26]; exact B25.setCell (Nat.le_refl _) _
        have hE26 : DEnts w.heap.size w26 (some ⟨g15', 0, none⟩) n13 n13 (dropL G.slots G.nodes[k0].ty).1 := by rw [h26]; exact hE25.farB q125 (by decide) (by decide) _
        have hD26 : DNodes w.heap.size w26 (some ⟨g15, 0, none⟩) k k LL := by rw [h26]; exact hD25.farB q125 (by decide) (by decide) (by decide) _
        have hDt : DNodes w.heap.size w26 (some ⟨g15, 0, none⟩) j j (LL.take j) := by
          obtain ⟨q9, e1, e2, e3⟩ := hD26
          exact ⟨q9.take j, by rw [List.map_take, e1], by rw [List.map_take]; exact e2.take enNode.len j j hjk (Nat.le_refl _) hjk, fun p hp => e3 p (List.mem_of_mem_take hp)⟩
        have htrim := trimN_eq hj0 (by omega) ht hjno
        refine ⟨_, _, _, _, _, _, blk_cell q126 0, blk_cell q126 1, put_back2 q326 (put2 (G' := ⟨LL.take j, (dropL G.slots G.nodes[k0].ty).1⟩) q326 ?_ hDt hE26 B26)⟩
        rw [← htrim, ← hLL, ← hL9]
        have ht0 : ((k0 : Int) + 1 - 1).toNat = k0 := by omega
        simp only [dropG, hc, hi, hm1, hnode, hpe, ht0, Bool.true_eq_false, if_false, ne_eq, not_true_eq_false])
end
end Go.Eng
namespace Go.Eng
open Go Go.RowKit Go.Proofs
set_option maxRecDepth 10000
/-- Nodes of which one has a type, its number; the error: by the document. -/
def of12 (l : List Node) (t : List Int) : List Node × Int × Int :=
  if right3 t = false then ([], 0, 130) else if 0 < findN l t then (l, findN l t, 0) else if (ents12 l).length = 4000 then ([], 0, 6)
  else (setNode l (freeIx l) ⟨true, t, [], []⟩, (freeIx l : Int) + 1, 0)
theorem Nodes.nil {w : World} : Nodes w none 0 0 [] := ⟨[], Row.nil', All2.nil⟩
/-- Nodes whose row is one's own, all they hold lying in an elder world. -/
def CopyN (w0 : World) (w : World) (a : Option Addr) (n c : Nat) (l : List Node) : Prop := ∃ qs : List NP, qs.map (·.2) = l ∧ Own encNode 4 56 w0.heap.size w a n c (qs.map (·.1)) ∧ ∀ p ∈ qs, IsNode w0 p.1 p.2
theorem CopyN.nodes {w0 w : World} {a : Option Addr} {n c : Nat} {l : List Node} (h : CopyN w0 w a n c l) (hB : Below w0.heap.size w0 w) : Nodes w a n c l := by
  obtain ⟨qs, rfl, ho, hq⟩ := h
  exact ⟨_, ho.row, all2_npairs fun p hp => (hq p hp).below hB⟩
theorem CopyN.below {w0 w w' : World} {a : Option Addr} {n c : Nat} {l : List Node} (h : CopyN w0 w a n c l) (hB : Below w.heap.size w w') : CopyN w0 w' a n c l := by
  obtain ⟨qs, h1, ho, hq⟩ := h
  exact ⟨qs, h1, ho.below hB, hq⟩
end Go.Eng
namespace Go.Eng
open Go Go.RowKit Go.Proofs
set_option maxRecDepth 10000
/-- Nodes of which one is not used; the error: by the document. -/
def drop12 (l : List Node) (n : Int) : List Node × Int :=
  if isN l n = false then ([], 2) else if n = 1 then ([], 2) else (trimN ((l.set (n - 1).toNat blankN).map (awayN n)), 0)
end Go.Eng
namespace Go.Eng
open Go Go.RowKit Go.Proofs
set_option maxRecDepth 10000
def setLess12 (l : List Node) (n : Int) (s : Stp) : List Node := l.set (n - 1).toNat ⟨(node l n).used, (node l n).ty, (node l n).plus, withS (node l n).less s⟩
def setPlus12 (l : List Node) (n : Int) (s : Stp) : List Node := l.set (n - 1).toNat ⟨(node l n).used, (node l n).ty, withS (node l n).plus s, (node l n).less⟩
def to12 (t : List Int) (id : Int) (plus : Bool) : List Int := if plus = true then with3 t id else without3 t id
/-- Nodes, a step being gone, and where to; the error: by the document. -/
def go12 (l : List Node) (n id : Int) (plus : Bool) : List Node × Int × Int :=
  if isN l n = false then ([], 0, 2)
  else if plus = true ∧ may3 id = false then ([], 0, 2)
  else if plus = true ∧ id ∈ (node l n).ty then (l, n, 0)
  else if plus = true ∧ (node l n).ty.length = 12 then ([], 0, 6)
  else if plus = false ∧ id ∉ (node l n).ty then ([], 0, 4)
  else if (of12 l (to12 (node l n).ty id plus)).2.2 ≠ 0 then ([], 0, (of12 l (to12 (node l n).ty id plus)).2.2)
  else (if plus = true then setPlus12 (setLess12 (of12 l (to12 (node l n).ty id plus)).1 (of12 l (to12 (node l n).ty id plus)).2.1 (id, n)) n (id, (of12 l (to12 (node l n).ty id plus)).2.1)
      else setPlus12 (setLess12 (of12 l (to12 (node l n).ty id plus)).1 n (id, (of12 l (to12 (node l n).ty id plus)).2.1)) (of12 l (to12 (node l n).ty id plus)).2.1 (id, n), (of12 l (to12 (node l n).ty id plus)).2.1, 0)
theorem findN_pos {l : List Node} {t : List Int} (h : 0 < findN l t) : ∃ k : Nat, findN l t = (k : Int) + 1 ∧ ∃ hk : k < l.length, l[k].used = true ∧ l[k].ty = t := by
  unfold findN at h ⊢
  cases hi : l.findIdx? (fun x => x.used && x.ty == t) with
  | none => rw [hi] at h; simp at h
  | some i =>
    obtain ⟨h1, h2, _⟩ := List.findIdx?_eq_some_iff_getElem.1 hi
    simp only [Bool.and_eq_true, beq_iff_eq] at h2
    exact ⟨i, rfl, h1, h2⟩
theorem rng_with3 {t : List Int} {id : Int} (h : Rng t) (hid : 0 ≤ id ∧ id < 18446744073709551616) : Rng (with3 t id) := by
  intro x hx
  unfold with3 at hx
  rcases List.mem_append.1 hx with hx | hx
  · exact h x (List.mem_filter.1 hx).1
  · rcases List.mem_cons.1 hx with rfl | hx
    · exact hid
    · exact h x (List.mem_filter.1 hx).1
theorem rng_without3 {t : List Int} {id : Int} (h : Rng t) : Rng (without3 t id) := fun x hx => h x (List.mem_filter.1 hx).1
end Go.Eng
namespace Go.Eng
open Go Go.Proofs
set_option exponentiation.threshold 300
theorem isN_node {l : List Node} {n : Int} (h : isN l n = true) : ∃ (k : Nat) (hk : k < l.length), n = (k : Int) + 1 ∧ l[k].used = true ∧ node l n = l[k] := by
  obtain ⟨k, rfl, hk⟩ := isN_iff h
  simp only [isN, Bool.and_eq_true] at h
  rw [node_eq hk] at h
  exact ⟨k, hk, rfl, h.2, node_eq hk⟩
theorem isN_of {l : List Node} {k : Nat} (hk : k < l.length) (hu : l[k].used = true) : isN l ((k : Int) + 1) = true := by
  simp only [isN, node_eq hk, hu, Bool.and_true, Bool.and_eq_true, decide_eq_true_eq]; omega
theorem isN_eq {l : List Node} {k : Nat} (hk : k < l.length) : isN l ((k : Int) + 1) = l[k].used := by
  cases hu : l[k].used with
  | true => exact isN_of hk hu
  | false => simp [isN, node_eq hk, hu]
/-- What is asked of a step. -/
def StpP (l : List Node) (n : Int) (s : Stp) : Prop := isN l s.2 = true ∧ s.1 ∉ (node l n).ty ∧ (s.1, n) ∈ (node l s.2).less ∧ (node l s.2).ty = with3 (node l n).ty s.1
def StpL (l : List Node) (n : Int) (s : Stp) : Prop := isN l s.2 = true ∧ s.1 ∈ (node l n).ty ∧ (s.1, n) ∈ (node l s.2).plus ∧ (node l s.2).ty = without3 (node l n).ty s.1
theorem sorted_adj {l : List Int} (h : l.Pairwise (· < ·)) {i : Nat} (h1 : i + 1 < l.length) : l[i] < l[i + 1] := List.pairwise_iff_getElem.1 h i (i + 1) (by omega) h1 (by omega)
theorem steps12_iff {l : List Node} {n : Int} {row : List Stp} {plus : Bool} : steps12 l n row plus = true ↔ (keys row).Pairwise (· < ·) ∧ ∀ s ∈ row, if plus = true then StpP l n s else StpL l n s := by
  have hl : (keys row).length = row.length := by simp [keys]
  simp only [steps12, List.all_eq_true, List.mem_range]
  constructor
  · intro h
    constructor
    · refine adj_sorted fun i h1 => ?_
      have := h (i + 1) (by omega)
      simp only [stepOk12, Bool.and_eq_true, Bool.or_eq_true, decide_eq_true_eq] at this
      rcases this.1.1.1 with h2 | h2
      · omega
      · rw [Nat.add_sub_cancel, stp_eqAt (by omega), stp_eqAt (by omega)] at h2
        rw [keys_get (by omega), keys_get (by omega)]; exact h2
    · intro s hs
      obtain ⟨i, hi, rfl⟩ := List.mem_iff_getElem.1 hs
      have := h i hi
      simp only [stepOk12, stp_eqAt hi, Bool.and_eq_true] at this
      obtain ⟨⟨⟨_, h1⟩, h2⟩, h3⟩ := this
      cases plus with
      | true => simp at h2 h3 ⊢; exact ⟨h1, h2, h3.1, h3.2⟩
      | false => simp at h2 h3 ⊢; exact ⟨h1, h2, h3.1, h3.2⟩
  · rintro ⟨hs, h⟩ i hi
    have hm := h row[i] (List.getElem_mem hi)
    have h0 : i = 0 ∨ (stp row (i - 1)).1 < (stp row i).1 := by
      cases i with
      | zero => exact .inl rfl
      | succ i =>
        right
        rw [Nat.add_sub_cancel, stp_eqAt (by omega), stp_eqAt hi]
        have := sorted_adj hs (i := i) (by omega)
        rw [keys_get (by omega), keys_get (by omega)] at this; exact this
    simp only [stepOk12, stp_eqAt hi, Bool.and_eq_true, Bool.or_eq_true, decide_eq_true_eq]
    rw [stp_eqAt hi] at h0
    cases plus with
    | true =>
      simp only [if_true] at hm
      obtain ⟨h1, h2, h3, h4⟩ := hm
      refine ⟨⟨⟨h0, h1⟩, by simp [h2]⟩, by simp [h3, h4]⟩
    | false =>
      simp only [Bool.false_eq_true, if_false] at hm
      obtain ⟨h1, h2, h3, h4⟩ := hm
      refine ⟨⟨⟨h0, h1⟩, by simp [h2]⟩, by simp [h3, h4]⟩
/-- Nodes that may be. -/
structure N12 (l : List Node) : Prop where
  pos : 0 < l.length
  last : isN l (l.length : Int) = true
  one : isN l 1 = true
  ty1 : (node l 1).ty = []
  right : ∀ n, isN l n = true → right2 (node l n).ty = true
  uniq : ∀ n m, isN l n = true → isN l m = true → (node l n).ty = (node l m).ty → n = m
  free : ∀ i (h : i < l.length), l[i].used = false → l[i].ty = [] ∧ l[i].plus = [] ∧ l[i].less = []
  sorted : ∀ n, isN l n = true → SortedN (node l n)
  plus : ∀ n s, isN l n = true → s ∈ (node l n).plus → StpP l n s
  less : ∀ n s, isN l n = true → s ∈ (node l n).less → StpL l n s
  many : manyN l ≤ 4000
def RngN (l : List Node) : Prop := ∀ x ∈ l, Rng x.ty
theorem RngN.node {l : List Node} (h : RngN l) (n : Int) : Rng (node l n).ty := by
  unfold Eng.node
  rcases Nat.lt_or_ge (n - 1).toNat l.length with hl | hl
  · rw [List.getD_eq_getElem?_getD, List.getElem?_eq_getElem hl]; exact h _ (List.getElem_mem hl)
  · rw [List.getD_eq_getElem?_getD, List.getElem?_eq_none hl]; intro x hx; cases hx
/-- The first used node of a type. -/
theorem findN_self {l : List Node} {k : Nat} (hk : k < l.length) (hu : l[k].used = true) : ∃ j : Nat, findN l l[k].ty = (j : Int) + 1 ∧ j ≤ k ∧ ∃ hj : j < l.length, l[j].used = true ∧ l[j].ty = l[k].ty := by
  unfold findN
  cases hi : l.findIdx? (fun x => x.used && x.ty == l[k].ty) with
  | none =>
    rw [List.findIdx?_eq_none_iff] at hi
    have := hi _ (List.getElem_mem hk)
    simp [hu] at this
  | some j =>
    obtain ⟨h1, h2, h3⟩ := List.findIdx?_eq_some_iff_getElem.1 hi
    simp only [Bool.and_eq_true, beq_iff_eq] at h2
    refine ⟨j, rfl, ?_, h1, h2⟩
    rcases Nat.lt_or_ge k j with hlt | hge
    · have := h3 k hlt; simp [hu] at this
    · exact hge
theorem nodes12_iff {l : List Node} (hr : RngN l) : nodes12 l = true ↔ N12 l := by
  simp only [nodes12, Bool.and_eq_true, decide_eq_true_eq, List.all_eq_true, List.mem_range]
  constructor
  · rintro ⟨⟨⟨⟨⟨h1, h2⟩, h3⟩, h4⟩, h5⟩, h6⟩
    have ok : ∀ n, isN l n = true → right2 (node l n).ty = true ∧ findN l (node l n).ty = n ∧ steps12 l n (node l n).plus true = true ∧ steps12 l n (node l n).less false = true := by
      intro n hn
      obtain ⟨k, hk, rfl, hu, he⟩ := isN_node hn
      have := h5 k hk
      rw [nodeOk12, he, if_pos hu] at this
      simp only [Bool.and_eq_true, beq_iff_eq] at this
      obtain ⟨⟨⟨a1, a2⟩, a3⟩, a4⟩ := this
      rw [he]
      exact ⟨by rw [right_alike (hr _ (List.getElem_mem hk))]; exact a1, a2, a3, a4⟩
    refine ⟨h1, ?_, ?_, List.eq_nil_of_length_eq_zero h4, fun n hn => (ok n hn).1, fun n m hn hm he => ?_, fun i hi hu => ?_, fun n hn => ?_, fun n s hn hs => ?_, fun n s hn hs => ?_, h6⟩
    · simp only [isN, h2, Bool.and_true, Bool.and_eq_true, decide_eq_true_eq]; omega
    · simp only [isN, h3, Bool.and_true, Bool.and_eq_true, decide_eq_true_eq]; omega
    · rw [← (ok n hn).2.1, he, (ok m hm).2.1]
    · have := h5 i hi
      rw [nodeOk12, node_eq hi, if_neg (by rw [hu]; simp)] at this
      simp only [decide_eq_true_eq] at this
      exact ⟨List.eq_nil_of_length_eq_zero (by omega), List.eq_nil_of_length_eq_zero (by omega), List.eq_nil_of_length_eq_zero (by omega)⟩
    · exact ⟨(steps12_iff.1 (ok n hn).2.2.1).1, (steps12_iff.1 (ok n hn).2.2.2).1⟩
    · have := (steps12_iff.1 (ok n hn).2.2.1).2 s hs; simpa using this
    · have := (steps12_iff.1 (ok n hn).2.2.2).2 s hs; simpa using this
  · intro h
    have one : (node l 1).used = true := by
      obtain ⟨k, hk, _, hu, he⟩ := isN_node h.one; rw [he]; exact hu
    have last : (node l (l.length : Int)).used = true := by
      obtain ⟨k, hk, _, hu, he⟩ := isN_node h.last; rw [he]; exact hu
    refine ⟨⟨⟨⟨⟨h.pos, last⟩, one⟩, by rw [h.ty1]; rfl⟩, fun i hi => ?_⟩, h.many⟩
    unfold nodeOk12
    cases hu : (node l ((i : Int) + 1)).used with
    | false =>
      rw [if_neg (by simp)]
      rw [node_eq hi] at hu ⊢
      obtain ⟨a1, a2, a3⟩ := h.free i hi hu
      rw [a1, a2, a3]; rfl
    | true =>
      have hn : isN l ((i : Int) + 1) = true := isN_of hi (by rw [node_eq hi] at hu; exact hu)
      have hf : findN l (node l ((i : Int) + 1)).ty = (i : Int) + 1 := by
        have hu' := hu
        rw [node_eq hi] at hu' ⊢
        obtain ⟨j, e, hji, hj, huj, htj⟩ := findN_self hi hu'
        rw [e]
        refine h.uniq _ _ (isN_of hj huj) hn ?_
        rw [node_eq hj, node_eq hi]; exact htj
      have e1 : right3 (node l ((i : Int) + 1)).ty = true := by rw [← right_alike (hr.node _)]; exact h.right _ hn
      have e2 : steps12 l ((i : Int) + 1) (node l ((i : Int) + 1)).plus true = true := steps12_iff.2 ⟨(h.sorted _ hn).1, fun s hs => by simpa using h.plus _ s hn hs⟩
      have e3 : steps12 l ((i : Int) + 1) (node l ((i : Int) + 1)).less false = true := steps12_iff.2 ⟨(h.sorted _ hn).2, fun s hs => by simpa using h.less _ s hn hs⟩
      simp [e1, e2, e3, hf]
def entsU (l : List Node) : List Entry := (usedIx l).map (entN l)
theorem range_filter_succ (p : Nat → Bool) (k : Nat) : (List.range (k + 1)).filter p = (List.range k).filter p ++ (if p k = true then [k] else []) := by
  rw [List.range_succ, List.filter_append]
  congr 1
  simp only [List.filter_cons, List.filter_nil]
theorem entsTo_perm (l : List Node) : ∀ k, (entsTo l k).Perm (((List.range k).filter fun i : Nat => (node l ((i : Int) + 1)).used).map (entN l))
  | 0 => .refl _
  | k + 1 => by
    have ih := entsTo_perm l k
    rw [range_filter_succ]
    simp only [entsTo]
    split
    · rename_i hu
      simp only [hu, if_true, List.map_append, List.map_cons, List.map_nil]
      exact (with7_perm _ _ _).trans ((ih.cons _).trans (List.perm_append_singleton _ _).symm)
    · rename_i hu
      simp only [hu, Bool.false_eq_true, if_false, List.append_nil]
      exact ih
theorem ents12_perm (l : List Node) : (ents12 l).Perm (entsU l) := entsTo_perm l l.length
theorem entsTo_sorted (l : List Node) : ∀ k, (entsTo l k).Pairwise (fun p q => ¬ cmpL q.ty p.ty < 0)
  | 0 => .nil
  | k + 1 => by
    simp only [entsTo]; split
    · exact with7_sorted _ (entsTo_sorted l k)
    · exact entsTo_sorted l k
theorem ents12_sorted (l : List Node) : (ents12 l).Pairwise (fun p q => ¬ cmpL q.ty p.ty < 0) := entsTo_sorted l l.length
theorem ents12_len (l : List Node) : (ents12 l).length = manyN l := by
  rw [(ents12_perm l).length_eq, entsU, List.length_map, usedIx_len]
theorem checkL_keyInj {l : List Entry} (h : checkL l = true) : ∀ a ∈ all7 Entry.st Entry.ty l, ∀ b ∈ all7 Entry.st Entry.ty l, a.ty = b.ty → a = b := by
  intro a ha b hb ht
  have ha' := List.mem_filter.1 (all7_perm'.mem_iff.1 ha)
  have hb' := List.mem_filter.1 (all7_perm'.mem_iff.1 hb)
  exact checkL_inj h a ha'.1 b hb'.1 (by simpa using ha'.2) (by simpa using hb'.2) ht
theorem all7_ents {l : List Entry} {ns : List Node} (h : checkL l = true) : all7 Entry.st Entry.ty l = ents12 ns ↔ (usedE l).Perm (entsU ns) := by
  constructor
  · intro he
    have h1 : (all7 Entry.st Entry.ty l).Perm (usedE l) := all7_perm'
    rw [he] at h1
    exact h1.symm.trans (ents12_perm ns)
  · intro hp
    have hP : (all7 Entry.st Entry.ty l).Perm (ents12 ns) := all7_perm'.trans (hp.trans (ents12_perm ns).symm)
    refine List.Perm.eq_of_pairwise (le := fun p q => ¬ cmpL q.ty p.ty < 0) ?_ (all7_sorted _ _ _) (ents12_sorted ns) hP
    intro a b ha hb h1 h2
    rcases cmpL_tri a.ty b.ty with h3 | h3 | h3
    · exact absurd h3 h2
    · exact checkL_keyInj h a ha b (hP.mem_iff.2 hb) h3
    · exact absurd h3 h1
/-- A graph that may be. -/
structure RG (G : PG) : Prop where
  nodes : N12 G.nodes
  look : checkL G.slots = true
  ents : (usedE G.slots).Perm (entsU G.nodes)
structure RngG (G : PG) : Prop where
  nodes : RngN G.nodes
  slots : ∀ e ∈ G.slots, Rng e.ty
theorem right12_iff {G : PG} (hr : RngG G) (hn : G.slots.length < 2 ^ 62) : Right12 G ↔ RG G := by
  unfold Right12
  rw [nodes12_iff hr.nodes, right7_iff (fun e he _ => hr.slots e he) hn]
  constructor
  · rintro ⟨h1, h2, h3⟩; exact ⟨h1, h2, (all7_ents h2).1 h3⟩
  · rintro ⟨h1, h2, h3⟩; exact ⟨h1, h2, (all7_ents h2).2 h3⟩
end Go.Eng
namespace Go.Eng
open Go Go.Proofs
set_option exponentiation.threshold 300
theorem mem_entsU {l : List Node} {e : Entry} : e ∈ entsU l ↔ ∃ (k : Nat) (hk : k < l.length), l[k].used = true ∧ e = ⟨1, l[k].ty, (k : Int) + 1⟩ := by
  simp only [entsU, List.mem_map]
  constructor
  · rintro ⟨k, hk, rfl⟩
    obtain ⟨h1, h2⟩ := mem_usedIx.1 hk
    exact ⟨k, h1, h2, by rw [entN, node_eq h1]⟩
  · rintro ⟨k, hk, hu, rfl⟩
    exact ⟨k, mem_usedIx.2 ⟨hk, hu⟩, by rw [entN, node_eq hk]⟩
theorem findL_used {l : List Entry} (h : checkL l = true) {e : Entry} (he : e ∈ l) (hs : e.st = 1) : findL l e.ty = (e.num, true) := by
  obtain ⟨i, hi, rfl⟩ := List.mem_iff_getElem.1 he
  have := (checkL_used h hi hs).2.2
  have hn : ¬ ((i : Nat) : Int) < 0 := by omega
  simp only [findL, h, this, hn, Bool.true_eq_false, if_false, Int.toNat_natCast, slot_eq hi]
theorem RG.usedN {G : PG} (h : RG G) {k : Nat} (hk : k < G.nodes.length) (hu : G.nodes[k].used = true) : (⟨1, G.nodes[k].ty, (k : Int) + 1⟩ : Entry) ∈ G.slots :=
  (List.mem_filter.1 (h.ents.mem_iff.2 (mem_entsU.2 ⟨k, hk, hu, rfl⟩))).1
theorem has2_in {t : List Int} (h : right2 t = true) (x : Int) : has2 t x = decide (x ∈ t) := by simp [has2, h]
theorem stepOk_alike {l : List Node} {n : Int} {row : List Stp} {plus : Bool} {i : Nat} (hn : right2 (node l n).ty = true) (hall : ∀ m, isN l m = true → right2 (node l m).ty = true) : stepOkG l n row plus i = stepOk12 l n row plus i := by
  have hs := (right2_iff.1 hn).1
  unfold stepOkG stepOk12
  rw [has2_in hn]
  cases hm : isN l (stp row i).2 with
  | false => simp
  | true =>
    have hr := hall _ hm
    by_cases hx : (stp row i).1 ∈ (node l n).ty
    · cases plus with
      | true => simp [hx]
      | false =>
        have e1 : without2e (node l n).ty (stp row i).1 = (without3 (node l n).ty (stp row i).1, 0) := by simp [without2e, hn, hx, without_alike hs hx]
        rw [e1]; simp [Bool.and_comm, Bool.and_assoc]
    · cases plus with
      | false => simp [hx]
      | true =>
        by_cases ht : (node l (stp row i).2).ty = with3 (node l n).ty (stp row i).1
        · have hr' := hr
          rw [ht] at hr'
          obtain ⟨_, g1, g2⟩ := right2_iff.1 hr'
          have hmay := g1 (stp row i).1 (with3_mem.2 (.inl rfl))
          have hlen : ¬ 12 < (with3 (node l n).ty (stp row i).1).length := by omega
          have e1 : with2e (node l n).ty (stp row i).1 = (with3 (node l n).ty (stp row i).1, 0) := by simp [with2e, hn, hmay, with_alike hs, hlen]
          rw [e1]; simp [ht]
        · have e1 : (((with2e (node l n).ty (stp row i).1).2 == 0) && ((node l (stp row i).2).ty == (with2e (node l n).ty (stp row i).1).1)) = false := by
            unfold with2e
            rw [hn, with_alike hs]
            by_cases c1 : may2 (stp row i).1 = false
            · simp [c1]
            · by_cases c2 : 12 < (with3 (node l n).ty (stp row i).1).length
              · simp [c1, c2]
              · simp [c1, c2, ht]
          rw [if_pos rfl, if_pos rfl, e1]; simp [ht]
theorem steps_alike {l : List Node} {n : Int} {row : List Stp} {plus : Bool} (hn : right2 (node l n).ty = true) (hall : ∀ m, isN l m = true → right2 (node l m).ty = true) : stepsG l n row plus = steps12 l n row plus := by
  unfold stepsG steps12
  rw [show stepOkG l n row plus = stepOk12 l n row plus from funext fun i => stepOk_alike hn hall]
theorem chG_rg {G : PG} (h : ChG G) : RG G := by
  have right : ∀ n, isN G.nodes n = true → right2 (node G.nodes n).ty = true := by
    intro n hn
    obtain ⟨k, hk, rfl, hu, he⟩ := isN_node hn
    rw [he]; exact (h.node hk hu).1
  have st : ∀ n, isN G.nodes n = true → steps12 G.nodes n (node G.nodes n).plus true = true ∧ steps12 G.nodes n (node G.nodes n).less false = true := by
    intro n hn
    rw [← steps_alike (right n hn) right, ← steps_alike (right n hn) right]
    obtain ⟨k, hk, rfl, hu, he⟩ := isN_node hn
    rw [he]; exact (h.node hk hu).2.2
  refine ⟨⟨h.pos, h.last, h.one, List.eq_nil_of_length_eq_zero h.ty1, right, fun n m hn hm ht => ?_, fun i hi hu => h.free hi hu, fun n hn => ⟨(steps12_iff.1 (st n hn).1).1, (steps12_iff.1 (st n hn).2).1⟩, fun n s hn hs => ?_, fun n s hn hs => ?_, ?_⟩, h.look, ?_⟩
  · obtain ⟨k, hk, rfl, hu, he⟩ := isN_node hn
    obtain ⟨j, hj, rfl, hu', he'⟩ := isN_node hm
    rw [he, he'] at ht
    have e1 := (h.node hk hu).2.1
    have e2 := (h.node hj hu').2.1
    rw [ht, e2] at e1
    have := congrArg Prod.fst e1
    simp only at this; omega
  · simpa using (steps12_iff.1 (st n hn).1).2 s hs
  · simpa using (steps12_iff.1 (st n hn).2).2 s hs
  · rw [h.many]; exact all7_4000 h.look
  · have e1 : usedE G.slots = ((usedE G.slots).map (·.num)).map fun m => (⟨1, (node G.nodes m).ty, m⟩ : Entry) := by
      rw [List.map_map]
      conv => lhs; rw [← List.map_id (usedE G.slots)]
      refine List.map_congr_left fun e he => ?_
      obtain ⟨h1, h2⟩ := List.mem_filter.1 he
      have hs : e.st = 1 := by simpa using h2
      obtain ⟨i, hi, hn, hu, ht⟩ := h.slotNode h1 hs
      show e = _
      simp only [Function.comp]
      rw [hn, node_eq hi, ht, ← hn, ← hs]
    rw [e1]
    refine (h.nums.map _).trans ?_
    rw [List.map_map]
    exact .of_eq rfl
theorem RG.chg {G : PG} (h : RG G) : ChG G := by
  have hN := h.nodes
  refine ⟨hN.pos, hN.last, hN.one, by rw [hN.ty1]; rfl, h.look, fun i hi => ?_, ?_⟩
  · unfold nodeOkG
    cases hu : (node G.nodes ((i : Int) + 1)).used with
    | false =>
      rw [if_neg (by simp)]
      rw [node_eq hi] at hu ⊢
      obtain ⟨a1, a2, a3⟩ := hN.free i hi hu
      rw [a1, a2, a3]; rfl
    | true =>
      have hu' := hu
      rw [node_eq hi] at hu'
      have hn : isN G.nodes ((i : Int) + 1) = true := isN_of hi hu'
      have hf := findL_used h.look (h.usedN hi hu') rfl
      have e1 := hN.right _ hn
      have e2 : steps12 G.nodes ((i : Int) + 1) (node G.nodes ((i : Int) + 1)).plus true = true := steps12_iff.2 ⟨(hN.sorted _ hn).1, fun s hs => by simpa using hN.plus _ s hn hs⟩
      have e3 : steps12 G.nodes ((i : Int) + 1) (node G.nodes ((i : Int) + 1)).less false = true := steps12_iff.2 ⟨(hN.sorted _ hn).2, fun s hs => by simpa using hN.less _ s hn hs⟩
      rw [steps_alike e1 hN.right, steps_alike e1 hN.right, e1, e2, e3]
      rw [node_eq hi]
      simp only at hf
      rw [hf]; simp
  · have := h.ents.length_eq
    rw [entsU, List.length_map, usedIx_len] at this
    rw [← this, ← all7_perm'.length_eq]
theorem checkG_rg {G : PG} : checkG G = true ↔ RG G := (checkG_iff G).trans ⟨chG_rg, RG.chg⟩
theorem checkG_12 {G : PG} (hr : RngG G) (hn : G.slots.length < 2 ^ 62) : checkG G = true ↔ Right12 G := checkG_rg.trans (right12_iff hr hn).symm
end Go.Eng
namespace Go.Eng
open Go Go.RowKit Go.Proofs
set_option maxRecDepth 10000
def cutN (x : Node) : Node := ⟨x.used, x.ty.take 14, x.plus.take 20, x.less.take 20⟩
def cutE (e : Entry) : Entry := ⟨e.st, e.ty.take 14, e.num⟩
/-- What can be gone through of a graph. -/
def ownW (G : PG) : PG := ⟨(G.nodes.take 30).map cutN, (G.slots.take 128).map cutE⟩
theorem min30 (n : Nat) : (if (30 : Int) < (n : Int) then (30 : Int) else (n : Int)) = ((min n 30 : Nat) : Int) := by split <;> omega
theorem min14 (n : Nat) : (if (14 : Int) < (n : Int) then (14 : Int) else (n : Int)) = ((min n 14 : Nat) : Int) := by split <;> omega
theorem min20 (n : Nat) : (if (20 : Int) < (n : Int) then (20 : Int) else (n : Int)) = ((min n 20 : Nat) : Int) := by split <;> omega
theorem min128 (n : Nat) : (if (128 : Int) < (n : Int) then (128 : Int) else (n : Int)) = ((min n 128 : Nat) : Int) := by split <;> omega
theorem Row.cut {α : Type} {enc : α → List Value} {w : World} {a : Option Addr} {n c : Nat} {l : List α} (h : Row enc w a n c l) (k : Nat) : Row enc w a (min n k) c (l.take k) := by
  have hl := h.len
  refine ⟨?_, by have := h.le; omega, h.nil, h.max⟩
  have := h.rd.take (min n k) (by omega)
  have e : l.take (min n k) = l.take k := by rw [hl, ← List.take_take]; rw [List.take_of_length_le (l := l.take k) (by simp; omega)] <;> simp
  rwa [e] at this
section
variable {w : World} {a : Option Addr} {n c : Nat}
theorem k_CloneSteps {l : List Stp} (h : Row encStp w a n c l) (hs : n ≤ 1048576) : Cl Tryz.prog 46 #[.slice a n c] w (Made encStp 2 71 w l) := by
  refine c46 _ _ _ ⟨_, nil_eq tySteps.ht, ?_⟩
  cases a with
  | none =>
    have : l = [] := by
      rcases h.rd.2 with h0 | ⟨p, hp, _⟩
      · exact h0
      · simp at hp
    subst this
    exact ⟨_, _, _, rfl, Own.nil, Below.refl _ _⟩
  | some p =>
    rintro b w1 rfl rfl
    have hB : Below w.heap.size w (w.alloc (.cells #[] 71)) := (Below.refl _ _).alloc (Nat.le_refl _) _
    obtain ⟨a', n', c', w', hrun, ho, hg⟩ := app_own (a := some (Addr.mk w.heap.size 0 none)) (n := 0) (c := 0) (l := ([] : List Stp)) (lo := w.heap.size) (ty := 54) (c' := c) tySteps enStp (Own.new enStp.len w [] (Nat.le_refl _) (Nat.zero_le _)) (by rw [size_alloc]; omega) (h.rd.below hB) (by simp) (by simp only [maxLen]; omega) (by omega)
    exact ⟨_, _, _, _, hrun, _, _, _, rfl, ho, hB.grown hg (by rw [size_alloc]; omega) (fun k hk => by cases hk; exact Nat.le_refl _)⟩
end
section
variable {w : World} {a sa : Option Addr} {n c sn sc : Nat} {G : PG}
set_option maxHeartbeats 1000000
theorem k_wOwn (h : Grf w a n c sa sn sc G) : Cl Tryz.prog 9 #[.agg #[.slice a n c, .slice sa sn sc]] w (fun v w' => ∃ a' n' c' sa' sn' sc', v = .agg #[.slice a' n' c', .slice sa' sn' sc'] ∧ DNodes w.heap.size w' a' n' c' (ownW G).nodes ∧ DEnts w.heap.size w' sa' sn' sc' (ownW G).slots ∧ Below w.heap.size w w') := by
  refine c9 _ _ _ _ _ _ ?_
  obtain ⟨ps, hrow, hps, hpG⟩ := h.nodes.pairs
  obtain ⟨es, hrowE, hes, heG⟩ := h.slots.pairs
  have hpl : ps.length = n := by have := hrow.len; simpa using this.symm
  have hel : es.length = sn := by have := hrowE.len; simpa using this.symm
  rintro _ w1 rfl h1 _ w2 rfl h2 _ w3 rfl h3
  have q1 : w3.heap[w.heap.size]? = some (.cells #[.slice a n c, .slice sa sn sc] 27) := by rw [h3, h2, h1]; exact blk_alloc (blk_alloc (blk_new _))
  have q2 : w3.heap[w1.heap.size]? = some (.cells #[.slice none 0 0, .slice none 0 0] 27) := by rw [h3, h2]; exact blk_alloc (blk_new _)
  have q3 : w3.heap[w2.heap.size]? = some (.cells #[.slice none 0 0, .slice none 0 0] 27) := by rw [h3]; exact blk_new _
  have z1 : w1.heap.size = w.heap.size + 1 := by rw [h1, size_alloc]
  have z2 : w2.heap.size = w1.heap.size + 1 := by rw [h2, size_alloc]
  have B3 : Below w.heap.size w w3 := by rw [h3, h2, h1]; exact ((alloc_below w _).alloc (by rw [size_alloc]; omega) _).alloc (by rw [size_alloc, size_alloc]; omega) _
  clear h1 h2 h3
  have hle := hrow.le; have hleE := hrowE.le
  refine ⟨_, _, _, blk_cell q1 0, _, _, _, blk_cell q1 0, ?_⟩
  rw [min30 n]
  simp only [Int.toNat_natCast]
  refine ⟨by omega, by omega, fun _ W => (Below w.heap.size w W ∧ W.heap[w.heap.size]? = some (.cells #[.slice a n c, .slice sa sn sc] 27) ∧ W.heap[w1.heap.size]? = some (.cells #[.slice none 0 0, .slice none 0 0] 27)) ∧
      ∃ oa on oc, W.heap[w2.heap.size]? = some (.cells #[.slice oa on oc, .slice none 0 0] 27) ∧ DNodes w.heap.size W oa on oc (ownW G).nodes, ?_, ?_⟩
  · have hcut := hrow.cut 30
    rw [← List.map_take] at hcut
    refine ⟨fun i W => (Below w.heap.size w W ∧ W.heap[w.heap.size]? = some (.cells #[.slice a n c, .slice sa sn sc] 27) ∧ W.heap[w1.heap.size]? = some (.cells #[.slice none 0 0, .slice none 0 0] 27)) ∧
      ∃ oa on oc, W.heap[w2.heap.size]? = some (.cells #[.slice oa on oc, .slice none 0 0] 27) ∧ ∃ (k : Nat) (qs : List NP), i = k ∧ k ≤ min n 30 ∧ qs.map (·.2) = ((ps.take 30).take k).map (fun p => cutN p.2) ∧ Own encNode 4 56 w.heap.size W oa on oc (qs.map (·.1)) ∧ ∀ p ∈ qs, NodeSays p.1 p.2 ∧ OwnN w.heap.size W p.1 p.2,
      fun i _ => min n 30 - i.toNat, ⟨⟨B3, q1, q2⟩, _, _, _, q3, 0, [], rfl, by omega, rfl, Own.nil, by simp⟩, ?_⟩
    rintro _ W _ ⟨⟨hB, qb, qb2⟩, oa, on, oc, qo, k, qs, rfl, hk, hsnd, ho, hq⟩
    have hql : qs.length = k := by have := congrArg List.length hsnd; simp at this; omega
    have hon : on = k := by have := ho.len; simp at this; omega
    refine cnd (fun hc => ?_) fun hc => ?_
    · have hkn : k < min n 30 := by simp only [decide_eq_true_eq] at hc; omega
      have hkp : k < (ps.take 30).length := by simp; omega
      have hX := hps _ (List.mem_of_mem_take (List.getElem_mem hkp))
      refine (hcut.below hB).nodeN hkn fun hl => box_node fun w6 s6 B6' => ?_
      have e0 : ((ps.take 30).map (·.1))[k]'hl = (ps.take 30)[k].1 := by simp
      rw [e0] at s6
      generalize hXe : (ps.take 30)[k] = X at s6 hX
      obtain ⟨X, x⟩ := X
      dsimp only at s6 hX
      rintro _ rfl
      have s7 := blk_drew s6
      have B7' := B6'.drew
      clear s6 B6'
      generalize w6.drew = w7 at s7 B7' ⊢
      have B7 := hB.trans (B7'.mono hB.size)
      have l1 := hX.ty.le; have l2 := hX.plus.le; have l3 := hX.less.le
      refine ⟨_, _, _, blk_cell s7 1, _, _, _, blk_cell s7 1, ?_⟩
      rw [min14]
      refine ⟨by omega, by omega, _, _, _, blk_cell s7 2, _, _, _, blk_cell s7 2, ?_⟩
      rw [min20]
      refine ⟨by omega, by omega, _, _, _, blk_cell s7 3, _, _, _, blk_cell s7 3, ?_⟩
      rw [min20]
      simp only [Int.toNat_natCast]
      refine ⟨by omega, by omega, (k_CloneIds ((hX.ty.cut 14).below B7) (by omega)).mono ?_⟩
      rintro _ w8 ⟨a8, n8, c8, rfl, ho8, B8'⟩
      have B8 := B7.trans (B8'.mono B7.size)
      have s8 := blk_below s7 B8' (blk_lt s7)
      refine ⟨_, _, _, rfl, blk_cell s8 3, blk_cell s8 3, blk_cell s8 2, blk_cell s8 2, (k_CloneSteps ((hX.plus.cut 20).below B8) (by omega)).mono ?_⟩
      rintro _ w9 ⟨a9, n9, c9, rfl, ho9, B9'⟩
      have B9 := B8.trans (B9'.mono B8.size)
      have s9 := blk_below s8 B9' (blk_lt s8)
      refine ⟨_, _, _, rfl, blk_cell s9 3, blk_cell s9 3, (k_CloneSteps ((hX.less.cut 20).below B9) (by omega)).mono ?_⟩
      rintro _ w10 ⟨a10, n10, c10, rfl, ho10, B10'⟩
      have B10 := B9.trans (B10'.mono B9.size)
      have s10 := blk_below s9 B10' (blk_lt s9)
      have B710 : Below W.heap.size W w10 := B7'.trans (((B8'.trans (B9'.mono B8'.size)).trans (B10'.mono (Nat.le_trans B8'.size B9'.size))).mono B7'.size)
      have hN10 : OwnN w.heap.size w10 (⟨X.used, ⟨a8, n8, c8⟩, ⟨a9, n9, c9⟩, ⟨a10, n10, c10⟩⟩ : RNode) (cutN x) :=
        ⟨((ho8.below B9').below B10').mono B7.size, (ho9.below B10').mono B8.size, ho10.mono B9.size⟩
      refine ⟨_, _, _, rfl, blk_some s10 (j := 1) (by simp), blk_free s10 1, ?_⟩
      rintro w11 h11
      have s11 : w11.heap[W.heap.size]? = some (.cells #[.bool X.used, .slice a8 n8 c8, .slice X.plus.a X.plus.n X.plus.c, .slice X.less.a X.less.n X.less.c] 56) := by rw [h11]; exact blk_set s10 1 _
      have hN11 : OwnN w.heap.size w11 (⟨X.used, ⟨a8, n8, c8⟩, ⟨a9, n9, c9⟩, ⟨a10, n10, c10⟩⟩ : RNode) (cutN x) := by rw [h11]; exact hN10.farB s10 (by decide) (by decide) _
      have B11 : Below W.heap.size W w11 := by rw [h11]; exact B710.setCell (Nat.le_refl _) _
      refine ⟨blk_some s11 (j := 2) (by simp), blk_free s11 2, ?_⟩
      rintro w12 h12
      have s12 : w12.heap[W.heap.size]? = some (.cells #[.bool X.used, .slice a8 n8 c8, .slice a9 n9 c9, .slice X.less.a X.less.n X.less.c] 56) := by rw [h12]; exact blk_set s11 2 _
      have hN12 : OwnN w.heap.size w12 (⟨X.used, ⟨a8, n8, c8⟩, ⟨a9, n9, c9⟩, ⟨a10, n10, c10⟩⟩ : RNode) (cutN x) := by rw [h12]; exact hN11.farB s11 (by decide) (by decide) _
      have B12 : Below W.heap.size W w12 := by rw [h12]; exact B11.setCell (Nat.le_refl _) _
      refine ⟨blk_some s12 (j := 3) (by simp), blk_free s12 3, ?_⟩
      rintro w13 h13
      have s13 : w13.heap[W.heap.size]? = some (.cells #[.bool X.used, .slice a8 n8 c8, .slice a9 n9 c9, .slice a10 n10 c10] 56) := by rw [h13]; exact blk_set s12 3 _
      have hN13 : OwnN w.heap.size w13 (⟨X.used, ⟨a8, n8, c8⟩, ⟨a9, n9, c9⟩, ⟨a10, n10, c10⟩⟩ : RNode) (cutN x) := by rw [h13]; exact hN12.farB s12 (by decide) (by decide) _
      have B13 : Below W.heap.size W w13 := by rw [h13]; exact B12.setCell (Nat.le_refl _) _
      clear h11 h12 h13 s11 s12 hN10 hN11 hN12 B11 B12 s10 s9 s8 s7
      have hBW := hB.trans (B13.mono hB.size)
      have qo13 := blk_below qo B13 (blk_lt qo)
      have ho13 := ho.below B13
      refine ⟨_, _, _, blk_cell qo13 0, _, _, _, _, _, _, _, _, _, _, blk_cell s13 0, blk_cell s13 1, blk_cell s13 2, blk_cell s13 3, ?_⟩
      refine app1 tyNodes enNode ho13 hBW.size (⟨X.used, ⟨a8, n8, c8⟩, ⟨a9, n9, c9⟩, ⟨a10, n10, c10⟩⟩ : RNode) (by simp only [maxLen]; omega) (by omega) fun a' c' w15 ho15 hg15 => ?_
      have qo15 := ho13.keepBlk hg15 qo13 (.inl (by decide))
      have qb15 := ho13.keepBlk hg15 (blk_below qb B13 (blk_lt qb)) (.inl (by decide))
      have qb215 := ho13.keepBlk hg15 (blk_below qb2 B13 (blk_lt qb2)) (.inl (by decide))
      have B15 := hBW.trans (ho13.belowOf hg15 hBW.size)
      refine ⟨blk_some qo15 (by simp), blk_free qo15 _, ?_⟩
      rintro w16 h16
      rw [nx (by omega)]
      refine ⟨⟨⟨by rw [h16]; exact B15.setCell (by show w.heap.size ≤ w2.heap.size; omega) _, by rw [h16]; exact blk_far qb15 (by show w.heap.size ≠ w2.heap.size; omega) _, by rw [h16]; exact blk_far qb215 (by show w1.heap.size ≠ w2.heap.size; omega) _⟩, _, _, _, by rw [h16]; exact blk_set qo15 0 _, k + 1, qs ++ [((⟨X.used, ⟨a8, n8, c8⟩, ⟨a9, n9, c9⟩, ⟨a10, n10, c10⟩⟩ : RNode), cutN x)], rfl, by omega, ?_, ?_, fun p hp => ?_⟩, dec hkn⟩
      · rw [List.map_append, hsnd, take_one hkp, List.map_append, hXe]; rfl
      · rw [h16, List.map_append]; exact ho15.far qo15 (by decide) _
      · rw [h16]
        rcases List.mem_append.1 hp with hp | hp
        · exact ⟨(hq p hp).1, (((hq p hp).2.below B13).keepBy ho13 hg15 (by decide) (by decide)).farB qo15 (by decide) (by decide) _⟩
        · simp only [List.mem_singleton] at hp
          subst hp
          refine ⟨⟨hX.used, fun y hy => hX.rng.1 y (List.mem_of_mem_take hy), fun s hs => hX.rng.2 s ?_⟩, (hN13.keepBy ho13 hg15 (by decide) (by decide)).farB qo15 (by decide) (by decide) _⟩
          rcases List.mem_append.1 hs with hs | hs
          · exact List.mem_append.2 (.inl (List.mem_of_mem_take hs))
          · exact List.mem_append.2 (.inr (List.mem_of_mem_take hs))
    · have hkn : ¬ k < min n 30 := by simp only [decide_eq_false_iff_not] at hc; omega
      refine ⟨⟨hB, qb, qb2⟩, oa, on, oc, qo, qs, ?_, ho, hq⟩
      rw [hsnd, List.take_of_length_le (by simp; omega), ownW, ← hpG, ← List.map_take, List.map_map]; rfl
  · rintro _ W _ ⟨⟨hB, qb, qb2⟩, oa, on, oc, qo, hD⟩
    refine ⟨_, _, _, blk_cell qb 1, _, _, _, blk_cell qb 1, ?_⟩
    rw [min128]
    simp only [Int.toNat_natCast]
    have hcut := hrowE.cut 128
    rw [← List.map_take] at hcut
    refine ⟨by omega, by omega, fun i W => (Below w.heap.size w W ∧ W.heap[w.heap.size]? = some (.cells #[.slice a n c, .slice sa sn sc] 27) ∧ W.heap[w1.heap.size]? = some (.cells #[.slice none 0 0, .slice none 0 0] 27)) ∧ DNodes w.heap.size W oa on oc (ownW G).nodes ∧
      ∃ ea en ec, W.heap[w2.heap.size]? = some (.cells #[.slice oa on oc, .slice ea en ec] 27) ∧ ∃ (k : Nat) (qs : List EP), i = k ∧ k ≤ min sn 128 ∧ qs.map (·.2) = ((es.take 128).take k).map (fun p => cutE p.2) ∧ Own encEnt 3 94 w.heap.size W ea en ec (qs.map (·.1)) ∧ ∀ p ∈ qs, EntSays p.1 p.2 ∧ OwnTy w.heap.size W p.1.ty p.2.ty,
      fun i _ => min sn 128 - i.toNat, ⟨⟨hB, qb, qb2⟩, hD, _, _, _, qo, 0, [], rfl, by omega, rfl, Own.nil, by simp⟩, ?_⟩
    clear hB qb qb2 qo hD W
    rintro _ W _ ⟨⟨hB, qb, qb2⟩, hD, ea, en, ec, qo, k, qs, rfl, hk, hsnd, ho, hq⟩
    have hql : qs.length = k := by have := congrArg List.length hsnd; simp at this; omega
    have hon : en = k := by have := ho.len; simp at this; omega
    refine cnd (fun hc => ?_) fun hc => ?_
    · have hkn : k < min sn 128 := by simp only [decide_eq_true_eq] at hc; omega
      have hkp : k < (es.take 128).length := by simp; omega
      have hX := hes _ (List.mem_of_mem_take (List.getElem_mem hkp))
      refine (hcut.below hB).entN hkn fun hl => box_ent fun w6 s6 B6' => ?_
      have e0 : ((es.take 128).map (·.1))[k]'hl = (es.take 128)[k].1 := by simp
      rw [e0] at s6
      generalize hXe : (es.take 128)[k] = X at s6 hX
      obtain ⟨X, x⟩ := X
      dsimp only at s6 hX
      have B6 := hB.trans (B6'.mono hB.size)
      have l1 := hX.ty.le
      refine ⟨_, _, _, blk_cell s6 1, _, _, _, blk_cell s6 1, ?_⟩
      rw [min14]
      simp only [Int.toNat_natCast]
      refine ⟨by omega, by omega, (k_CloneIds ((hX.ty.cut 14).below B6) (by omega)).mono ?_⟩
      rintro _ w8 ⟨a8, n8, c8, rfl, ho8, B8'⟩
      have B8 := B6.trans (B8'.mono B6.size)
      have s8 := blk_below s6 B8' (blk_lt s6)
      refine ⟨_, _, _, rfl, blk_some s8 (j := 1) (by simp), blk_free s8 1, ?_⟩
      rintro w11 h11
      have s11 : w11.heap[W.heap.size]? = some (.cells #[.int .i64 X.st, .slice a8 n8 c8, .int .i64 X.num] 94) := by rw [h11]; exact blk_set s8 1 _
      have hN11 : OwnTy w.heap.size w11 (⟨a8, n8, c8⟩ : Hd) (x.ty.take 14) := by rw [h11]; exact (ho8.mono B6.size).far s8 (by decide) _
      have B11 : Below W.heap.size W w11 := by rw [h11]; exact (B6'.trans (B8'.mono B6'.size)).setCell (Nat.le_refl _) _
      clear h11 s8 s6
      have hBW := hB.trans (B11.mono hB.size)
      have qo11 := blk_below qo B11 (blk_lt qo)
      have ho11 := ho.below B11
      refine ⟨_, _, _, blk_cell qo11 1, _, _, _, _, _, blk_cell s11 0, blk_cell s11 1, blk_cell s11 2, ?_⟩
      refine app1 tyEnts enEnt ho11 hBW.size (⟨X.st, ⟨a8, n8, c8⟩, X.num⟩ : REnt) (by simp only [maxLen]; omega) (by omega) fun a' c' w15 ho15 hg15 => ?_
      have qo15 := ho11.keepBlk hg15 qo11 (.inl (by decide))
      have qb15 := ho11.keepBlk hg15 (blk_below qb B11 (blk_lt qb)) (.inl (by decide))
      have qb215 := ho11.keepBlk hg15 (blk_below qb2 B11 (blk_lt qb2)) (.inl (by decide))
      have B15 := hBW.trans (ho11.belowOf hg15 hBW.size)
      refine ⟨blk_some qo15 (j := 1) (by simp), blk_free qo15 1, ?_⟩
      rintro w16 h16
      rw [nx (by omega)]
      refine ⟨⟨⟨by rw [h16]; exact B15.setCell (by show w.heap.size ≤ w2.heap.size; omega) _, by rw [h16]; exact blk_far qb15 (by show w.heap.size ≠ w2.heap.size; omega) _, by rw [h16]; exact blk_far qb215 (by show w1.heap.size ≠ w2.heap.size; omega) _⟩, ?_, _, _, _, by rw [h16]; exact blk_set qo15 1 _, k + 1, qs ++ [((⟨X.st, ⟨a8, n8, c8⟩, X.num⟩ : REnt), cutE x)], rfl, by omega, ?_, ?_, fun p hp => ?_⟩, dec hkn⟩
      · rw [h16]
        refine DNodes.farB ?_ qo15 (by decide) (by decide) (by decide) _
        obtain ⟨q9, e1, e2, e3⟩ := hD.below B11
        exact ⟨q9, e1, ho11.keepOwn hg15 e2 (by decide), fun p hp => ⟨(e3 p hp).1, (e3 p hp).2.keepBy ho11 hg15 (by decide) (by decide)⟩⟩
      · rw [List.map_append, hsnd, take_one hkp, List.map_append, hXe]; rfl
      · rw [h16, List.map_append]; exact ho15.far qo15 (by decide) _
      · rw [h16]
        rcases List.mem_append.1 hp with hp | hp
        · exact ⟨(hq p hp).1, (ho11.keepOwn hg15 ((hq p hp).2.below B11) (by decide)).far qo15 (by decide) _⟩
        · simp only [List.mem_singleton] at hp
          subst hp
          exact ⟨⟨hX.st, hX.num, fun y hy => hX.rng.1 y (List.mem_of_mem_take hy), hX.rng.2⟩, (ho11.keepOwn hg15 hN11 (by decide)).far qo15 (by decide) _⟩
    · have hkn : ¬ k < min sn 128 := by simp only [decide_eq_false_iff_not] at hc; omega
      refine ⟨_, _, _, _, _, _, blk_cell qo 0, blk_cell qo 1, put_back2 qb2 fun W' hW' hq' => ?_⟩
      have qm := blk_set qb2 0 (.slice oa on oc)
      have hE : DEnts w.heap.size W ea en ec (ownW G).slots := by
        refine ⟨qs, ?_, ho, hq⟩
        rw [hsnd, List.take_of_length_le (by simp; omega), ownW, ← heG, ← List.map_take, List.map_map]; rfl
      refine ⟨_, _, _, _, _, _, rfl, ?_, ?_, ?_⟩
      · rw [hW']; exact (hD.farB qb2 (by decide) (by decide) (by decide) _).farB qm (by decide) (by decide) (by decide) _
      · rw [hW']; exact (hE.farB qb2 (by decide) (by decide) _).farB qm (by decide) (by decide) _
      · rw [hW']; exact (hB.setCell (by show w.heap.size ≤ w1.heap.size; omega) _).setCell (by show w.heap.size ≤ w1.heap.size; omega) _
end
end Go.Eng
namespace Go.Eng
open Go Go.RowKit Go.Proofs
set_option maxRecDepth 10000
/-- Just these nodes, and the lookup says them. -/
def SaysP (G : PG) (l : List Node) : Prop := G.nodes = l ∧ (l.length = 0 → G.slots.length = 0) ∧ (l.length ≠ 0 → Right7 G.slots ∧ all7 Entry.st Entry.ty G.slots = ents12 l)
section
variable {w : World} {a b sa sb : Option Addr} {n c m d sn sc sm sd : Nat} {G H : PG} {l l' : List Entry}
theorem k_wSame1 {r r' : REnt} {e e' : Entry} (h : IsEnt w r e) (h' : IsEnt w r' e') : Cl Tryz.prog 68 #[.agg (encEnt r).toArray, .agg (encEnt r').toArray] w (Gives w (.bool (decide (e = e')))) := by
  refine c68 r.st r.ty.a r.ty.n r.ty.c r.num r'.st r'.ty.a r'.ty.n r'.ty.c r'.num ?_
  rintro _ w1 rfl h1 _ w2 rfl h2
  have q1 : w2.heap[w.heap.size]? = some (.cells #[.int .i64 r.st, .slice r.ty.a r.ty.n r.ty.c, .int .i64 r.num] 94) := by rw [h2, h1]; exact blk_alloc (blk_new _)
  have q2 : w2.heap[w1.heap.size]? = some (.cells #[.int .i64 r'.st, .slice r'.ty.a r'.ty.n r'.ty.c, .int .i64 r'.num] 94) := by rw [h2]; exact blk_new _
  have B : Below w.heap.size w w2 := by rw [h2, h1]; exact (alloc_below w _).alloc (by rw [size_alloc]; omega) _
  have no : e ≠ e' → ∀ W, Below w.heap.size w W → Gives w (.bool (decide (e = e'))) (.bool false) W := fun hne W hB => ⟨by simp [hne], hB⟩
  refine ⟨_, blk_cell q1 0, _, blk_cell q2 0, cnd (fun g1 => ⟨_, blk_cell q1 2, _, blk_cell q2 2, cnd (fun g2 => ?_) fun g2 => no ?_ _ B⟩) fun g1 => no ?_ _ B⟩
  · refine ⟨_, _, _, blk_cell q1 1, _, _, _, blk_cell q2 1, (k_EqIds (h.ty.below B) (h'.ty.below B)).tells fun w3 hq => ⟨_, rfl, ?_, B.trans (hq.below _)⟩⟩
    have e1 : e.st = e'.st := by rw [← h.st, ← h'.st]; simpa using g1
    have e2 : e.num = e'.num := by rw [← h.num, ← h'.num]; simpa using g2
    by_cases ht : e.ty = e'.ty
    · rw [ent_beq.2 ⟨e1, ht, e2⟩]; simp
    · have : ¬ e = e' := fun h0 => ht (by rw [h0])
      simp [this, ht]
  · intro h0
    have : r.num = r'.num := by rw [h.num, h'.num, h0]
    rw [this] at g2; simp at g2
  · intro h0
    have : r.st = r'.st := by rw [h.st, h'.st, h0]
    rw [this] at g1; simp at g1
theorem k_EqFEnts (h1 : Ents w a n c l) (h2 : Ents w b m d l') : Cl Tryz.prog 67 #[.slice a n c, .slice b m d, .func (.func 68) #[] #[]] w (Gives w (.bool (decide (l = l')))) := by
  refine c67 _ _ _ _ _ _ 68 [] ?_
  obtain ⟨rs, hrow, hall⟩ := h1
  obtain ⟨rs', hrow', hall'⟩ := h2
  have el := hall.1; have el' := hall'.1
  obtain rfl : n = l.length := by have := hrow.len; omega
  obtain rfl : m = l'.length := by have := hrow'.len; omega
  have e3 := hrow.n63
  have no : ∀ W, Below w.heap.size w W → l ≠ l' → Gives w (.bool (decide (l = l'))) (.bool false) W := fun W hB h => ⟨by simp [h], hB⟩
  refine cnd (fun hc => no _ (Below.refl _ _) (by rintro rfl; simp at hc)) fun hc => ?_
  have hnm : l.length = l'.length := by simp at hc; omega
  refine ⟨fun _ i w' => Below w.heap.size w w' ∧ ∃ k : Nat, i = k ∧ k ≤ l.length ∧ l.take k = l'.take k, fun _ i _ => l.length - i.toNat, ⟨Below.refl _ _, 0, rfl, by omega, rfl⟩, ?_⟩
  rintro _ w1 s _ ⟨hB, k, rfl, hk, ht⟩
  refine cnd (fun hc => ?_) fun hc => ?_
  · have hkn : k < l.length := by simpa using hc
    have hkn' : k < l'.length := by omega
    refine (hrow.below hB).entN hkn fun hl => box_ent fun w3 s3 B3' => ?_
    have B3 := hB.trans (B3'.mono hB.size)
    refine (hrow'.below B3).entN hkn' fun hl' => box_ent fun w5 s5 B5' => ?_
    have B5 := B3.trans (B5'.mono B3.size)
    have s3' := blk_below s3 B5' (blk_lt s3)
    have x := hall.2 k hl hkn
    have y := hall'.2 k hl' hkn'
    refine ⟨_, _, _, _, _, blk_cell s3' 0, blk_cell s3' 1, blk_cell s3' 2, _, _, _, _, _, blk_cell s5 0, blk_cell s5 1, blk_cell s5 2, (k_wSame1 (x.below B5) (y.below B5)).gives fun w6 B6' => ⟨_, rfl, ?_⟩⟩
    have B6 := B5.trans (B6'.mono B5.size)
    refine cnd (fun g => no _ B6 ?_) fun g => ?_
    · rintro rfl; simp at g
    · have hxy : l[k] = l'[k] := by simpa using g
      rw [nx (by omega)]
      exact ⟨⟨B6, k + 1, rfl, by omega, by rw [take_one hkn, take_one hkn', ht, hxy]⟩, dec hkn⟩
  · have hkn : ¬ k < l.length := by simpa using hc
    rw [take_all (by omega), take_all (by omega)] at ht
    exact ⟨by simp [ht], hB⟩
theorem k_wSame (h1 : Grf w a n c sa sn sc G) (h2 : Grf w b m d sb sm sd H) : Cl Tryz.prog 20 #[.agg #[.slice a n c, .slice sa sn sc], .agg #[.slice b m d, .slice sb sm sd]] w (Asks w (G = H)) := by
  refine c20 _ _ _ _ _ _ _ _ _ _ _ _ ?_
  rintro _ w1 rfl g1 _ w2 rfl g2
  have q1 : w2.heap[w.heap.size]? = some (.cells #[.slice a n c, .slice sa sn sc] 27) := by rw [g2, g1]; exact blk_alloc (blk_new _)
  have q2 : w2.heap[w1.heap.size]? = some (.cells #[.slice b m d, .slice sb sm sd] 27) := by rw [g2]; exact blk_new _
  have B2 : Below w.heap.size w w2 := by rw [g2, g1]; exact (alloc_below w _).alloc (by rw [size_alloc]; omega) _
  clear g1 g2
  refine ⟨_, _, _, blk_cell q1 0, _, _, _, blk_cell q2 0, (k_r12Same (h1.nodes.below B2) (h2.nodes.below B2)).gives fun w3 B3' => ⟨_, rfl, ?_⟩⟩
  have B3 := B2.trans (B3'.mono B2.size)
  refine cnd (fun g => ?_) fun g => asks_no ?_ B3
  · have hN : G.nodes = H.nodes := by simpa using g
    refine ⟨_, _, _, blk_cell (blk_below q1 B3' (blk_lt q1)) 1, _, _, _, blk_cell (blk_below q2 B3' (blk_lt q2)) 1, (k_EqFEnts (h1.slots.below B3) (h2.slots.below B3)).gives fun w4 B4' => ⟨_, rfl, _, rfl, ?_, B3.trans (B4'.mono B3.size)⟩⟩
    rw [decide_eq_true_iff]
    obtain ⟨Gn, Gs⟩ := G
    obtain ⟨Hn, Hs⟩ := H
    dsimp only at hN ⊢
    subst hN
    simp
  · rintro rfl; simp at g
theorem k_wSays (h1 : Grf w a n c sa sn sc G) {L : List Node} (h2 : Nodes w b m d L) (hs : G.slots.length ≤ 1000000) (hL : L.length ≤ 1000000) : Cl Tryz.prog 19 #[.agg #[.slice a n c, .slice sa sn sc], .slice b m d] w (Asks w (SaysP G L)) := by
  refine c19 _ _ _ _ _ _ _ _ _ ?_
  have hm := h2.len
  have hsn := h1.slots.len
  rintro _ w1 rfl g1
  have q1 : w1.heap[w.heap.size]? = some (.cells #[.slice a n c, .slice sa sn sc] 27) := by rw [g1]; exact blk_new _
  have B1 : Below w.heap.size w w1 := by rw [g1]; exact alloc_below _ _
  clear g1
  refine ⟨_, _, _, blk_cell q1 0, (k_r12Same (h1.nodes.below B1) (h2.below B1)).gives fun w2 B2' => ⟨_, rfl, ?_⟩⟩
  have B2 := B1.trans (B2'.mono B1.size)
  have q2 := blk_below q1 B2' (blk_lt q1)
  refine cnd (fun g => asks_no ?_ B2) fun g => ?_
  · rintro ⟨h0, _⟩; rw [h0] at g; simp at g
  have hN : G.nodes = L := by simpa using g
  clear g
  refine cnd (fun g => ?_) fun g => ?_
  · have h0 : L.length = 0 := by simp at g; omega
    refine ⟨_, _, _, blk_cell q2 1, _, rfl, ?_, B2⟩
    rw [beq_iff_eq]
    exact ⟨fun h => ⟨hN, fun _ => by omega, fun hn => absurd h0 hn⟩, fun h => by have := h.2.1 h0; omega⟩
  · have h0 : L.length ≠ 0 := by
      intro h; rw [hm, h] at g; simp at g
    refine ⟨_, _, _, blk_cell q2 1, (k_r07Right (h1.slots.below B2) (by omega)).mono ?_⟩
    rintro _ w3 ⟨b3, rfl, hb3, B3'⟩
    have B3 := B2.trans (B3'.mono B2.size)
    have q3 := blk_below q2 B3' (blk_lt q2)
    refine ⟨_, rfl, cnd (fun g2 => ?_) fun g2 => asks_no ?_ B3⟩
    · refine ⟨_, _, _, blk_cell q3 1, (k_r07All (h1.slots.below B3) (by omega)).mono ?_⟩
      rintro _ w5 ⟨a5, n5, c5, rfl, ho5, B5'⟩
      have B5 := B3.trans (B5'.mono B3.size)
      refine ⟨_, _, _, rfl, (k_r12Entries (h2.below B5) (by omega)).mono ?_⟩
      rintro _ w6 ⟨a6, n6, c6, rfl, ho6, B6'⟩
      have B6 := B5.trans (B6'.mono B5.size)
      refine ⟨_, _, _, rfl, (k_r07Same (ho5.ents.below B6') ho6.ents).gives fun w7 B7' => ⟨_, rfl, _, rfl, ?_, B6.trans (B7'.mono B6.size)⟩⟩
      rw [decide_eq_true_iff]
      exact ⟨fun h => ⟨hN, fun h9 => absurd h9 h0, fun _ => ⟨hb3.1 g2, h⟩⟩, fun h => (h.2.2 h0).2⟩
    · rintro ⟨_, _, h⟩; rw [hb3.2 (h h0).1] at g2; cases g2
end
end Go.Eng
namespace Go.Eng
open Go Go.Proofs
set_option exponentiation.threshold 300
theorem perm_of_mem {α : Type} [DecidableEq α] {l l' : List α} (h : l.Nodup) (h' : l'.Nodup) (he : ∀ x, x ∈ l ↔ x ∈ l') : l.Perm l' :=
  (pigeon_perm h (fun x hx => (he x).1 hx) (pigeon h' fun x hx => (he x).2 hx)).symm
theorem mem_entsN {l : List Node} {e : Entry} : e ∈ entsU l ↔ ∃ n, isN l n = true ∧ e = ⟨1, (node l n).ty, n⟩ := by
  rw [mem_entsU]
  constructor
  · rintro ⟨k, hk, hu, rfl⟩; exact ⟨(k : Int) + 1, isN_of hk hu, by rw [node_eq hk]⟩
  · rintro ⟨n, hn, rfl⟩
    obtain ⟨k, hk, rfl, hu, he⟩ := isN_node hn
    exact ⟨k, hk, hu, by rw [he]⟩
theorem entsU_nodup (l : List Node) : (entsU l).Nodup := by
  unfold entsU
  rw [List.nodup_iff_pairwise_ne, List.pairwise_map]
  refine (usedIx_nodup l).imp fun hab he => hab ?_
  have := congrArg Entry.num he
  simp only [entN] at this; omega
theorem find_alike {G : PG} (h : RG G) (t : List Int) : findL G.slots t = (findN G.nodes t, decide (0 < findN G.nodes t)) := by
  by_cases hf : 0 < findN G.nodes t
  · obtain ⟨k, hk, hkl, hu, ht⟩ := findN_pos hf
    have := findL_used h.look (h.usedN hkl hu) rfl
    simp only [ht] at this
    rw [this, hk, decide_eq_true (by omega : 0 < ((k : Nat) : Int) + 1)]
  · have h0 : findN G.nodes t = 0 := by
      unfold findN at hf ⊢
      split <;> rename_i hi
      · rw [hi] at hf; simp only at hf; omega
      · rfl
    have hno : (findL G.slots t).2 = false := by
      cases h2 : (findL G.slots t).2 with
      | false => rfl
      | true =>
        exfalso
        obtain ⟨i, hi, _, hu, ht⟩ := h.chg.find h2
        obtain ⟨j, e, _⟩ := findN_self hi hu
        rw [ht] at e; omega
    rw [h0]
    unfold findL at hno ⊢
    rw [h.look] at hno ⊢
    simp only [Bool.true_eq_false, if_false] at hno ⊢
    split
    · simp
    · rename_i hp; rw [if_neg hp] at hno; simp at hno
theorem findN_none {l : List Node} {t : List Int} (h : ¬ 0 < findN l t) {n : Int} (hn : isN l n = true) : (node l n).ty ≠ t := by
  intro ht
  obtain ⟨k, hk, rfl, hu, he⟩ := isN_node hn
  obtain ⟨j, e, _⟩ := findN_self hk hu
  rw [he] at ht
  rw [ht] at e; omega
theorem setNode_length {l : List Node} {k : Nat} (hk : k ≤ l.length) (x : Node) : (setNode l k x).length = max l.length (k + 1) := by
  unfold setNode; split
  · rw [List.length_set]; omega
  · simp; omega
theorem node_setNode {l : List Node} {k : Nat} (hk : k ≤ l.length) (x : Node) {n : Int} (hn : 1 ≤ n) : node (setNode l k x) n = if n = (k : Int) + 1 then x else node l n := by
  obtain ⟨j, rfl⟩ : ∃ j : Nat, n = (j : Int) + 1 := ⟨(n - 1).toNat, by omega⟩
  have e1 : ((j : Int) + 1 - 1).toNat = j := by omega
  have e2 : ((j : Int) + 1 = (k : Int) + 1) ↔ j = k := by omega
  simp only [node, e1, e2, List.getD_eq_getElem?_getD]
  unfold setNode
  split
  · rw [List.getElem?_set]
    by_cases hjk : k = j
    · subst hjk; simp [*]
    · rw [if_neg hjk, if_neg (Ne.symm hjk)]
  · have : k = l.length := by omega
    subst this
    by_cases hjk : j = l.length
    · subst hjk; simp
    · rw [if_neg hjk]
      rcases Nat.lt_or_ge j l.length with hl | hl
      · rw [List.getElem?_append_left hl]
      · rw [List.getElem?_append_right hl, List.getElem?_eq_none hl, List.getElem?_eq_none (by simp; omega)]
theorem isN_setNode {l : List Node} {k : Nat} (hk : k ≤ l.length) (x : Node) (n : Int) : isN (setNode l k x) n = if n = (k : Int) + 1 then x.used else isN l n := by
  by_cases hn : 1 ≤ n
  · unfold isN
    rw [node_setNode hk x hn, setNode_length hk]
    by_cases he : n = (k : Int) + 1
    · simp only [if_pos he]
      have h2 : n ≤ ((max l.length (k + 1) : Nat) : Int) := by omega
      simp [hn, h2]
    · simp only [if_neg he]
      by_cases hl : n ≤ (l.length : Int)
      · have h2 : n ≤ ((max l.length (k + 1) : Nat) : Int) := by omega
        simp [hl, h2]
      · have h2 : ¬ n ≤ ((max l.length (k + 1) : Nat) : Int) := by omega
        simp [hl, h2]
  · have he : ¬ n = (k : Int) + 1 := by omega
    simp [isN, hn, he]
theorem isN_freeIx (l : List Node) : isN l ((freeIx l : Int) + 1) = false := by rw [isN_free (Nat.le_refl _)]; simp
theorem StpP.keep {l l' : List Node} {n : Int} {s : Stp} (h : StpP l n s) (h1 : node l' n = node l n) (h2 : node l' s.2 = node l s.2) (h3 : isN l' s.2 = isN l s.2) : StpP l' n s := by
  unfold StpP at h ⊢; rw [h1, h2, h3]; exact h
theorem StpL.keep {l l' : List Node} {n : Int} {s : Stp} (h : StpL l n s) (h1 : node l' n = node l n) (h2 : node l' s.2 = node l s.2) (h3 : isN l' s.2 = isN l s.2) : StpL l' n s := by
  unfold StpL at h ⊢; rw [h1, h2, h3]; exact h
theorem isN_ge {l : List Node} {n : Int} (h : isN l n = true) : 1 ≤ n := by
  simp only [isN, Bool.and_eq_true, decide_eq_true_eq] at h; exact h.1.1
theorem entsU_setNode {l : List Node} {k : Nat} (hk : k ≤ l.length) (hfree : isN l ((k : Int) + 1) = false) {t : List Int} {p q : List Stp} : (entsU (setNode l k ⟨true, t, p, q⟩)).Perm (⟨1, t, (k : Int) + 1⟩ :: entsU l) := by
  refine perm_of_mem (entsU_nodup _) (List.nodup_cons.2 ⟨fun hm => ?_, entsU_nodup _⟩) fun e => ?_
  · obtain ⟨n, hn, he⟩ := mem_entsN.1 hm
    have := congrArg Entry.num he
    simp only at this
    rw [← this, hfree] at hn; cases hn
  · rw [List.mem_cons, mem_entsN, mem_entsN]
    constructor
    · rintro ⟨n, hn, rfl⟩
      rw [node_setNode hk _ (isN_ge hn)]
      rw [isN_setNode hk] at hn
      by_cases he : n = (k : Int) + 1
      · left; simp [he]
      · right; rw [if_neg he] at hn; exact ⟨n, hn, by rw [if_neg he]⟩
    · rintro (rfl | ⟨n, hn, rfl⟩)
      · refine ⟨(k : Int) + 1, by rw [isN_setNode hk, if_pos rfl], ?_⟩
        rw [node_setNode hk _ (by omega), if_pos rfl]
      · have he : n ≠ (k : Int) + 1 := by rintro rfl; rw [hfree] at hn; cases hn
        exact ⟨n, by rw [isN_setNode hk, if_neg he]; exact hn, by rw [node_setNode hk _ (isN_ge hn), if_neg he]⟩
theorem manyN_entsU (l : List Node) : manyN l = (entsU l).length := by rw [entsU, List.length_map, usedIx_len]
theorem N12.put {l : List Node} (h : N12 l) {t : List Int} (ht : right2 t = true) (hf : ¬ 0 < findN l t) (hm : manyN l ≠ 4000) : N12 (setNode l (freeIx l) ⟨true, t, [], []⟩) := by
  have hk := freeIx_le l
  have hfree := isN_freeIx l
  generalize freeIx l = k at *
  have hne : ∀ n, isN l n = true → n ≠ (k : Int) + 1 := by rintro n hn rfl; rw [hfree] at hn; cases hn
  have hnode : ∀ n, isN l n = true → node (setNode l k ⟨true, t, [], []⟩) n = node l n := fun n hn => by rw [node_setNode hk _ (isN_ge hn), if_neg (hne n hn)]
  have his : ∀ n, isN l n = true → isN (setNode l k ⟨true, t, [], []⟩) n = true := fun n hn => by rw [isN_setNode hk, if_neg (hne n hn)]; exact hn
  have hnew : node (setNode l k ⟨true, t, [], []⟩) ((k : Int) + 1) = ⟨true, t, [], []⟩ := by rw [node_setNode hk _ (by omega), if_pos rfl]
  have hor : ∀ n, isN (setNode l k ⟨true, t, [], []⟩) n = true → n = (k : Int) + 1 ∨ isN l n = true := by
    intro n hn
    rw [isN_setNode hk] at hn
    by_cases he : n = (k : Int) + 1
    · exact .inl he
    · rw [if_neg he] at hn; exact .inr hn
  have hlen := setNode_length hk (⟨true, t, [], []⟩ : Node)
  have hpos := h.pos
  refine ⟨by omega, ?_, his 1 h.one, by rw [hnode 1 h.one]; exact h.ty1, fun n hn => ?_, fun n m hn hm' he => ?_, fun i hi hu => ?_, fun n hn => ?_, fun n s hn hs => ?_, fun n s hn hs => ?_, ?_⟩
  · rw [hlen, isN_setNode hk]
    by_cases he : ((max l.length (k + 1) : Nat) : Int) = (k : Int) + 1
    · rw [if_pos he]
    · rw [if_neg he, show max l.length (k + 1) = l.length by omega]; exact h.last
  · rcases hor n hn with rfl | hn
    · rw [hnew]; exact ht
    · rw [hnode n hn]; exact h.right n hn
  · rcases hor n hn with rfl | hn
    · rcases hor m hm' with rfl | hm'
      · rfl
      · rw [hnew, hnode m hm'] at he
        exact absurd he.symm (findN_none hf hm')
    · rcases hor m hm' with rfl | hm'
      · rw [hnew, hnode n hn] at he
        exact absurd he (findN_none hf hn)
      · rw [hnode n hn, hnode m hm'] at he
        exact h.uniq n m hn hm' he
  · have e1 : node (setNode l k ⟨true, t, [], []⟩) ((i : Int) + 1) = (setNode l k ⟨true, t, [], []⟩)[i] := node_eq hi
    rw [node_setNode hk _ (by omega)] at e1
    by_cases he : (i : Int) + 1 = (k : Int) + 1
    · rw [if_pos he] at e1; rw [← e1] at hu; cases hu
    · rw [if_neg he] at e1
      have hil : i < l.length := by omega
      rw [node_eq hil] at e1
      rw [← e1] at hu ⊢
      exact h.free i hil hu
  · rcases hor n hn with rfl | hn
    · rw [hnew]; exact ⟨.nil, .nil⟩
    · rw [hnode n hn]; exact h.sorted n hn
  · rcases hor n hn with rfl | hn
    · rw [hnew] at hs; cases hs
    · rw [hnode n hn] at hs
      have := h.plus n s hn hs
      exact this.keep (hnode n hn) (hnode _ this.1) (by rw [his _ this.1, this.1])
  · rcases hor n hn with rfl | hn
    · rw [hnew] at hs; cases hs
    · rw [hnode n hn] at hs
      have := h.less n s hn hs
      exact this.keep (hnode n hn) (hnode _ this.1) (by rw [his _ this.1, this.1])
  · have := (entsU_setNode hk hfree (t := t) (p := []) (q := [])).length_eq
    have h2 := h.many
    rw [manyN_entsU, this, List.length_cons, ← manyN_entsU]; omega
theorem all7_many {G : PG} (h : RG G) : (all7 Entry.st Entry.ty G.slots).length = manyN G.nodes := by
  rw [all7_perm'.length_eq, h.ents.length_eq, ← manyN_entsU]
/-- A graph of which a node has a type: by the code and by the document. -/
theorem of_alike {G : PG} (h : RG G) {t : List Int} (hr : Rng t) :
    (ofG G t).1.nodes = (of12 G.nodes t).1 ∧ (ofG G t).2 = (of12 G.nodes t).2 ∧ ((ofG G t).1.slots.length ≤ max G.slots.length 16004 ∧ (ofG G t).1.nodes.length ≤ G.nodes.length + 1) ∧ ((ofG G t).2.2 ≠ 0 → (ofG G t).1 = ⟨[], []⟩) ∧
    ((ofG G t).2.2 = 0 → RG (ofG G t).1 ∧ isN (ofG G t).1.nodes (ofG G t).2.1 = true ∧ (node (ofG G t).1.nodes (ofG G t).2.1).ty = t ∧ ∀ n, isN G.nodes n = true → isN (ofG G t).1.nodes n = true ∧ node (ofG G t).1.nodes n = node G.nodes n) := by
  have hra := right_alike hr
  have hfa := find_alike h t
  unfold ofG of12
  rw [← hra, hfa, ents12_len]
  cases h2 : right2 t with
  | false => simp
  | true =>
    by_cases hf : 0 < findN G.nodes t
    · simp only [hf, decide_true, Bool.true_eq_false, if_true, if_false]
      obtain ⟨k, hk, hkl, hu, ht⟩ := findN_pos hf
      refine ⟨trivial, trivial, ⟨by omega, by omega⟩, fun h => absurd rfl h, fun _ => ⟨h, ?_, ?_, fun n hn => ⟨hn, trivial⟩⟩⟩
      · rw [hk]; exact isN_of hkl hu
      · rw [hk, node_eq hkl]; exact ht
    · have hpl : place G.slots t < 0 := by
        rcases Int.lt_or_le (place G.slots t) 0 with h0 | h0
        · exact h0
        · exfalso
          have h3 : (findL G.slots t).2 = true := by simp [findL, h.look, show ¬ place G.slots t < 0 by omega]
          rw [hfa] at h3; simp [hf] at h3
      have hk := freeIx_le G.nodes
      by_cases hm : manyN G.nodes = 4000
      · have hpe : putL G.slots t ((freeIx G.nodes : Int) + 1) = ([], 6) := by
          simp only [putL, h.look, h2, Bool.true_eq_false, if_false, show ¬ ((freeIx G.nodes : Int) + 1) < 0 by omega, show ¬ 0 ≤ place G.slots t by omega, all7_many h, hm, if_true]
        simp [hf, hm, hpe]
      · obtain ⟨p1, p2, p3⟩ := put_ok (num := (freeIx G.nodes : Int) + 1) h.look h2 (by omega) hpl (by rw [all7_many h]; exact hm)
        have hlen : (putL G.slots t ((freeIx G.nodes : Int) + 1)).1.length ≤ max G.slots.length 16004 := by
          have e : putL G.slots t ((freeIx G.nodes : Int) + 1) = (laidL (all7 Entry.st Entry.ty G.slots ++ [⟨1, t, (freeIx G.nodes : Int) + 1⟩]) (manyOf ((all7 Entry.st Entry.ty G.slots).length + 1)), 0) := by
            simp only [putL, h.look, h2, Bool.true_eq_false, if_false, show ¬ ((freeIx G.nodes : Int) + 1) < 0 by omega, show ¬ 0 ≤ place G.slots t by omega, all7_many h, hm]
          rw [e]
          show (laidL _ _).length ≤ _
          rw [laidL_len]
          have := all7_4000 h.look
          have h2 := manyOf_le ((all7 Entry.st Entry.ty G.slots).length + 1)
          have := all7_many h
          omega
        have hnl : (setNode G.nodes (freeIx G.nodes) ⟨true, t, [], []⟩).length ≤ G.nodes.length + 1 := by rw [setNode_length hk]; omega
        simp only [hf, hm, p1, decide_false, Bool.true_eq_false, Bool.false_eq_true, if_false, ne_eq, not_true_eq_false]
        refine ⟨trivial, trivial, ⟨hlen, hnl⟩, False.elim, fun _ => ⟨⟨h.nodes.put h2 hf hm, p2, ?_⟩, ?_, ?_, fun n hn => ?_⟩⟩
        · refine p3.trans ((h.ents.cons _).trans (entsU_setNode hk (isN_freeIx _)).symm)
        · rw [isN_setNode hk, if_pos rfl]
        · rw [node_setNode hk _ (by omega), if_pos rfl]
        · have he : n ≠ (freeIx G.nodes : Int) + 1 := by rintro rfl; rw [isN_freeIx] at hn; cases hn
          exact ⟨by rw [isN_setNode hk, if_neg he]; exact hn, by rw [node_setNode hk _ (isN_ge hn), if_neg he]⟩
/-- A graph that may be says its nodes. -/
theorem RG.says {G : PG} (h : RG G) (hr : RngN G.nodes) (hn : G.slots.length < 2 ^ 62) : SaysP G G.nodes := by
  refine ⟨rfl, fun h0 => by have := h.nodes.pos; omega, fun _ => ⟨(right7_iff (fun e he hs => ?_) hn).2 h.look, (all7_ents h.look).2 h.ents⟩⟩
  have hm : e ∈ usedE G.slots := List.mem_filter.2 ⟨he, by simp [hs]⟩
  obtain ⟨n, _, rfl⟩ := mem_entsN.1 (h.ents.mem_iff.1 hm)
  exact hr.node n
theorem says_nil : SaysP ⟨[], []⟩ [] := ⟨rfl, fun _ => rfl, fun h => absurd rfl h⟩
end Go.Eng
namespace Go.Eng
open Go Go.Proofs
set_option exponentiation.threshold 300
theorem keys_mem {l : List Stp} {x : Int} : x ∈ keys l ↔ ∃ y, (x, y) ∈ l := by
  simp only [keys, List.mem_map]
  constructor
  · rintro ⟨⟨a, b⟩, h, rfl⟩; exact ⟨b, h⟩
  · rintro ⟨y, h⟩; exact ⟨_, h, rfl⟩
theorem withS_mem {l : List Stp} {s x : Stp} : x ∈ withS l s ↔ x = s ∨ (x ∈ l ∧ x.1 ≠ s.1) := by
  simp only [withS, List.mem_append, List.mem_cons, List.mem_filter, decide_eq_true_eq]
  constructor
  · rintro (⟨h1, h2⟩ | rfl | ⟨h1, h2⟩)
    · exact .inr ⟨h1, by omega⟩
    · exact .inl rfl
    · exact .inr ⟨h1, by omega⟩
  · rintro (rfl | ⟨h1, h2⟩)
    · exact .inr (.inl rfl)
    · rcases Int.lt_or_gt_of_ne h2 with h | h
      · exact .inl ⟨h1, h⟩
      · exact .inr (.inr ⟨h1, h⟩)
theorem keys_withS (l : List Stp) (s : Stp) : keys (withS l s) = with3 (keys l) s.1 := by
  simp only [keys, withS, with3, List.map_append, List.map_cons, List.filter_map]
  rfl
theorem at2_cons_lt {y x : Int} {l : List Int} (h : y < x) : at2 (y :: l) x = at2 l x + 1 := by simp [at2, h]
theorem at2_cons_ge {y x : Int} {l : List Int} (h : ¬ y < x) : at2 (y :: l) x = 0 := by simp [at2, h]
theorem putS_withS : ∀ {l : List Stp}, (keys l).Pairwise (· < ·) → ∀ {id to : Int}, (id ∈ keys l → (id, to) ∈ l) → putS l id to = withS l (id, to)
  | [], _, id, to, _ => by simp [putS, withS, keys, at2]
  | (a, b) :: l, h, id, to, hin => by
    have hk : keys ((a, b) :: l) = a :: keys l := rfl
    rw [hk] at h
    obtain ⟨h1, h2⟩ := List.pairwise_cons.1 h
    by_cases hlt : a < id
    · have hin' : id ∈ keys l → (id, to) ∈ l := by
        intro hm
        have := hin (by rw [hk]; exact List.mem_cons_of_mem _ hm)
        rcases List.mem_cons.1 this with he | he
        · have := congrArg Prod.fst he; simp only at this; omega
        · exact he
      have ih := putS_withS h2 hin'
      have hid : (id ∈ keys ((a, b) :: l)) ↔ id ∈ keys l := by rw [hk, List.mem_cons]; constructor
                                                               · rintro (rfl | h); · omega
                                                                 · exact h
                                                               · exact .inr
      have e1 : putS ((a, b) :: l) id to = (a, b) :: putS l id to := by
        unfold putS
        by_cases hm : id ∈ keys l
        · rw [if_pos (hid.2 hm), if_pos hm]
        · rw [if_neg (fun h => hm (hid.1 h)), if_neg hm, hk, at2_cons_lt hlt]; rfl
      have e2 : withS ((a, b) :: l) (id, to) = (a, b) :: withS l (id, to) := by
        have hn : ¬ id < a := by omega
        simp only [withS, List.filter_cons, hlt, hn, decide_true, decide_false, if_true, Bool.false_eq_true, if_false, List.cons_append]
      rw [e1, e2, ih]
    · have f1 : l.filter (fun x => decide (x.1 < id)) = [] := by
        rw [List.filter_eq_nil_iff]; intro z hz
        have := h1 z.1 (keys_mem.2 ⟨z.2, hz⟩); simp; omega
      have f2 : l.filter (fun x => decide (id < x.1)) = l := by
        rw [List.filter_eq_self]; intro z hz
        have := h1 z.1 (keys_mem.2 ⟨z.2, hz⟩); simp; omega
      by_cases he : a = id
      · subst he
        have hm : (a, to) ∈ (a, b) :: l := hin (by rw [hk]; exact List.mem_cons_self)
        have hb : to = b := by
          rcases List.mem_cons.1 hm with he | he
          · exact congrArg Prod.snd he
          · have := h1 a (keys_mem.2 ⟨to, he⟩); omega
        subst hb
        have : a ∈ keys ((a, to) :: l) := by rw [hk]; exact List.mem_cons_self
        unfold putS; rw [if_pos this]
        simp [withS, List.filter_cons, f1, f2]
      · have hgt : id < a := by omega
        have hno : id ∉ keys ((a, b) :: l) := by
          rw [hk, List.mem_cons]; rintro (rfl | hm)
          · exact he rfl
          · have := h1 id hm; omega
        unfold putS; rw [if_neg hno, hk, at2_cons_ge hlt]
        simp [withS, List.filter_cons, f1, f2, hlt, hgt]
theorem node_set {l : List Node} {n : Int} {x : Node} {m : Int} (h1 : 1 ≤ n) (h2 : n ≤ (l.length : Int)) (hm : 1 ≤ m) : node (l.set (n - 1).toNat x) m = if m = n then x else node l m := by
  unfold node
  simp only [List.getD_eq_getElem?_getD]
  rw [List.getElem?_set]
  by_cases h : m = n
  · subst h
    have : (m - 1).toNat < l.length := by omega
    rw [if_pos rfl, if_pos this, if_pos rfl]; rfl
  · have : ¬ (n - 1).toNat = (m - 1).toNat := by omega
    rw [if_neg this, if_neg h]
theorem nodes_ext {l l' : List Node} (h : l.length = l'.length) (hn : ∀ k : Nat, k < l.length → node l ((k : Int) + 1) = node l' ((k : Int) + 1)) : l = l' := by
  refine List.ext_getElem h fun k h1 h2 => ?_
  have := hn k h1
  rwa [node_eq h1, node_eq h2] at this
/-- A step by one id more leads from lo to hi. -/
def lnk (l : List Node) (lo hi id : Int) : List Node := setPlus12 (setLess12 l hi (id, lo)) lo (id, hi)
theorem lnk_length (l : List Node) (lo hi id : Int) : (lnk l lo hi id).length = l.length := by simp [lnk, setPlus12, setLess12]
theorem isN_le {l : List Node} {n : Int} (h : isN l n = true) : 1 ≤ n ∧ n ≤ (l.length : Int) := by
  simp only [isN, Bool.and_eq_true, decide_eq_true_eq] at h; exact h.1
section
variable {l : List Node} {lo hi id : Int}
theorem node_lnk (h1 : isN l lo = true) (h2 : isN l hi = true) (hne : lo ≠ hi) {m : Int} (hm : 1 ≤ m) : node (lnk l lo hi id) m =
    if m = lo then ⟨(node l lo).used, (node l lo).ty, withS (node l lo).plus (id, hi), (node l lo).less⟩
    else if m = hi then ⟨(node l hi).used, (node l hi).ty, (node l hi).plus, withS (node l hi).less (id, lo)⟩ else node l m := by
  have b1 := isN_le h1; have b2 := isN_le h2
  unfold lnk setPlus12 setLess12
  rw [node_set b1.1 (by rw [List.length_set]; exact b1.2) hm]
  by_cases e1 : m = lo
  · rw [if_pos e1, if_pos e1, node_set b2.1 b2.2 b1.1, if_neg hne]
  · rw [if_neg e1, if_neg e1, node_set b2.1 b2.2 hm]
theorem lnk_used (h1 : isN l lo = true) (h2 : isN l hi = true) (hne : lo ≠ hi) {m : Int} (hm : 1 ≤ m) : (node (lnk l lo hi id) m).used = (node l m).used ∧ (node (lnk l lo hi id) m).ty = (node l m).ty := by
  rw [node_lnk h1 h2 hne hm]
  split
  · rename_i e; subst e; exact ⟨rfl, rfl⟩
  · split
    · rename_i e; subst e; exact ⟨rfl, rfl⟩
    · exact ⟨rfl, rfl⟩
theorem isN_lnk (h1 : isN l lo = true) (h2 : isN l hi = true) (hne : lo ≠ hi) (m : Int) : isN (lnk l lo hi id) m = isN l m := by
  unfold isN
  rw [lnk_length]
  by_cases hm : 1 ≤ m
  · rw [(lnk_used h1 h2 hne hm).1]
  · simp [hm]
theorem entsU_lnk (h1 : isN l lo = true) (h2 : isN l hi = true) (hne : lo ≠ hi) : entsU (lnk l lo hi id) = entsU l := by
  unfold entsU usedIx
  rw [lnk_length]
  have e : (fun i : Nat => (node (lnk l lo hi id) ((i : Int) + 1)).used) = fun i : Nat => (node l ((i : Int) + 1)).used := funext fun i => (lnk_used h1 h2 hne (by omega)).1
  rw [e]
  refine List.map_congr_left fun i _ => ?_
  simp only [entN, (lnk_used (m := (i : Int) + 1) h1 h2 hne (by omega)).2]
/-- Where two nodes' types differ by an id, each's row has no step by it elsewhere. -/
theorem N12.plusKey (h : N12 l) (h1 : isN l lo = true) (h2 : isN l hi = true) (ht : (node l hi).ty = with3 (node l lo).ty id) (hk : id ∈ keys (node l lo).plus) : (id, hi) ∈ (node l lo).plus := by
  obtain ⟨y, hy⟩ := keys_mem.1 hk
  have := h.plus lo _ h1 hy
  have e := h.uniq y hi this.1 h2 (by rw [ht]; exact this.2.2.2)
  rw [← e]; exact hy
theorem N12.lessKey (h : N12 l) (h1 : isN l lo = true) (h2 : isN l hi = true) (ht : (node l lo).ty = without3 (node l hi).ty id) (hk : id ∈ keys (node l hi).less) : (id, lo) ∈ (node l hi).less := by
  obtain ⟨y, hy⟩ := keys_mem.1 hk
  have := h.less hi _ h2 hy
  have e := h.uniq y lo this.1 h1 (by rw [ht]; exact this.2.2.2)
  rw [← e]; exact hy
theorem key_one {r : List Stp} (h : (keys r).Pairwise (· < ·)) {x y z : Int} (h1 : (x, y) ∈ r) (h2 : (x, z) ∈ r) : y = z := by
  have hnd : (r.map (·.1)).Nodup := (show (keys r).Nodup from h.imp fun hab => by omega)
  exact congrArg Prod.snd (nodup_map_inj hnd h1 h2 rfl)
theorem withS_old {r : List Stp} (h : (keys r).Pairwise (· < ·)) {s : Stp} (hk : s.1 ∈ keys r → s ∈ r) {x : Stp} (hx : x ∈ r) : x ∈ withS r s := by
  rw [withS_mem]
  by_cases he : x.1 = s.1
  · left
    have hs := hk (keys_mem.2 ⟨x.2, by rw [← he]; exact hx⟩)
    refine Prod.ext he (key_one h (x := s.1) (y := x.2) (z := s.2) ?_ hs)
    rw [← he]; exact hx
  · exact .inr ⟨hx, he⟩
theorem N12.link (h : N12 l) (h1 : isN l lo = true) (h2 : isN l hi = true) (hid : id ∉ (node l lo).ty) (ht : (node l hi).ty = with3 (node l lo).ty id) : N12 (lnk l lo hi id) := by
  have hne : lo ≠ hi := by
    rintro rfl
    exact hid (by rw [ht]; exact with3_mem.2 (.inl rfl))
  have hsrt : (node l lo).ty.Pairwise (· < ·) := (right2_iff.1 (h.right lo h1)).1
  have ht' : (node l lo).ty = without3 (node l hi).ty id := by rw [ht, without_with hsrt hid]
  have his := fun m => isN_lnk (id := id) h1 h2 hne m
  have hty : ∀ m, isN l m = true → (node (lnk l lo hi id) m).ty = (node l m).ty := fun m hm => (lnk_used h1 h2 hne (isN_ge hm)).2
  have hkp := h.plusKey h1 h2 ht
  have hkl := h.lessKey h1 h2 ht'
  have hP : ∀ m s, isN l m = true → (s ∈ (node (lnk l lo hi id) m).plus ↔ s ∈ (node l m).plus ∨ (m = lo ∧ s = (id, hi))) := by
    intro m s hm
    rw [node_lnk h1 h2 hne (isN_ge hm)]
    by_cases e : m = lo
    · rw [if_pos e]; subst e
      constructor
      · intro hs
        rcases withS_mem.1 hs with rfl | hs
        · exact .inr ⟨rfl, rfl⟩
        · exact .inl hs.1
      · rintro (hs | ⟨_, rfl⟩)
        · exact withS_old (h.sorted _ h1).1 hkp hs
        · exact withS_mem.2 (.inl rfl)
    · rw [if_neg e]
      have : ∀ x : Node, x.plus = (node l m).plus → (s ∈ x.plus ↔ s ∈ (node l m).plus ∨ m = lo ∧ s = (id, hi)) := by
        intro x hx; rw [hx]
        exact ⟨.inl, fun h => h.elim (fun h => h) fun h => absurd h.1 e⟩
      apply this
      split
      · rename_i e2; subst e2; rfl
      · rfl
  have hL : ∀ m s, isN l m = true → (s ∈ (node (lnk l lo hi id) m).less ↔ s ∈ (node l m).less ∨ (m = hi ∧ s = (id, lo))) := by
    intro m s hm
    rw [node_lnk h1 h2 hne (isN_ge hm)]
    by_cases e : m = lo
    · rw [if_pos e]; subst e
      exact ⟨.inl, fun h => h.elim (fun h => h) fun h => absurd h.1 hne⟩
    · rw [if_neg e]
      by_cases e2 : m = hi
      · rw [if_pos e2]; subst e2
        constructor
        · intro hs
          rcases withS_mem.1 hs with rfl | hs
          · exact .inr ⟨rfl, rfl⟩
          · exact .inl hs.1
        · rintro (hs | ⟨_, rfl⟩)
          · exact withS_old (h.sorted _ h2).2 hkl hs
          · exact withS_mem.2 (.inl rfl)
      · rw [if_neg e2]
        exact ⟨.inl, fun h => h.elim (fun h => h) fun h => absurd h.1 e2⟩
  have hlen := lnk_length l lo hi id
  refine ⟨by rw [hlen]; exact h.pos, by rw [hlen, his]; exact h.last, by rw [his]; exact h.one, by rw [hty 1 h.one]; exact h.ty1, fun n hn => ?_, fun n m hn hm he => ?_, fun i hi' hu => ?_, fun n hn => ?_, fun n s hn hs => ?_, fun n s hn hs => ?_, ?_⟩
  · rw [his] at hn; rw [hty n hn]; exact h.right n hn
  · rw [his] at hn hm; rw [hty n hn, hty m hm] at he; exact h.uniq n m hn hm he
  · have hil : i < l.length := by omega
    have e1 : node (lnk l lo hi id) ((i : Int) + 1) = (lnk l lo hi id)[i] := node_eq hi'
    have hnu : isN l ((i : Int) + 1) = false := by
      rw [← his, isN_eq hi']; exact hu
    rw [node_lnk h1 h2 hne (by omega), if_neg (by rintro e; rw [e, h1] at hnu; cases hnu), if_neg (by rintro e; rw [e, h2] at hnu; cases hnu), node_eq hil] at e1
    rw [← e1] at hu ⊢
    exact h.free i hil hu
  · rw [his] at hn
    rw [node_lnk h1 h2 hne (isN_ge hn)]
    have hs := h.sorted n hn
    split
    · rename_i e; subst e
      exact ⟨by rw [keys_withS]; exact with3_sorted hs.1 _, hs.2⟩
    · split
      · rename_i e; subst e
        exact ⟨hs.1, by rw [keys_withS]; exact with3_sorted hs.2 _⟩
      · exact hs
  · rw [his] at hn
    rcases (hP n s hn).1 hs with hs | ⟨rfl, rfl⟩
    · obtain ⟨a1, a2, a3, a4⟩ := h.plus n s hn hs
      exact ⟨by rw [his]; exact a1, by rw [hty n hn]; exact a2, (hL s.2 _ a1).2 (.inl a3), by rw [hty n hn, hty _ a1]; exact a4⟩
    · exact ⟨by rw [his]; exact h2, by rw [hty _ h1]; exact hid, (hL hi _ h2).2 (.inr ⟨rfl, rfl⟩), by rw [hty _ h1, hty _ h2]; exact ht⟩
  · rw [his] at hn
    rcases (hL n s hn).1 hs with hs | ⟨rfl, rfl⟩
    · obtain ⟨a1, a2, a3, a4⟩ := h.less n s hn hs
      exact ⟨by rw [his]; exact a1, by rw [hty n hn]; exact a2, (hP s.2 _ a1).2 (.inl a3), by rw [hty n hn, hty _ a1]; exact a4⟩
    · exact ⟨by rw [his]; exact h1, by rw [hty _ h2, ht]; exact with3_mem.2 (.inl rfl), (hP lo _ h1).2 (.inr ⟨rfl, rfl⟩), by rw [hty _ h1, hty _ h2]; exact ht'⟩
  · rw [manyN_entsU, entsU_lnk h1 h2 hne, ← manyN_entsU]; exact h.many
/-- What the code does, both ways. -/
theorem addPL_lnk (h : N12 l) (h1 : isN l lo = true) (h2 : isN l hi = true) (hid : id ∉ (node l lo).ty) (ht : (node l hi).ty = with3 (node l lo).ty id) :
    addLess (addPlus l lo id hi) hi id lo = lnk l lo hi id ∧ addPlus (addLess l hi id lo) lo id hi = lnk l lo hi id := by
  have hne : lo ≠ hi := by
    rintro rfl
    exact hid (by rw [ht]; exact with3_mem.2 (.inl rfl))
  have hsrt : (node l lo).ty.Pairwise (· < ·) := (right2_iff.1 (h.right lo h1)).1
  have ht' : (node l lo).ty = without3 (node l hi).ty id := by rw [ht, without_with hsrt hid]
  have hp := putS_withS (h.sorted _ h1).1 (h.plusKey h1 h2 ht)
  have hl := putS_withS (h.sorted _ h2).2 (h.lessKey h1 h2 ht')
  have b1 := isN_le h1; have b2 := isN_le h2
  constructor
  · refine nodes_ext (by simp [addLess, addPlus, lnk_length]) fun k hk => ?_
    have k1 : (1 : Int) ≤ (k : Int) + 1 := by omega
    rw [node_lnk h1 h2 hne k1]
    unfold addLess
    rw [node_set b2.1 (by simp [addPlus]; exact b2.2) k1]
    unfold addPlus
    rw [node_set b1.1 b1.2 k1, node_set b1.1 b1.2 b2.1, if_neg (Ne.symm hne), hp, hl]
    by_cases e : (k : Int) + 1 = hi
    · rw [if_pos e, if_neg (by omega), if_pos e]
    · rw [if_neg e, if_neg e]
  · refine nodes_ext (by simp [addLess, addPlus, lnk_length]) fun k hk => ?_
    have k1 : (1 : Int) ≤ (k : Int) + 1 := by omega
    rw [node_lnk h1 h2 hne k1]
    unfold addPlus
    rw [node_set b1.1 (by simp [addLess]; exact b1.2) k1]
    unfold addLess
    rw [node_set b2.1 b2.2 k1, node_set b2.1 b2.2 b1.1, if_neg hne, hp, hl]
end
end Go.Eng
