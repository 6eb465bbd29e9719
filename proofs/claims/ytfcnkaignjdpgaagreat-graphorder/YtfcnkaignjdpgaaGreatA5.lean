/- Part 5 of the proof of GraphOrderSaid. What is proved: what a call of each function leaves. Conditions: those that each theorem names. -/
import Derived.Test.YtfcnkaignjdpgaaGreatA4
set_option linter.unusedVariables false
set_option linter.unusedSimpArgs false
set_option linter.unusedSectionVars false
namespace Go.Eng
open Go Go.RowKit Go.Proofs
set_option maxRecDepth 10000
def freeAt (l : List Entry) (t : List Int) (k : Nat) : Bool := (slot l (probe (hashT t) l.length k)).st == 0
/-- An entry is laid into the first free slot of its type's turns. -/
def layL (l : List Entry) (x : Entry) : List Entry :=
  match (List.range l.length).find? (freeAt l x.ty) with
  | some k => l.set (probe (hashT x.ty) l.length k) x
  | none => l
theorem layL_len (l : List Entry) (x : Entry) : (layL l x).length = l.length := by
  unfold layL; split <;> simp
theorem ownFrom_own {α β : Type} {enc : α → List Value} {k : Nat} {e : TypeId} {lo B : Nat} {a : Option Addr} {n c : Nat} {l : List α} : OwnFrom B fun (_ : β) W => Own enc k e lo W a n c l := by
  intro s W W' row h hg hr
  exact h.keep fun g cs _ _ hgg => ownFrom_blk (β := Unit) () W W' row hgg hg hr
theorem ownFrom_grown {β : Type} {B : Nat} {w : World} {r0 : Option Nat} (hw : w.heap.size ≤ B) : OwnFrom B fun (_ : β) W => w.grownBy W r0 := by
  intro s W W' row h hg hr
  refine ⟨hg.os.trans h.os, hg.tape.trans h.tape, hg.output.trans h.output, Nat.le_trans h.size hg.size, fun b hb hne => ?_⟩
  refine (hg.block b (by have := h.size; omega) ?_).trans (h.block b hb hne)
  rintro rfl
  have := (hr b rfl).1; omega
section
variable {w : World} {a : Option Addr} {n c lo : Nat} {qs : List EP} {x : EP}
theorem k_llaid1 {c0 : Nat} (hc0 : w.heap[c0]? = some (.cells #[.slice a n c] 25)) (ho : Own encEnt 3 94 lo w a n c (qs.map (·.1))) (hlo : lo ≤ w.heap.size) (hqs : ∀ p ∈ qs, EntSays p.1 p.2) (hx : EntSays x.1 x.2) (hxt : Row encId w x.1.ty.a x.1.ty.n x.1.ty.c x.2.ty) (hn : n ≤ 1048576) :
    Cl Tryz.prog 154 #[.agg (encEnt x.1).toArray, .pointer (some ⟨c0, 0, none⟩)] w (fun v w' => v = .tuple #[] ∧ ∃ qs' : List EP, qs'.map (·.2) = layL (qs.map (·.2)) x.2 ∧ Own encEnt 3 94 lo w' a n c (qs'.map (·.1)) ∧ (∀ p ∈ qs', p ∈ qs ∨ p = x) ∧ w.grownBy w' (a.map (·.block))) := by
  refine c154 x.1.st x.1.ty.a x.1.ty.n x.1.ty.c x.1.num _ ?_
  obtain rfl : n = qs.length := by have := ho.len; simpa using this
  rintro _ w1 rfl h1
  have q1 : w1.heap[w.heap.size]? = some (.cells #[.int .i64 x.1.st, .slice x.1.ty.a x.1.ty.n x.1.ty.c, .int .i64 x.1.num] 94) := by rw [h1]; exact blk_new _
  have B1 : Below w.heap.size w w1 := by rw [h1]; exact alloc_below _ _
  have z1 : w1.heap.size = w.heap.size + 1 := by rw [h1, size_alloc]
  clear h1
  refine ⟨_, _, _, blk_cell (blk_below hc0 B1 (blk_lt hc0)) 0, _, _, _, blk_cell q1 1, ?_⟩
  refine c143 _ _ _ _ _ _ ?_
  rintro _ w5 rfl h5 _ w6 rfl h6
  have z5 : w5.heap.size = w1.heap.size + 1 := by rw [h5, size_alloc]
  have z6 : w6.heap.size = w5.heap.size + 1 := by rw [h6, size_alloc]
  have r4 : w6.heap[w1.heap.size]? = some (.cells #[.slice a qs.length c] 25) := by rw [h6, h5]; exact blk_alloc (blk_new _)
  have r5 : w6.heap[w5.heap.size]? = some (.cells #[.slice x.1.ty.a x.1.ty.n x.1.ty.c] 33) := by rw [h6]; exact blk_new _
  have B16 : Below w1.heap.size w1 w6 := by rw [h6, h5]; exact (alloc_below w1 _).alloc (by rw [size_alloc]; omega) _
  have B6 : Below w.heap.size w w6 := B1.trans (B16.mono B1.size)
  have r1 := blk_below q1 B16 (blk_lt q1)
  have r0 := blk_below hc0 B6 (blk_lt hc0)
  have ho6 := ho.below B6
  clear h5 h6 B16 q1
  have hseq := seqs_lturns1 (S := fun k => k < w.heap.size ∨ k = w1.heap.size) (blk_cell r5 0) (hxt.below B6) hx.rng.1 (blk_cell r4 0) (ho.row.below B6) hn (.inr rfl) (fun hne p hp => .inl (ho.row.block_lt enEnt (by decide) hne p hp)) (fun k hk => by omega)
  generalize hrs : qs.map (·.1) = rs at hseq
  have hrl : rs.length = qs.length := by rw [← hrs]; simp
  have hxl : (turnsV rs (hashT x.2.ty)).length = qs.length := by simp [turnsV, hrl]
  have hxg : ∀ k (hk : k < (turnsV rs (hashT x.2.ty)).length), (turnsV rs (hashT x.2.ty))[k] = turnV rs (probe (hashT x.2.ty) qs.length k) := by intro k hk; simp [turnsV, hrl]
  have hgr : ∀ i (hi : i < qs.length), rs[i]'(by omega) = qs[i].1 := by intro i hi; subst hrs; simp
  have hsl : ∀ i (hi : i < qs.length), slot (qs.map (·.2)) i = qs[i].2 := by intro i hi; rw [slot_eq (by simpa using hi)]; simp
  refine ⟨_, [_, _], rfl, turnsV rs (hashT x.2.ty), KS fun k => k < w.heap.size ∨ k = w1.heap.size,
    fun pre W => (∀ v ∈ pre, ∀ i, i < qs.length → v = turnV rs i → (slot (qs.map (·.2)) i).st ≠ 0) ∧ Below w6.heap.size w6 W,
    fun e pre W => match e with
      | some _ => False
      | none => ∃ q i, (((pre = q ++ [turnV rs i] ∧ i < qs.length ∧ (∀ v ∈ q, ∀ j, j < qs.length → v = turnV rs j → (slot (qs.map (·.2)) j).st ≠ 0) ∧ (slot (qs.map (·.2)) i).st = 0) ∧
          Own encEnt 3 94 lo W a qs.length c ((qs.set i x).map (·.1))) ∧ w6.grownBy W (a.map (·.block))),
    ⟨?_, hseq, ?_, keepOk_ks (fun k hk => by omega), ?_, ?_, ⟨by simp, Below.refl _ _⟩⟩, ?_, ?_, ?_, trivial⟩
  · exact ent_of Tryz.func162 (by kernel_rfl) rfl
  · intro vs hvs
    obtain ⟨k, _, rfl⟩ := List.mem_map.1 hvs
    exact ⟨_, _, _, _, _, _, rfl⟩
  · exact ownFrom_const.and (ownFrom_below (Nat.le_refl _) (Nat.le_refl _))
  · intro e s W W' row hI hg hrw
    cases e with
    | some _ => exact hI
    | none =>
      obtain ⟨q, i, ⟨i1, i2⟩, i3⟩ := hI
      exact ⟨q, i, ⟨i1, ownFrom_own (β := Unit) () W W' row i2 hg hrw⟩, ownFrom_grown (β := Unit) (Nat.le_refl _) () W W' row i3 hg hrw⟩
  · -- a round
    rintro pre W e e2 e3a e3n e3c e4 he ⟨hpass, hB⟩
    obtain ⟨k, hk, hek⟩ := List.mem_iff_getElem.1 he
    rw [hxg k hk] at hek
    have hi : probe (hashT x.2.ty) qs.length k < qs.length := probe_lt (by omega)
    generalize hI : probe (hashT x.2.ty) qs.length k = i at hek hi
    have hir : i < rs.length := by omega
    rw [turnV_eq hir] at hek
    have hek' : (i : Int) = e ∧ rs[i].st = e2 ∧ (rs[i].ty.a = e3a ∧ rs[i].ty.n = e3n ∧ rs[i].ty.c = e3c) ∧ rs[i].num = e4 := by simpa using hek
    obtain ⟨rfl, rfl, ⟨rfl, rfl, rfl⟩, rfl⟩ := hek'
    have hval : ([.int .i64 (i : Int), .agg #[.int .i64 rs[i].st, .slice rs[i].ty.a rs[i].ty.n rs[i].ty.c, .int .i64 rs[i].num]] : List Value) = turnV rs i := (turnV_eq hir).symm
    rw [hval]
    have hst : rs[i].st = (slot (qs.map (·.2)) i).st := by rw [hgr i hi, hsl i hi]; exact (hqs _ (List.getElem_mem hi)).st
    have hWs : w6.heap.size ≤ W.heap.size := hB.size
    refine box_ent fun w8 s8 B8 => ?_
    refine ⟨keepsFrom_below B8, KS.of_below B8 (fun k hk => by omega), ⟨hpass, hB.trans (B8.mono hB.size)⟩, ?_⟩
    rintro pre2 w9 hnc hlen ⟨hpass2, hB9⟩
    have s9 := hnc.blk s8
    refine ⟨_, blk_cell s9 0, cnd (fun hc => ?_) fun hc => ?_⟩
    · have h0 : (slot (qs.map (·.2)) i).st = 0 := by rw [← hst]; simpa using hc
      have t1 := blk_below r1 hB9 (blk_lt r1)
      obtain ⟨gb, ha, hgl, hcells, hput, hgrw⟩ := (ho6.below hB9).put enEnt (i := i) hi x.1
      have c0' := hcells 0 (by decide)
      rw [Addr.add_zero'] at c0'
      refine ⟨_, _, _, blk_cell (blk_below r0 hB9 (blk_lt r0)) 0, _, _, _, _, _, blk_cell t1 0, blk_cell t1 1, blk_cell t1 2, _, ha, by omega, by omega, ?_⟩
      rw [Int.toNat_natCast]
      refine ⟨c0'.1, c0'.2, (hcells 1 (by decide)).1, (hcells 1 (by decide)).2, (hcells 2 (by decide)).1, (hcells 2 (by decide)).2, ?_⟩
      rintro w10 h10
      have h10' : w10 = wrs w9 (Addr.add ⟨gb, 0, none⟩ (i * 3)) 0 (encEnt x.1) := h10
      subst h10'
      have hgb : (a.map (·.block)) = some gb := by rw [ha]; rfl
      refine ⟨⟨hgrw.size, fun b o _ hb ho => (hgrw.block b (blk_lt hb) ?_).trans hb⟩, pre2, i, ⟨⟨rfl, hi, hpass2, h0⟩, ?_⟩, ?_⟩
      · intro heq
        cases heq
        rcases (ho6.below hB9).2.2.2 with ⟨h1, _⟩ | ⟨g', cs, h1, _, h2, _⟩
        · rw [ha] at h1; cases h1
        · rw [ha] at h1; cases h1; rw [hb] at h2; cases h2; simp [Obj.isCells] at ho
      · rw [List.map_set, hrs]; subst hrs; exact hput
      · rw [hgb]; exact grown_from hB9 hgrw
    · have h0 : (slot (qs.map (·.2)) i).st ≠ 0 := by rw [← hst]; simpa using hc
      refine ⟨KeepsFrom.refl _ _, KS.refl _ _, ?_, hB9⟩
      intro v hv j hj hvj
      rcases List.mem_append.1 hv with hv | hv
      · exact hpass2 v hv j hj hvj
      · simp only [List.mem_singleton] at hv
        subst hv
        obtain rfl := turnV_inj hvj
        exact h0
  · -- the end
    rintro D W hD ⟨hpass, hB⟩ hd
    refine ⟨hd, ?_⟩
    rintro _ rfl
    have B7 : Below w6.heap.size w6 (W.putObj D (.deferred none)) := hB.trans ((Below.refl _ _).grown (grownBy_putObj' _ D _) hB.size (fun k e => by cases e; exact hD))
    refine ⟨rfl, qs, ?_, ho6.below B7, fun p hp => .inl hp, grown_from B6 (grown_of_below B7)⟩
    have : (List.range (qs.map (·.2)).length).find? (freeAt (qs.map (·.2)) x.2.ty) = none := by
      rw [List.find?_eq_none]
      intro k hk
      have hk' : k < qs.length := by simpa using hk
      have := hpass (turnV rs (probe (hashT x.2.ty) qs.length k)) (by rw [← hxg k (by omega)]; exact List.getElem_mem _) _ (probe_lt (by omega)) rfl
      simpa [freeAt] using this
    simp only [layL, this]
  · -- the way out
    rintro D pre W hD hpre ⟨q, i, ⟨⟨rfl, hi, hpass, h0⟩, hown⟩, hg⟩ hd
    refine ⟨hd, ?_⟩
    rintro _ rfl
    have hgp : W.grownBy (W.putObj D (.deferred none)) (some D) := grownBy_putObj' _ D _
    refine ⟨rfl, qs.set i x, ?_, ?_, fun p hp => List.mem_or_eq_of_mem_set hp, grown_from B6 (ownFrom_grown (β := Unit) (B := w6.heap.size) (Nat.le_refl _) () W _ (some D) hg hgp fun r e => by cases e; exact ⟨hD, _, hd, rfl⟩)⟩
    · have hql : q.length < (turnsV rs (hashT x.2.ty)).length := by have := hpre.length_le; simp at this; omega
      have hqi : probe (hashT x.2.ty) qs.length q.length = i := by
        have h1 := hpre.getElem (i := q.length) (by simp)
        rw [hxg _ hql] at h1
        simp only [List.getElem_append_right (Nat.le_refl _), Nat.sub_self, List.getElem_cons_zero] at h1
        exact (turnV_inj h1).symm
      have : (List.range (qs.map (·.2)).length).find? (freeAt (qs.map (·.2)) x.2.ty) = some q.length := by
        rw [List.find?_range_eq_some]
        refine ⟨by simp only [freeAt, List.length_map, hqi]; simpa using h0, by simp; omega, fun j hj => ?_⟩
        have hjq : q[j] = turnV rs (probe (hashT x.2.ty) qs.length j) := by
          have h1 := hpre.getElem (i := j) (by simp; omega)
          rw [hxg _ (by omega), List.getElem_append_left hj] at h1
          exact h1
        have := hpass q[j] (List.getElem_mem _) _ (probe_lt (by omega)) hjq
        simpa [freeAt] using this
      rw [layL, this]; simp only [List.length_map, hqi, List.map_set]
    · exact hown.keep fun g cs ha _ hgb => (hgp.block g (blk_lt hgb) (by rintro heq; cases heq; rw [hd] at hgb; cases hgb)).trans hgb
end
end Go.Eng
namespace Go.Eng
open Go Go.RowKit
variable {α : Type} {P : Program}
theorem made_flat {enc : α → List Value} {k : Nat} (E : En enc k) (hk : 0 < k) {z : Array Value} {x : α} (hz : enc x = z.toList) (n : Nat) : (madeCells z (n * k)).toList = (List.replicate n x).flatMap enc := by
  have hzs : z.size = k := by rw [← E.len x, hz]; simp
  apply List.ext_getElem?
  intro i
  by_cases hi : i < n * k
  · have hdiv : i / k < (List.replicate n x).length := by simp; exact Nat.div_lt_of_lt_mul (by rw [Nat.mul_comm]; exact hi)
    have h1 := flat_get E.len (List.replicate n x) (i / k) (i % k) hdiv (Nat.mod_lt _ hk)
    rw [show i / k * k + i % k = i by rw [Nat.mul_comm]; exact Nat.div_add_mod i k] at h1
    rw [h1, List.getElem_replicate, hz]
    have hm : i % k < z.size := by rw [hzs]; exact Nat.mod_lt _ hk
    simp [madeCells, hi, hzs, getElem!_pos z (i % k) hm, hm]
  · rw [List.getElem?_eq_none (by simp [madeCells]; omega), List.getElem?_eq_none (by rw [length_flat E.len]; simp; omega)]
section
variable {enc : α → List Value} {k : Nat} {t e : TypeId} {bytes : Nat} {z : Value} {w : World}
/-- make, of so many. -/
theorem make_ok (T : Ty P t e k bytes z) (E : En enc k) {x : α} (hx : enc x = z.cells.toList) {n : Nat} (h63 : n ≤ maxLen) (hby : bytes * n ≤ 281474976710656) {K : Option Addr → Nat → Nat → World → Prop}
    (hK : ∀ (g : Nat) w', g = w.heap.size → Own enc k e w.heap.size w' (some ⟨g, 0, none⟩) n n (List.replicate n x) → Below w.heap.size w w' → K (some ⟨g, 0, none⟩) n n w') :
    ∃ (a' : Option Addr) (n' c' : Nat) (w1 : World), Sem.run P (Instr.makeSlice t (.int .i64 (n : Int)) (.int .i64 (n : Int))) w = .ok (.slice a' n' c') w1 ∧ K a' n' c' w1 := by
  obtain ⟨i, hi, hs, hbs, hz⟩ := T.hi
  have hn63 : (n : Int) ≤ 9223372036854775807 := by have : n ≤ 9223372036854775807 := h63; omega
  have hm := run_make (P := P) w t e i z T.ht hi hz .i64 .i64 (n : Int) (n : Int) (by omega) (Int.le_refl _) (by rw [hbs, ← Int.natCast_mul]; exact Int.ofNat_le.2 hby) hn63
  simp only [Int.toNat_natCast] at hm
  rw [hs] at hm
  have hB : Below w.heap.size w (w.alloc (.cells (madeCells z.cells (n * k)) e)) := (Below.refl _ _).alloc (Nat.le_refl _) _
  refine ⟨_, _, _, _, hm, hK _ _ rfl ⟨by simp, Nat.le_refl _, h63, .inr ⟨_, _, rfl, Nat.le_refl _, blk_new _, by rw [size_madeCells]; exact Nat.le_refl _, ?_⟩⟩ hB⟩
  rw [made_flat E T.pos hx, List.take_of_length_le]
  rw [length_flat E.len]; simp
end
end Go.Eng
namespace Go.Eng
open Go Go.RowKit Go.Proofs
set_option maxRecDepth 10000
def blankE : Entry := ⟨0, [], 0⟩
def blankR : REnt := ⟨0, ⟨none, 0, 0⟩, 0⟩
/-- Entries, laid into so many slots. -/
def laidL (l : List Entry) (many : Nat) : List Entry := l.foldl layL (List.replicate many blankE)
theorem laidL_len' : ∀ (l acc : List Entry), (l.foldl layL acc).length = acc.length
  | [], acc => rfl
  | x :: l, acc => by rw [List.foldl_cons, laidL_len' l, layL_len]
theorem laidL_len (l : List Entry) (many : Nat) : (laidL l many).length = many := by rw [laidL, laidL_len', List.length_replicate]
theorem says_blank : EntSays blankR blankE := ⟨rfl, rfl, fun x hx => by simp [blankE] at hx, by simp [blankE, I64], by simp [blankE, I64]⟩
section
variable {w : World} {a : Option Addr} {n c : Nat} {ps : List EP}
theorem k_llaid (h : Row encEnt w a n c (ps.map (·.1))) (hps : ∀ p ∈ ps, IsEnt w p.1 p.2) {many : Nat} (hm : many ≤ 1048576) (hn : n ≤ 1048576) :
    Cl Tryz.prog 120 #[.slice a n c, .int .i64 (many : Int)] w (fun v w' => ∃ (g : Nat) (qs : List EP), v = .agg #[.slice (some ⟨g, 0, none⟩) many many] ∧ qs.map (·.2) = laidL (ps.map (·.2)) many ∧ Own encEnt 3 94 w.heap.size w' (some ⟨g, 0, none⟩) many many (qs.map (·.1)) ∧ (∀ p ∈ qs, p = (blankR, blankE) ∨ p ∈ ps) ∧ Below w.heap.size w w') := by
  refine c120 _ _ _ _ ?_
  obtain rfl : n = ps.length := by have := h.len; simpa using this
  rintro _ w1 rfl h1
  have q1 : w1.heap[w.heap.size]? = some (.cells #[.slice none 0 0] 25) := by rw [h1]; exact blk_new _
  have B1 : Below w.heap.size w w1 := by rw [h1]; exact alloc_below _ _
  have z1 : w1.heap.size = w.heap.size + 1 := by rw [h1, size_alloc]
  clear h1
  refine make_ok tyEnts enEnt (x := blankR) rfl (by simp only [maxLen]; omega) (by omega) fun g w2 hg ho B2' => ?_
  have B2 := B1.trans (B2'.mono B1.size)
  have q2 := blk_below q1 B2' (blk_lt q1)
  have hgl := (ho.lt rfl).2
  rintro _ w3 rfl h3
  have p3 : w3.heap[w2.heap.size]? = some (.cells #[.slice none 0 0] 25) := by rw [h3]; exact blk_new _
  have B3 : Below w2.heap.size w2 w3 := by rw [h3]; exact alloc_below _ _
  clear h3
  refine ⟨blk_some p3 (by decide), blk_free p3 _, ?_⟩
  rintro w4 h4
  have p4 : w4.heap[w2.heap.size]? = some (.cells #[.slice (some ⟨g, 0, none⟩) many many] 25) := by rw [h4]; exact blk_set p3 0 _
  have B4' : Below w2.heap.size w2 w4 := by rw [h4]; exact B3.setCell (Nat.le_refl _) _
  have B4 := B2.trans (B4'.mono B2.size)
  have q4 := blk_below q2 B4' (blk_lt q2)
  have ho4 := ho.below B4'
  clear h4 p3 B3
  have hg2 : g ≠ w.heap.size ∧ g ≠ w2.heap.size := by simp only at hgl; omega
  refine ⟨fun i W => (Below w.heap.size w W ∧ W.heap[w.heap.size]? = some (.cells #[.slice none 0 0] 25) ∧ W.heap[w2.heap.size]? = some (.cells #[.slice (some ⟨g, 0, none⟩) many many] 25)) ∧
      ∃ (k : Nat) (qs : List EP), i = k ∧ k ≤ ps.length ∧ qs.map (·.2) = ((ps.map (·.2)).take k).foldl layL (List.replicate many blankE) ∧ Own encEnt 3 94 w.heap.size W (some ⟨g, 0, none⟩) many many (qs.map (·.1)) ∧ (∀ p ∈ qs, p = (blankR, blankE) ∨ p ∈ ps), fun i _ => ps.length - i.toNat,
    ⟨⟨B4, q4, p4⟩, 0, List.replicate many (blankR, blankE), rfl, by omega, by simp, by simpa using ho4.mono (lo' := w.heap.size) (by omega), fun p hp => .inl (List.eq_of_mem_replicate hp)⟩, ?_⟩
  rintro _ W _ ⟨⟨hB, qb, pb⟩, k, qs, rfl, hk, hsnd, how, hin⟩
  have hql : qs.length = many := by have := how.len; simpa using this.symm
  have hsay : ∀ p ∈ qs, EntSays p.1 p.2 := fun p hp => by
    rcases hin p hp with rfl | h
    · exact says_blank
    · exact (hps p h).says
  refine cnd (fun hc => ?_) fun hc => ?_
  · have hkn : k < ps.length := by simpa using hc
    refine (h.below hB).entN hkn fun hl => box_ent fun w7 s7 B7 => ?_
    have e0 : (ps.map (·.1))[k] = ps[k].1 := by simp
    rw [e0] at s7
    have hB7 := hB.trans (B7.mono hB.size)
    have p7 := blk_below pb B7 (blk_lt pb)
    have q7 := blk_below qb B7 (blk_lt qb)
    have hx := hps ps[k] (List.getElem_mem _)
    refine ⟨_, _, _, _, _, blk_cell s7 0, blk_cell s7 1, blk_cell s7 2, (k_llaid1 (x := ps[k]) p7 (how.below B7) hB7.size hsay hx.says (hx.ty.below hB7) hm).mono ?_⟩
    rintro _ w8 ⟨rfl, qs', hsnd', ho8, hin', hg8⟩
    have keep : ∀ {b : Nat} {o : Obj}, w7.heap[b]? = some o → g ≠ b → w8.heap[b]? = some o := fun hb hne => (hg8.block _ (blk_lt hb) (by simpa using Ne.symm hne)).trans hb
    rw [nx (by omega)]
    refine ⟨rfl, ⟨⟨hB7.trans ((how.below B7).belowOf hg8 hB7.size), keep q7 hg2.1, keep p7 hg2.2⟩, k + 1, qs', rfl, by omega, ?_, ho8, fun p hp => ?_⟩, dec hkn⟩
    · rw [hsnd', hsnd, take_one (by simpa using hkn), List.foldl_append]; simp
    · rcases hin' p hp with h | rfl
      · exact hin p h
      · exact .inr (List.getElem_mem _)
  · have hkn : ¬ k < ps.length := by simpa using hc
    refine ⟨_, _, _, blk_cell pb 0, blk_some qb (by decide), blk_free qb _, ?_⟩
    rintro w9 h9
    have q9 : w9.heap[w.heap.size]? = some (.cells #[.slice (some ⟨g, 0, none⟩) many many] 25) := by rw [h9]; exact blk_set qb 0 _
    refine ⟨_, _, _, blk_cell q9 0, g, qs, rfl, by rw [hsnd, take_all (by simp; omega)]; rfl, ?_, hin, by rw [h9]; exact hB.setCell (Nat.le_refl _) _⟩
    rw [h9]
    exact how.farB (fun g' e => by cases e; exact hg2.1) _
end
end Go.Eng
namespace Go.Eng
open Go Go.RowKit Go.Proofs
set_option maxRecDepth 10000
def manyFrom : Nat → Nat → Nat → Nat
  | 0, m, _ => m
  | f + 1, m, k => if 2 * m < 4 * k then manyFrom f (m * 2) k else m
/-- How many slots so many types get. -/
def manyOf (k : Nat) : Nat := manyFrom 20 8 k
theorem manyFrom_le : ∀ (f m k : Nat), m ≤ max 8 (4 * k) → manyFrom f m k ≤ max 8 (4 * k)
  | 0, m, k, h => h
  | f + 1, m, k, h => by
    simp only [manyFrom]; split
    · exact manyFrom_le f (m * 2) k (by omega)
    · exact h
theorem manyOf_le (k : Nat) : manyOf k ≤ max 8 (4 * k) := manyFrom_le 20 8 k (by omega)
/-- A lookup with a type more; the error. -/
def putL (l : List Entry) (t : List Int) (num : Int) : List Entry × Int :=
  if checkL l = false then ([], 170) else if right2 t = false then ([], 130) else if num < 0 then ([], 2) else if 0 ≤ place l t then ([], 5)
  else if (all7 Entry.st Entry.ty l).length = 4000 then ([], 6)
  else (laidL (all7 Entry.st Entry.ty l ++ [⟨1, t, num⟩]) (manyOf ((all7 Entry.st Entry.ty l).length + 1)), 0)
/-- A lookup in memory of its own, and an error. -/
def LkE (w : World) (p : List Entry × Int) (v : Value) (w' : World) : Prop := ∃ a n c, v = .tuple #[.agg #[.slice a n c], .int .i64 p.2] ∧ DEnts w.heap.size w' a n c p.1 ∧ Below w.heap.size w w'
theorem put_back {W : World} {b : Nat} {v0 : Value} {t : TypeId} {a : Option Addr} {n c : Nat} (q : W.heap[b]? = some (.cells #[v0] t (0, 0))) {K : Option Addr → Nat → Nat → World → Prop}
    (hK : ∀ W', W' = W.setCell ⟨b, 0, none⟩ (.slice a n c) → K a n c W') :
    ((W.cell? (Addr.mk b 0 none)).isSome = true ∧ W.frozen? (Addr.mk b 0 none) = false ∧ (∀ w4 : World, w4 = W.setCell (Addr.mk b 0 none) (.slice a n c) → (∃ (ra : Option Addr) (rn : Nat) (rc : Nat), w4.cell? (Addr.mk b 0 none) = some (.slice ra rn rc) ∧ K ra rn rc w4))) := by
  refine ⟨blk_some q (by simp), blk_free q _, ?_⟩
  rintro w4 h4
  exact ⟨a, n, c, by rw [h4]; exact blk_cell (blk_set q 0 _) 0, hK w4 h4⟩
theorem lkE {w w' : World} {p : List Entry × Int} {l' : List Entry} {e : Int} {a : Option Addr} {n c : Nat} (hp : p = (l', e)) (hd : DEnts w.heap.size w' a n c l') (hB : Below w.heap.size w w') : LkE w p (.tuple #[.agg #[.slice a n c], .int .i64 e]) w' := by
  subst hp; exact ⟨_, _, _, rfl, hd, hB⟩
theorem DEnts.farB {lo : Nat} {w : World} {a : Option Addr} {n c : Nat} {l : List Entry} (h : DEnts lo w a n c l) {b : Nat} {cs : Array Value} {t : TypeId} {fr : Nat × Nat} (hb : w.heap[b]? = some (.cells cs t fr)) (h1 : t ≠ 94) (h2 : t ≠ 32) {j : Nat} (v : Value) : DEnts lo (w.setCell ⟨b, j, none⟩ v) a n c l := by
  obtain ⟨qs, rfl, ho, hq⟩ := h
  exact ⟨qs, rfl, ho.far hb h1 v, fun p hp => ⟨(hq p hp).1, (hq p hp).2.far hb h2 v⟩⟩
section
variable {w : World} {a b : Option Addr} {n c m d : Nat} {l : List Entry} {t : List Int} {num : Int}
theorem k_lPut (h : Ents w a n c l) (hn : n ≤ 1048576) (ht : Row encId w b m d t) (hr : Rng t) (hnum : I64 num) :
    Cl Tryz.prog 87 #[.agg #[.slice a n c], .slice b m d, .int .i64 num] w (LkE w (putL l t num)) := by
  refine c87 _ _ _ _ _ _ _ ?_
  rintro _ w1 rfl h1 _ w2 rfl h2
  have q1 : w2.heap[w.heap.size]? = some (.cells #[.slice a n c] 25) := by rw [h2, h1]; exact blk_alloc (blk_new _)
  have q2 : w2.heap[w1.heap.size]? = some (.cells #[.slice none 0 0] 25) := by rw [h2]; exact blk_new _
  have z1 : w1.heap.size = w.heap.size + 1 := by rw [h1, size_alloc]
  have B2 : Below w.heap.size w w2 := by rw [h2, h1]; exact (alloc_below w _).alloc (by rw [size_alloc]; omega) _
  clear h1 h2
  have hw1 : w.heap.size ≤ w1.heap.size := by omega
  refine ⟨_, _, _, blk_cell q1 0, (k_lCheck (h.below B2) hn).gives fun w3 B3' => ⟨_, rfl, ?_⟩⟩
  have B3 := B2.trans (B3'.mono B2.size)
  have p1 := blk_below q1 B3' (blk_lt q1)
  have p2 := blk_below q2 B3' (blk_lt q2)
  cases hck : checkL l with
  | false =>
    refine put_back p2 ?_
    rintro W' rfl
    exact lkE (by simp [putL, hck]) DEnts.nil (B3.setCell hw1 _)
  | true =>
    refine ⟨_, _, _, blk_cell p1 0, (k_lused' (h.below B3) hn hck).mono ?_⟩
    rintro _ w5 ⟨a5, n5, c5, rfl, hd, B5'⟩
    have B5 := B3.trans (B5'.mono B3.size)
    have hn5 := hd.len
    have hl5 := all7_len Entry.st Entry.ty l
    have hln : l.length = n := by obtain ⟨rs, h1, h2⟩ := h; have := h1.len; have := h2.1; omega
    refine ⟨_, _, _, rfl, (k_tCheck (ht.below B5)).gives fun w6 B6' => ⟨_, rfl, ?_⟩⟩
    have B6 := B5.trans (B6'.mono B5.size)
    have p26 := blk_below (blk_below p2 B5' (blk_lt p2)) B6' (Nat.lt_of_lt_of_le (blk_lt p2) B5'.size)
    have p16 := blk_below (blk_below p1 B5' (blk_lt p1)) B6' (Nat.lt_of_lt_of_le (blk_lt p1) B5'.size)
    cases hr2 : right2 t with
    | false =>
      rw [show check2 t = 130 by simp [check2, hr2]]
      refine cnd (fun _ => ?_) fun g => absurd g (by decide)
      refine put_back p26 ?_
      rintro W' rfl
      exact lkE (by simp [putL, hck, hr2]) DEnts.nil (B6.setCell hw1 _)
    | true =>
      rw [show check2 t = 0 by simp [check2, hr2]]
      refine cnd (fun g => absurd g (by decide)) fun _ => ?_
      refine cnd (fun g => ?_) fun g => ?_
      · refine put_back p26 ?_
        rintro W' rfl
        have : num < 0 := of_decide_eq_true g
        exact lkE (by simp [putL, hck, hr2, this]) DEnts.nil (B6.setCell hw1 _)
      have hnn : ¬ num < 0 := of_decide_eq_false g
      refine ⟨_, _, _, blk_cell p16 0, (k_lplace (h.below B6) (ht.below B6) hr hn).gives fun w9 B9' => ⟨_, rfl, ?_⟩⟩
      have B9 := B6.trans (B9'.mono B6.size)
      have p29 := blk_below p26 B9' (blk_lt p26)
      refine cnd (fun g => ?_) fun g => ?_
      · refine put_back p29 ?_
        rintro W' rfl
        have : 0 ≤ place l t := of_decide_eq_true g
        exact lkE (by simp [putL, hck, hr2, hnn, this]) DEnts.nil (B9.setCell hw1 _)
      have hpl : ¬ 0 ≤ place l t := of_decide_eq_false g
      refine cnd (fun g => ?_) fun g => ?_
      · refine put_back p29 ?_
        rintro W' rfl
        have : (all7 Entry.st Entry.ty l).length = 4000 := by simp at g; omega
        exact lkE (by simp [putL, hck, hr2, hnn, hpl, this]) DEnts.nil (B9.setCell hw1 _)
      have hfull : ¬ (all7 Entry.st Entry.ty l).length = 4000 := by simp at g; omega
      have h12 := (right2_sorted hr2).2
      have hml := ht.len
      refine (k_CloneIds (ht.below B9) (by omega)).mono ?_
      rintro _ w12 ⟨a8, n8, c8, rfl, ho8, B12'⟩
      have B12 := B9.trans (B12'.mono B9.size)
      refine ⟨_, _, _, rfl, ?_⟩
      have hd12 := ((hd.below B6').below B9').below B12'
      have hd0 : DEnts w.heap.size w12 a5 n5 c5 (all7 Entry.st Entry.ty l) := hd12.mono B3.size
      obtain ⟨qs, hqs, hqo, hqd⟩ := hd0
      have hqn : qs.length = n5 := by have := hqo.len; simpa using this.symm
      have ho12 : OwnTy w.heap.size w12 ⟨a8, n8, c8⟩ t := ho8.mono B9.size
      have hsz5 : n5 ≤ 1048576 := by omega
      have p212 := blk_below p29 B12' (blk_lt p29)
      have htak : (all7 Entry.st Entry.ty l).length ≤ 4000 := by
        have h1 := (checkL_ok hck).1
        simp only [preL, Bool.and_eq_true, decide_eq_true_eq] at h1
        have h2 := (all7_perm Entry.st Entry.ty l).length_eq
        have h3 : taken l = (l.filter fun e => e.st == 1).length + cnt l 2 := rfl
        omega
      refine app1 tyEnts enEnt hqo B12.size (⟨1, ⟨a8, n8, c8⟩, num⟩ : REnt) (by simp only [maxLen]; omega) (by omega) fun a9 c9 w14 ho14 hg14 => ?_
      have B14 := B12.trans (hqo.belowOf hg14 B12.size)
      have keepI : ∀ {h : Hd} {l' : List Int}, OwnTy w.heap.size w12 h l' → OwnTy w.heap.size w14 h l' := fun hh => hqo.keepOwn hg14 hh (fun e => tyIdEnt e.symm)
      have p214 : w14.heap[w1.heap.size]? = some (.cells #[.slice none 0 0] 25) := hqo.keepBlk hg14 p212 (.inl (by decide))
      have hall : ∀ p ∈ qs ++ [((⟨1, ⟨a8, n8, c8⟩, num⟩ : REnt), (⟨1, t, num⟩ : Entry))], EntSays p.1 p.2 ∧ OwnTy w.heap.size w14 p.1.ty p.2.ty := by
        intro p hp
        rcases List.mem_append.1 hp with hp | hp
        · exact ⟨(hqd p hp).1, keepI (hqd p hp).2⟩
        · simp only [List.mem_singleton] at hp
          subst hp
          exact ⟨⟨rfl, rfl, hr, by simp [I64], hnum⟩, keepI ho12⟩
      have hrow14 : Row encEnt w14 a9 (n5 + 1) c9 ((qs ++ [((⟨1, ⟨a8, n8, c8⟩, num⟩ : REnt), (⟨1, t, num⟩ : Entry))]).map (·.1)) := by
        have := ho14.row; rwa [List.map_append]
      refine ⟨fun mm W => W = w14 ∧ ∃ f m : Nat, mm = (m : Int) ∧ manyFrom f m (n5 + 1) = manyOf (n5 + 1) ∧ m = 8 * 2 ^ (20 - f) ∧ f ≤ 20, fun mm _ => 1000000 - mm.toNat, ⟨rfl, 20, 8, rfl, rfl, by decide, by decide⟩, ?_⟩
      rintro _ W _ ⟨rfl, f, mm, rfl, hmm, hm2, hf⟩
      have hbound : mm ≤ 8388608 := by
        have : 2 ^ (20 - f) ≤ 2 ^ 20 := Nat.pow_le_pow_right (by decide) (by omega)
        omega
      have hpos : 0 < 2 ^ (20 - f) := Nat.pow_pos (by decide)
      rw [wrap64 (i := 2 * (mm : Int)) (by omega) (by omega), wrap64 (i := 4 * ((n5 + 1 : Nat) : Int)) (by omega) (by omega)]
      refine cnd (fun g => ?_) fun g => ?_
      · have hlt : 2 * mm < 4 * (n5 + 1) := by simp at g; omega
        rw [wrap64 (i := (mm : Int) * 2) (by omega) (by omega)]
        cases f with
        | zero => simp at hm2; omega
        | succ f =>
          refine ⟨⟨rfl, f, mm * 2, by omega, ?_, ?_, by omega⟩, ?_⟩
          · rw [← hmm]; simp only [manyFrom, if_pos hlt]
          · rw [hm2, show 20 - f = (20 - (f + 1)) + 1 by omega, Nat.pow_succ]; omega
          · simp only []; omega
      · have hge : ¬ 2 * mm < 4 * (n5 + 1) := by simp at g; omega
        have hmo : mm = manyOf (n5 + 1) := by
          rw [← hmm]; cases f with
          | zero => rfl
          | succ f => simp only [manyFrom, if_neg hge]
        have hle := manyOf_le (n5 + 1)
        refine (k_llaid (w := W) hrow14 (fun p hp => (hall p hp).1.is (hall p hp).2.row) (many := mm) (by omega) (by omega)).mono ?_
        rintro _ w16 ⟨g16, qs', rfl, hq', ho16, hin, B16'⟩
        have B16 := B14.trans (B16'.mono B14.size)
        have p216 := blk_below p214 B16' (blk_lt p214)
        have hd16 : DEnts w.heap.size w16 (some ⟨g16, 0, none⟩) mm mm (laidL (all7 Entry.st Entry.ty l ++ [⟨1, t, num⟩]) mm) := by
          refine ⟨qs', by rw [hq', List.map_append, hqs]; rfl, ho16.mono B14.size, fun p hp => ?_⟩
          rcases hin p hp with rfl | hp
          · exact ⟨says_blank, Own.nil⟩
          · exact ⟨(hall p hp).1, (hall p hp).2.below B16'⟩
        refine ⟨_, _, _, rfl, put_back p216 ?_⟩
        rintro W' rfl
        refine lkE (by simp only [putL, hck, hr2, if_neg hnn, if_neg hpl, if_neg hfull]; rw [← hn5, ← hmo]; simp) (hd16.farB p216 (by decide) (by decide) _) (B16.setCell hw1 _)
end
end Go.Eng
namespace Go.Eng
open Go Go.RowKit Go.Proofs
set_option maxRecDepth 10000
/-- A lookup without a type; the error. -/
def dropL (l : List Entry) (t : List Int) : List Entry × Int :=
  if checkL l = false then ([], 170) else if place l t < 0 then ([], 4) else (l.set (place l t).toNat ⟨2, [], 0⟩, 0)
def newL : List Entry := List.replicate 8 blankE
theorem checkL_all12 {l : List Entry} (h : checkL l = true) : ∀ e ∈ l, e.ty.length ≤ 12 := by
  intro e he
  obtain ⟨i, hi, rfl⟩ := List.mem_iff_getElem.1 he
  by_cases hst : l[i].st = 1
  · exact checkL_12 h _ (List.getElem_mem _) hst
  · have := (checkL_ok h).2 i hi
    rw [slotOk, slot_eq hi, if_neg hst] at this
    simp at this
    rw [this.1]; simp
section
variable {w : World} {a b : Option Addr} {n c m d : Nat} {l : List Entry} {t : List Int}
theorem k_CloneEnts {rs : List REnt} (h : Row encEnt w a n c rs) (hs : n ≤ 1048576) : Cl Tryz.prog 108 #[.slice a n c] w (Made encEnt 3 94 w rs) := by
  refine c108 _ _ _ ⟨_, nil_eq tyEnts.ht, ?_⟩
  cases a with
  | none =>
    have : rs = [] := by
      rcases h.rd.2 with h0 | ⟨p, hp, _⟩
      · exact h0
      · simp at hp
    subst this
    exact ⟨_, _, _, rfl, Own.nil, Below.refl _ _⟩
  | some p =>
    rintro b w1 rfl rfl
    have hB : Below w.heap.size w (w.alloc (.cells #[] 94)) := (Below.refl _ _).alloc (Nat.le_refl _) _
    obtain ⟨a', n', c', w', hrun, ho, hg⟩ := app_own (a := some (Addr.mk w.heap.size 0 none)) (n := 0) (c := 0) (l := ([] : List REnt)) (lo := w.heap.size) (ty := 23) (c' := c) tyEnts enEnt (Own.new enEnt.len w [] (Nat.le_refl _) (Nat.zero_le _)) (by rw [size_alloc]; omega) (h.rd.below hB) (by simp) (by simp only [maxLen]; omega) (by omega)
    exact ⟨_, _, _, _, hrun, _, _, _, rfl, ho, hB.grown hg (by rw [size_alloc]; omega) (fun k hk => by cases hk; exact Nat.le_refl _)⟩
theorem k_lNew : Cl Tryz.prog 88 #[] w (fun v w' => ∃ a n c, v = .agg #[.slice a n c] ∧ DEnts w.heap.size w' a n c newL ∧ Below w.heap.size w w') := by
  refine c88 ?_
  rintro _ w1 rfl h1
  have q1 : w1.heap[w.heap.size]? = some (.cells #[.slice none 0 0] 25) := by rw [h1]; exact blk_new _
  have B1 : Below w.heap.size w w1 := by rw [h1]; exact alloc_below _ _
  clear h1
  refine make_ok (n := 8) tyEnts enEnt (x := blankR) rfl (by simp only [maxLen]; omega) (by omega) fun g w2 hg ho B2 => ?_
  have q2 := blk_below q1 B2 (blk_lt q1)
  refine put_back q2 ?_
  rintro W' rfl
  have hd : DEnts w.heap.size w2 (some ⟨g, 0, none⟩) 8 8 newL := ⟨List.replicate 8 (blankR, blankE), by simp [newL], by simpa using ho.mono B1.size, fun p hp => by obtain rfl := List.eq_of_mem_replicate hp; exact ⟨says_blank, Own.nil⟩⟩
  exact ⟨_, _, _, rfl, hd.farB q2 (by decide) (by decide) _, (B1.trans (B2.mono B1.size)).setCell (Nat.le_refl _) _⟩
theorem k_lDrop (h : Ents w a n c l) (hn : n ≤ 1048576) (ht : Row encId w b m d t) (hr : Rng t) :
    Cl Tryz.prog 61 #[.agg #[.slice a n c], .slice b m d] w (LkE w (dropL l t)) := by
  refine c61 _ _ _ _ _ _ ?_
  rintro _ w1 rfl h1 _ w2 rfl h2
  have q1 : w2.heap[w.heap.size]? = some (.cells #[.slice a n c] 25) := by rw [h2, h1]; exact blk_alloc (blk_new _)
  have q2 : w2.heap[w1.heap.size]? = some (.cells #[.slice none 0 0] 25) := by rw [h2]; exact blk_new _
  have z1 : w1.heap.size = w.heap.size + 1 := by rw [h1, size_alloc]
  have B2 : Below w.heap.size w w2 := by rw [h2, h1]; exact (alloc_below w _).alloc (by rw [size_alloc]; omega) _
  clear h1 h2
  have hw1 : w.heap.size ≤ w1.heap.size := by omega
  refine ⟨_, _, _, blk_cell q1 0, (k_lCheck (h.below B2) hn).gives fun w3 B3' => ⟨_, rfl, ?_⟩⟩
  have B3 := B2.trans (B3'.mono B2.size)
  have p1 := blk_below q1 B3' (blk_lt q1)
  have p2 := blk_below q2 B3' (blk_lt q2)
  cases hck : checkL l with
  | false =>
    refine put_back p2 ?_
    rintro W' rfl
    exact lkE (by simp [dropL, hck]) DEnts.nil (B3.setCell hw1 _)
  | true =>
    have h12 := checkL_all12 hck
    refine ⟨_, _, _, blk_cell p1 0, (k_lplace (h.below B3) (ht.below B3) hr hn).gives fun w5 B5' => ⟨_, rfl, ?_⟩⟩
    have B5 := B3.trans (B5'.mono B3.size)
    have p15 := blk_below p1 B5' (blk_lt p1)
    have p25 := blk_below p2 B5' (blk_lt p2)
    refine cnd (fun g => ?_) fun g => ?_
    · refine put_back p25 ?_
      rintro W' rfl
      have : place l t < 0 := of_decide_eq_true g
      exact lkE (by simp [dropL, hck, this]) DEnts.nil (B5.setCell hw1 _)
    have hpl : ¬ place l t < 0 := of_decide_eq_false g
    rcases place_lt (l := l) (t := t) with h0 | ⟨at_, hat, hpk, hst1, hty1⟩
    · exact absurd h0 hpl
    obtain ⟨ps, hrow, hps, rfl⟩ := h.pairs
    have hpn : ps.length = n := by have := hrow.len; simpa using this.symm
    refine ⟨_, _, _, blk_cell p15 0, (k_CloneEnts (hrow.below B5) hn).mono ?_⟩
    rintro _ w7 ⟨a7, n7, c7, rfl, ho7, B7'⟩
    have hn7 : n7 = ps.length := by have := ho7.len; simpa using this
    have B7 := B5.trans (B7'.mono B5.size)
    have p27 := blk_below p25 B7' (blk_lt p25)
    refine ⟨_, _, _, rfl, ?_⟩
    rintro _ w8 rfl h8
    have r8 : w8.heap[w7.heap.size]? = some (.cells #[.slice none 0 0] 25) := by rw [h8]; exact blk_new _
    have B8 : Below w7.heap.size w7 w8 := by rw [h8]; exact alloc_below _ _
    clear h8
    refine ⟨blk_some r8 (by decide), blk_free r8 _, ?_⟩
    rintro w9 h9
    have r9 : w9.heap[w7.heap.size]? = some (.cells #[.slice a7 n7 c7] 25) := by rw [h9]; exact blk_set r8 0 _
    have B79 : Below w7.heap.size w7 w9 := by rw [h9]; exact B8.setCell (Nat.le_refl _) _
    have B9 := B7.trans (B79.mono B7.size)
    have p29 := blk_below p27 B79 (blk_lt p27)
    have ho9 : Own encEnt 3 94 w.heap.size w9 a7 n7 c7 (ps.map (·.1)) := (ho7.below B79).mono B5.size
    have lt29 : w1.heap.size < w7.heap.size := blk_lt p27
    clear h9 B8 r8
    refine ⟨_, _, _, blk_cell r9 0, ?_⟩
    refine ⟨fun i W => (Below w.heap.size w W ∧ W.heap[w1.heap.size]? = some (.cells #[.slice none 0 0] 25) ∧ W.heap[w7.heap.size]? = some (.cells #[.slice a7 n7 c7] 25)) ∧
        ∃ (k : Nat) (qs : List EP), i = k ∧ k ≤ n7 ∧ qs.map (·.2) = ps.map (·.2) ∧ Own encEnt 3 94 w.heap.size W a7 n7 c7 (qs.map (·.1)) ∧ (∀ p ∈ qs, EntSays p.1 p.2) ∧
        (∀ j (hj : j < qs.length), j < k → OwnTy w.heap.size W qs[j].1.ty qs[j].2.ty) ∧ (∀ j (hj : j < qs.length), k ≤ j → Row encId w qs[j].1.ty.a qs[j].1.ty.n qs[j].1.ty.c qs[j].2.ty ∧ qs[j].2.ty.length ≤ 12), fun i _ => n7 - i.toNat,
      ⟨⟨B9, p29, r9⟩, 0, ps, rfl, by omega, rfl, ho9, fun p hp => (hps p hp).says, fun j hj h => by omega, fun j hj _ => ⟨(hps _ (List.getElem_mem hj)).ty, h12 _ (List.mem_map.2 ⟨_, List.getElem_mem hj, rfl⟩)⟩⟩, ?_⟩
    rintro _ W _ ⟨⟨hB, qb, rb⟩, k, qs, rfl, hk, hsnd, ho, hsay, hown, hrest⟩
    have hql : qs.length = n7 := by have := congrArg List.length hsnd; simp at this; omega
    refine cnd (fun hc => ?_) fun hc => ?_
    · have hkm : k < n7 := by simpa using hc
      have hkq : k < qs.length := by omega
      refine ho.row.entN hkm fun hl => box_ent fun w12 s12 B12' => ?_
      have e0 : (qs.map (·.1))[k] = qs[k].1 := by simp
      rw [e0] at s12
      obtain ⟨hrk, hr12⟩ := hrest k hkq (Nat.le_refl _)
      rintro w13 rfl
      have B13' := B12'.drew
      have hB13 := hB.trans (B13'.mono hB.size)
      have rb13 := blk_below rb B13' (blk_lt rb)
      refine ⟨_, _, _, blk_cell rb13 0, _, _, _, blk_cell (blk_drew s12) 1, (k_CloneIds (hrk.below hB13) (by have := hrk.len; omega)).mono ?_⟩
      rintro _ w14 ⟨a5, n5, c5, rfl, ho5, B14'⟩
      have hB14 := hB13.trans (B14'.mono hB13.size)
      have rb14 := blk_below rb13 B14' (blk_lt rb13)
      have B1314 := B13'.trans (B14'.mono B13'.size)
      have ho14 := ho.below B1314
      obtain ⟨g', hga, hgl, hc1, hc2, hput, hgr, cs, hgb⟩ := ho14.put1 enEnt (i := k) (j := 1) hkm (by decide) (.slice a5 n5 c5) ⟨qs[k].1.st, ⟨a5, n5, c5⟩, qs[k].1.num⟩ (fun hl => by simp [encEnt])
      refine ⟨_, _, _, rfl, blk_cell rb14 0, _, hga, by omega, by omega, ?_⟩
      rw [Int.toNat_natCast]
      refine ⟨hc1, hc2, ?_⟩
      rintro w15 h15
      rw [← h15] at hput hgr
      have hn763 := ho7.2.1
      have hc63 := ho7.2.2.1
      rw [nx (by simp only [maxLen] at hc63; omega)]
      have hga' : (a7.map (·.block)) = some g' := by rw [hga]; rfl
      rw [← hga'] at hgr
      have far : ∀ {a' : Option Addr} {n' c' : Nat} {l' : List Int}, Own encId 1 32 w.heap.size w14 a' n' c' l' → Own encId 1 32 w.heap.size w15 a' n' c' l' := fun ho' => ho14.keepOwn hgr ho' (fun e => tyIdEnt e.symm)
      refine ⟨⟨⟨hB14.trans (ho14.belowOf hgr hB14.size), ho14.keepBlk hgr (blk_below qb B1314 (blk_lt qb)) (.inl (by decide)), ho14.keepBlk hgr rb14 (.inl (by decide))⟩, k + 1, qs.set k (⟨qs[k].1.st, ⟨a5, n5, c5⟩, qs[k].1.num⟩, qs[k].2), rfl, by omega, ?_, ?_, ?_, ?_, ?_⟩, dec hkm⟩
      · rw [List.map_set, ← hsnd]
        exact List.ext_getElem? fun j => by
          rw [List.getElem?_set]
          split
          · rename_i hkj; subst hkj; simp [hkq]
          · rfl
      · rw [List.map_set]; exact hput
      · intro p hp
        rcases List.mem_or_eq_of_mem_set hp with hp | rfl
        · exact hsay p hp
        · have := hsay _ (List.getElem_mem hkq); exact ⟨this.st, this.num, this.rng⟩
      · intro j hj hjk
        rw [List.getElem_set]
        split
        · exact far (ho5.mono hB13.size)
        · rename_i hne
          exact far ((hown j (by simpa using hj) (by omega)).below B1314)
      · intro j hj hjk
        rw [List.getElem_set_ne (by omega)]
        exact hrest j (by simpa using hj) (by omega)
    · have hkm : ¬ k < n7 := by simpa using hc
      have hatn : at_ < n7 := by simp at hat; omega
      obtain ⟨gb, ha, hgl, hcells, hput, hgrw⟩ := ho.put enEnt (i := at_) hatn (⟨2, ⟨none, 0, 0⟩, 0⟩ : REnt)
      have c0' := hcells 0 (by decide)
      rw [Addr.add_zero'] at c0'
      refine ⟨_, _, _, blk_cell rb 0, _, ha, by omega, by omega, ?_⟩
      rw [hpk, Int.toNat_natCast]
      refine ⟨c0'.1, c0'.2, (hcells 1 (by decide)).1, (hcells 1 (by decide)).2, (hcells 2 (by decide)).1, (hcells 2 (by decide)).2, ?_⟩
      rintro w16 h16
      have h16' : w16 = wrs W (Addr.add ⟨gb, 0, none⟩ (at_ * 3)) 0 (encEnt (⟨2, ⟨none, 0, 0⟩, 0⟩ : REnt)) := h16
      rw [← h16'] at hput hgrw
      have hga' : (a7.map (·.block)) = some gb := by rw [ha]; rfl
      rw [← hga'] at hgrw
      have rb16 := ho.keepBlk hgrw rb (.inl (by decide))
      have qb16 := ho.keepBlk hgrw qb (.inl (by decide))
      refine ⟨_, _, _, blk_cell rb16 0, put_back qb16 ?_⟩
      rintro W' rfl
      have hd : DEnts w.heap.size w16 a7 n7 c7 ((ps.map (·.2)).set at_ ⟨2, [], 0⟩) := by
        refine ⟨qs.set at_ (⟨2, ⟨none, 0, 0⟩, 0⟩, ⟨2, [], 0⟩), by rw [List.map_set, hsnd], by rw [List.map_set]; exact hput, fun p hp => ?_⟩
        rcases List.mem_or_eq_of_mem_set hp with hp | rfl
        · refine ⟨hsay p hp, ho.keepOwn hgrw ?_ (fun e => tyIdEnt e.symm)⟩
          obtain ⟨j, hj, rfl⟩ := List.mem_iff_getElem.1 hp
          exact hown j hj (by omega)
        · exact ⟨⟨rfl, rfl, fun x hx => by simp at hx, by simp [I64], by simp [I64]⟩, Own.nil⟩
      refine lkE (by simp only [dropL, hck, if_neg hpl, hpk, Int.toNat_natCast]; rfl) (hd.farB qb16 (by decide) (by decide) _) ((hB.trans (ho.belowOf hgrw hB.size)).setCell hw1 _)
end
end Go.Eng
namespace Go.Eng
open Go Go.RowKit Go.Proofs
set_option maxRecDepth 10000
def takenN (l : List Entry) : Nat := (l.filter fun e => e.st != 0).length
/-- What is asked of a slot, by the document. -/
def Ent7 (l : List Entry) (i : Nat) : Prop :=
  (((slot l i).st = 0 ∨ (slot l i).st = 2) ∧ (slot l i).ty = [] ∧ (slot l i).num = 0) ∨
  ((slot l i).st = 1 ∧ right3 (slot l i).ty = true ∧ 0 ≤ (slot l i).num ∧ FoundP l (slot l i).ty (i : Int) ∧ ∀ j, j < i → (slot l j).st = 1 → (slot l i).ty ≠ (slot l j).ty)
def Pow8 (n : Nat) : Prop := ∃ j, n = 8 * 2 ^ j
/-- May a lookup be, by the document? -/
def Right7 (l : List Entry) : Prop := Pow8 l.length ∧ (∀ i, i < l.length → Ent7 l i) ∧ 4 * takenN l ≤ 3 * l.length ∧ takenN l ≤ 4000
end Go.Eng
namespace Go.Eng
open Go Go.RowKit Go.Proofs
set_option maxRecDepth 10000
/-- Lengths that stay small. -/
def SmallN (l : List Node) : Prop := l.length ≤ 1000000 ∧ ∀ x ∈ l, x.ty.length ≤ 1000000 ∧ x.plus.length ≤ 1000000 ∧ x.less.length ≤ 1000000
def stp (row : List Stp) (i : Nat) : Stp := row.getD i default
theorem stp_eqAt {row : List Stp} {i : Nat} (h : i < row.length) : stp row i = row[i] := by simp [stp, h]
/-- The i-th step may be, by the document. -/
def stepOk12 (l : List Node) (n : Int) (row : List Stp) (plus : Bool) (i : Nat) : Bool :=
  (decide (i = 0) || decide ((stp row (i - 1)).1 < (stp row i).1)) && isN l (stp row i).2 && (decide ((stp row i).1 ∈ (node l n).ty) != plus) &&
  (if plus = true then decide (((stp row i).1, n) ∈ (node l (stp row i).2).less) && ((node l (stp row i).2).ty == with3 (node l n).ty (stp row i).1)
   else decide (((stp row i).1, n) ∈ (node l (stp row i).2).plus) && ((node l (stp row i).2).ty == without3 (node l n).ty (stp row i).1))
def steps12 (l : List Node) (n : Int) (row : List Stp) (plus : Bool) : Bool := (List.range row.length).all (stepOk12 l n row plus)
theorem pre1 {k : Nat} (h0 : 0 < k) (h : k < 9223372036854775807) : IntKind.i64.wrap ((k : Int) - 1) = ((k - 1 : Nat) : Int) := by rw [wrap64 (by omega) (by omega)]; omega
theorem pre2 {k : Nat} (h : k < 9223372036854775806) : IntKind.i64.wrap ((k : Int) + 1 - 1) = (k : Int) := by rw [wrap64 (by omega) (by omega)]; omega
theorem isN_iff {l : List Node} {n : Int} (h : isN l n = true) : ∃ k : Nat, n = (k : Int) + 1 ∧ k < l.length := by
  simp only [isN, Bool.and_eq_true, decide_eq_true_eq] at h
  exact ⟨(n - 1).toNat, by omega, by omega⟩
end Go.Eng
namespace Go.Eng
open Go Go.RowKit Go.Proofs
set_option maxRecDepth 10000
/-- The i-th node may be, by the document. -/
def nodeOk12 (l : List Node) (i : Nat) : Bool :=
  if (node l ((i : Int) + 1)).used = true then
    right3 (node l ((i : Int) + 1)).ty && (findN l (node l ((i : Int) + 1)).ty == (i : Int) + 1) && steps12 l ((i : Int) + 1) (node l ((i : Int) + 1)).plus true && steps12 l ((i : Int) + 1) (node l ((i : Int) + 1)).less false
  else decide ((node l ((i : Int) + 1)).ty.length + (node l ((i : Int) + 1)).plus.length + (node l ((i : Int) + 1)).less.length = 0)
def manyN (l : List Node) : Nat := (l.filter fun x => x.used).length
def nodes12 (l : List Node) : Bool :=
  decide (0 < l.length) && (node l (l.length : Int)).used && (node l 1).used && decide ((node l 1).ty.length = 0) && (List.range l.length).all (nodeOk12 l) && decide (manyN l ≤ 4000)
theorem manyN_snoc (l : List Node) (x : Node) : manyN (l ++ [x]) = manyN l + (if x.used = true then 1 else 0) := by
  simp only [manyN, List.filter_append, List.length_append]
  by_cases h : x.used = true <;> simp [h]
theorem manyN_le (l : List Node) : manyN l ≤ l.length := List.length_filter_le _ _
/-- A graph. -/
structure PG where
  nodes : List Node
  slots : List Entry
/-- May a graph be, by the document? -/
def Right12 (G : PG) : Prop := nodes12 G.nodes = true ∧ Right7 G.slots ∧ all7 Entry.st Entry.ty G.slots = ents12 G.nodes
structure SmallG (G : PG) : Prop where
  n : SmallN G.nodes
  s : G.slots.length ≤ 1000000
  t : ∀ e ∈ G.slots, e.ty.length ≤ 1000000
end Go.Eng
namespace Go.Eng
open Go Go.RowKit Go.Proofs
set_option maxRecDepth 10000
/-- The i-th step may be, by the code. -/
def stepOkG (l : List Node) (n : Int) (row : List Stp) (plus : Bool) (i : Nat) : Bool :=
  (decide (i = 0) || decide ((stp row (i - 1)).1 < (stp row i).1)) && isN l (stp row i).2 && (has2 (node l n).ty (stp row i).1 != plus) &&
  (if plus = true then ((with2e (node l n).ty (stp row i).1).2 == 0) && ((node l (stp row i).2).ty == (with2e (node l n).ty (stp row i).1).1) && decide (((stp row i).1, n) ∈ (node l (stp row i).2).less)
   else ((without2e (node l n).ty (stp row i).1).2 == 0) && ((node l (stp row i).2).ty == (without2e (node l n).ty (stp row i).1).1) && decide (((stp row i).1, n) ∈ (node l (stp row i).2).plus))
def stepsG (l : List Node) (n : Int) (row : List Stp) (plus : Bool) : Bool := (List.range row.length).all (stepOkG l n row plus)
theorem cmpI_ge {x y : Int} : 0 ≤ cmpI x y ↔ ¬ x < y := by
  rw [← cmpI_lt]; omega
section
variable {w : World} {a ra sa : Option Addr} {n c rn rc sn sc : Nat} {l : List Node} {row : List Stp}
theorem k_gsteps (h : Nodes w a n c l) (hs : SmallN l) {k0 : Nat} (hk0 : k0 < l.length) (hr : Row encStp w ra rn rc row) (hrs : ∀ s ∈ row, I64 s.2) (plus : Bool) :
    Cl Tryz.prog 75 #[.agg #[.slice a n c, .slice sa sn sc], .int .i64 ((k0 : Int) + 1), .slice ra rn rc, .bool plus] w (Gives w (.bool (stepsG l ((k0 : Int) + 1) row plus))) := by
  refine c75 _ _ _ _ _ _ _ _ _ _ _ ?_
  have hE := h
  obtain ⟨rs, hrow, hall⟩ := h
  have el := hall.1
  obtain rfl : n = l.length := by have := hrow.len; omega
  have er := hr.len
  have hr63 := hr.n63
  have hs1 := hs.1
  unfold V75
  rw [pre2 (k := k0) (by omega)]
  rintro _ w1 rfl h1
  have q1 : w1.heap[w.heap.size]? = some (.cells #[.slice a l.length c, .slice sa sn sc] 27) := by rw [h1]; exact blk_new _
  have B1 : Below w.heap.size w w1 := by rw [h1]; exact alloc_below _ _
  clear h1
  refine ⟨_, _, _, blk_cell q1 0, (hrow.below B1).nodeTy hk0 fun hl0 => ?_⟩
  have x0 := hall.2 k0 hl0 hk0
  have hn0 : node l ((k0 : Int) + 1) = l[k0] := node_eq hk0
  refine ⟨fun ok i W => ok = true ∧ (Below w.heap.size w W ∧ W.heap[w.heap.size]? = some (.cells #[.slice a l.length c, .slice sa sn sc] 27)) ∧ ∃ k : Nat, i = k ∧ k ≤ rn ∧ ∀ j, j < k → stepOkG l ((k0 : Int) + 1) row plus j = true,
    fun _ i _ => rn - i.toNat, ⟨rfl, ⟨B1, q1⟩, 0, rfl, by omega, by intros; omega⟩, ?_⟩
  rintro _ W _ _ ⟨rfl, ⟨hB, q⟩, k, rfl, hk, hok⟩
  refine cnd (fun hc => ?_) fun hc => ?_
  · have hkn : k < rn := by simpa using hc
    refine (hr.below hB).stpN hkn fun hl => box_stp fun w5 s5 B5' => ?_
    have B6 := (hB.trans (B5'.mono hB.size)).drew
    have q6 := blk_drew (blk_below q B5' (blk_lt q))
    have s6 := blk_drew s5
    rintro _ rfl
    have hsk : stp row k = row[k] := stp_eqAt hl
    have h64 := hrs _ (List.getElem_mem hl)
    have no : ∀ W, Below w.heap.size w W → stepOkG l ((k0 : Int) + 1) row plus k = false → Gives w (.bool (stepsG l ((k0 : Int) + 1) row plus)) (.bool false) W := by
      intro W hB hf
      refine ⟨?_, hB⟩
      have : stepsG l ((k0 : Int) + 1) row plus = false := by
        rw [stepsG, List.all_eq_false]
        exact ⟨k, List.mem_range.2 hl, by rw [hf]; simp⟩
      rw [this]
    have yes : ∀ W, (Below w.heap.size w W ∧ W.heap[w.heap.size]? = some (.cells #[.slice a l.length c, .slice sa sn sc] 27)) → stepOkG l ((k0 : Int) + 1) row plus k = true →
        true = true ∧ (Below w.heap.size w W ∧ W.heap[w.heap.size]? = some (.cells #[.slice a l.length c, .slice sa sn sc] 27)) ∧ ∃ k' : Nat, ((k + 1 : Nat) : Int) = k' ∧ k' ≤ rn ∧ ∀ j, j < k' → stepOkG l ((k0 : Int) + 1) row plus j = true := by
      intro W hW ht
      refine ⟨rfl, hW, k + 1, rfl, by omega, fun j hj => ?_⟩
      by_cases hjk : j = k
      · subst hjk; exact ht
      · exact hok j (by omega)
    rw [nx (k := k) (by omega)]
    refine cnd (fun g0 => ?_) fun g0 => ?_
    have hk0' : 0 < k := by simpa using g0
    rw [pre1 hk0' (by omega)]
    refine (hr.below B6).stpN (i := k - 1) (by omega) fun hl' => ⟨_, _, blk_cell s6 0, blk_cell s6 1, k_gcompare.gives fun w7 B7' => ⟨_, rfl, cnd (fun g1 => no _ (B6.trans (B7'.mono B6.size)) ?_) fun g1 => ?_⟩⟩
    · have : ¬ row[k - 1].1 < row[k].1 := cmpI_ge.1 (of_decide_eq_true g1)
      have hk' : k ≠ 0 := by omega
      simp only [stepOkG, hsk, stp_eqAt hl', this, hk', decide_false, Bool.or_self, Bool.false_and]
    have hord : (decide (k = 0) || decide ((stp row (k - 1)).1 < (stp row k).1)) = true := by
      have : row[k - 1].1 < row[k].1 := by
        have := of_decide_eq_false g1
        rw [cmpI_ge] at this; exact Decidable.not_not.1 this
      rw [hsk, stp_eqAt hl']; simp [this]
    have B7 := B6.trans (B7'.mono B6.size)
    have q7 := blk_below q6 B7' (blk_lt q6)
    have s7 := blk_below s6 B7' (blk_lt s6)
    clear g1 hl' hk0' g0 B7' B6 q6 s6 B5' s5
    rotate_left
    have hord : (decide (k = 0) || decide ((stp row (k - 1)).1 < (stp row k).1)) = true := by
      have : k = 0 := by simp at g0; omega
      simp [this]
    have B7 := B6
    have q7 := q6
    have s7 := s6
    clear g0 B6 q6 s6 B5' s5
    all_goals (
      refine ⟨_, _, _, _, _, _, blk_cell q7 0, blk_cell q7 1, _, blk_cell s7 1, (k_gis (hE.below B7) _ h64).gives fun w8 B8' => ⟨_, rfl, ?_⟩⟩
      have B8 := B7.trans (B8'.mono B7.size)
      have q8 := blk_below q7 B8' (blk_lt q7)
      have s8 := blk_below s7 B8' (blk_lt s7)
      refine cnd (fun g1 => no _ B8 ?_) fun g1 => ?_
      · have : isN l row[k].2 = false := by simpa using g1
        simp only [stepOkG, hsk, this, Bool.and_false, Bool.false_and]
      have his : isN l row[k].2 = true := by simpa using g1
      clear g1
      refine ⟨_, blk_cell s8 0, (k_tHas (x0.ty.below B8) _).gives fun w9 B9' => ⟨_, rfl, ?_⟩⟩
      have B9 := B8.trans (B9'.mono B8.size)
      have q9 := blk_below q8 B9' (blk_lt q8)
      have s9 := blk_below s8 B9' (blk_lt s8)
      refine cnd (fun g1 => no _ B9 ?_) fun g1 => ?_
      · have : (has2 l[k0].ty row[k].1 != plus) = false := by unfold bne; rw [g1]; rfl
        simp only [stepOkG, hsk, hn0, this, Bool.and_false, Bool.false_and]
      have hhas : (has2 l[k0].ty row[k].1 != plus) = true := by unfold bne; rw [g1]; rfl
      clear g1
      obtain ⟨k1, hk1, hk1l⟩ := isN_iff his
      have hn1 : node l row[k].2 = l[k1] := by rw [hk1]; exact node_eq hk1l
      refine ⟨_, _, _, blk_cell q9 0, _, blk_cell s9 1, ?_⟩
      rw [hk1, pre2 (k := k1) (by omega)]
      refine (hrow.below B9).nodeN hk1l fun hl1 => box_node fun w10 s10 B10' => ?_
      have x1 := hall.2 k1 hl1 hk1l
      have B10 := B9.trans (B10'.mono B9.size)
      have q10 := blk_below q9 B10' (blk_lt q9)
      have t10 := blk_below s9 B10' (blk_lt s9)
      cases plus with
      | true =>
        refine ⟨_, blk_cell t10 0, (k_tWith (x0.ty.below B10) _).mono ?_⟩
        rintro _ w11 ⟨a11, n11, c11, rfl, hr11, B11'⟩
        have B11 := B10.trans (B11'.mono B10.size)
        have s11 := blk_below s10 B11' (blk_lt s10)
        have t11 := blk_below t10 B11' (blk_lt t10)
        have q11 := blk_below q10 B11' (blk_lt q10)
        refine ⟨_, _, _, _, rfl, _, _, _, blk_cell s11 3, cnd (fun g1 => no _ B11 ?_) fun g1 => ⟨_, _, _, blk_cell s11 1, (k_EqIds (x1.ty.below B11) hr11).tells fun w12 hq12 => ⟨_, rfl, cnd (fun g2 => no _ (B11.trans (hq12.below _)) ?_) fun g2 => ?_⟩⟩⟩
        · have : ((with2e l[k0].ty row[k].1).2 == 0) = false := by unfold bne at g1; simpa using g1
          simp only [stepOkG, hsk, hn0, this, if_true, Bool.and_false, Bool.false_and]
        · have : (l[k1].ty == (with2e l[k0].ty row[k].1).1) = false := by simpa using g2
          simp only [stepOkG, hsk, hn0, hn1, this, if_true, Bool.and_false, Bool.false_and]
        have he : ((with2e l[k0].ty row[k].1).2 == 0) = true := by unfold bne at g1; simpa using g1
        have hty : (l[k1].ty == (with2e l[k0].ty row[k].1).1) = true := by simpa using g2
        have B12 := B11.trans (hq12.below _)
        have t12 := blk_below t11 (hq12.below _) (blk_lt t11)
        refine ⟨_, blk_cell t12 0, (k_ContainsSteps (x1.less.below B12) _ _).gives fun w13 B13' => ⟨_, rfl, cnd (fun g3 => no _ (B12.trans (B13'.mono B12.size)) ?_) fun g3 => ?_⟩⟩
        · have : decide ((row[k].1, (k0 : Int) + 1) ∈ l[k1].less) = false := by simpa using g3
          simp only [stepOkG, hsk, hn1, this, if_true, Bool.and_false]
        · have hb : decide ((row[k].1, (k0 : Int) + 1) ∈ l[k1].less) = true := by simpa using g3
          refine ⟨yes _ ⟨B12.trans (B13'.mono B12.size), blk_below (blk_below q11 (hq12.below _) (blk_lt q11)) B13' (Nat.lt_of_lt_of_le (blk_lt q11) (hq12.below 0).size)⟩ ?_, dec hkn⟩
          rw [← hsk] at hb hty his hhas he
          rw [← hsk] at hn1
          simp only [stepOkG, hord, his, hn0, hn1, hhas, hb, hty, he, if_true, Bool.and_self]
      | false =>
        refine ⟨_, blk_cell t10 0, (k_tWithout (x0.ty.below B10) _).mono ?_⟩
        rintro _ w11 ⟨a11, n11, c11, rfl, hr11, B11'⟩
        have B11 := B10.trans (B11'.mono B10.size)
        have s11 := blk_below s10 B11' (blk_lt s10)
        have t11 := blk_below t10 B11' (blk_lt t10)
        have q11 := blk_below q10 B11' (blk_lt q10)
        refine ⟨_, _, _, _, rfl, _, _, _, blk_cell s11 2, cnd (fun g1 => no _ B11 ?_) fun g1 => ⟨_, _, _, blk_cell s11 1, (k_EqIds (x1.ty.below B11) hr11).tells fun w12 hq12 => ⟨_, rfl, cnd (fun g2 => no _ (B11.trans (hq12.below _)) ?_) fun g2 => ?_⟩⟩⟩
        · have : ((without2e l[k0].ty row[k].1).2 == 0) = false := by unfold bne at g1; simpa using g1
          simp only [stepOkG, hsk, hn0, this, Bool.false_eq_true, if_false, Bool.and_false, Bool.false_and]
        · have : (l[k1].ty == (without2e l[k0].ty row[k].1).1) = false := by simpa using g2
          simp only [stepOkG, hsk, hn0, hn1, this, Bool.false_eq_true, if_false, Bool.and_false, Bool.false_and]
        have he : ((without2e l[k0].ty row[k].1).2 == 0) = true := by unfold bne at g1; simpa using g1
        have hty : (l[k1].ty == (without2e l[k0].ty row[k].1).1) = true := by simpa using g2
        have B12 := B11.trans (hq12.below _)
        have t12 := blk_below t11 (hq12.below _) (blk_lt t11)
        refine ⟨_, blk_cell t12 0, (k_ContainsSteps (x1.plus.below B12) _ _).gives fun w13 B13' => ⟨_, rfl, cnd (fun g3 => no _ (B12.trans (B13'.mono B12.size)) ?_) fun g3 => ?_⟩⟩
        · have : decide ((row[k].1, (k0 : Int) + 1) ∈ l[k1].plus) = false := by simpa using g3
          simp only [stepOkG, hsk, hn1, this, Bool.false_eq_true, if_false, Bool.and_false]
        · have hb : decide ((row[k].1, (k0 : Int) + 1) ∈ l[k1].plus) = true := by simpa using g3
          refine ⟨yes _ ⟨B12.trans (B13'.mono B12.size), blk_below (blk_below q11 (hq12.below _) (blk_lt q11)) B13' (Nat.lt_of_lt_of_le (blk_lt q11) (hq12.below 0).size)⟩ ?_, dec hkn⟩
          rw [← hsk] at hb hty his hhas he
          rw [← hsk] at hn1
          simp only [stepOkG, hord, his, hn0, hn1, hhas, hb, hty, he, Bool.false_eq_true, if_false, Bool.and_self])
  · have hkn : ¬ k < rn := by simpa using hc
    refine ⟨?_, hB⟩
    have : stepsG l ((k0 : Int) + 1) row plus = true := by
      rw [stepsG, List.all_eq_true]
      intro j hj
      exact hok j (by have := List.mem_range.1 hj; omega)
    rw [this]
end
end Go.Eng
namespace Go.Eng
open Go Go.RowKit Go.Proofs
set_option maxRecDepth 10000
/-- The i-th node may be, by the code. -/
def nodeOkG (G : PG) (i : Nat) : Bool :=
  if (node G.nodes ((i : Int) + 1)).used = true then
    right2 (node G.nodes ((i : Int) + 1)).ty && (findL G.slots (node G.nodes ((i : Int) + 1)).ty).2 && ((findL G.slots (node G.nodes ((i : Int) + 1)).ty).1 == (i : Int) + 1) &&
      stepsG G.nodes ((i : Int) + 1) (node G.nodes ((i : Int) + 1)).plus true && stepsG G.nodes ((i : Int) + 1) (node G.nodes ((i : Int) + 1)).less false
  else decide ((node G.nodes ((i : Int) + 1)).ty.length + (node G.nodes ((i : Int) + 1)).plus.length + (node G.nodes ((i : Int) + 1)).less.length = 0)
/-- May a graph be, by the code? -/
def checkG (G : PG) : Bool :=
  decide (0 < G.nodes.length) && isN G.nodes (G.nodes.length : Int) && isN G.nodes 1 && decide ((node G.nodes 1).ty.length = 0) && checkL G.slots && (List.range G.nodes.length).all (nodeOkG G) && decide (manyN G.nodes = (allL G.slots).length)
/-- A graph that came in. -/
structure Grf (w : World) (a : Option Addr) (n c : Nat) (sa : Option Addr) (sn sc : Nat) (G : PG) : Prop where
  nodes : Nodes w a n c G.nodes
  slots : Ents w sa sn sc G.slots
theorem Grf.below {w w' : World} {a : Option Addr} {n c : Nat} {sa : Option Addr} {sn sc : Nat} {G : PG} (h : Grf w a n c sa sn sc G) (hB : Below w.heap.size w w') : Grf w' a n c sa sn sc G := ⟨h.nodes.below hB, h.slots.below hB⟩
theorem Nodes.len {w : World} {a : Option Addr} {n c : Nat} {l : List Node} (h : Nodes w a n c l) : n = l.length := by obtain ⟨rs, h1, h2⟩ := h; have := h1.len; have := h2.1; omega
theorem Ents.len {w : World} {a : Option Addr} {n c : Nat} {l : List Entry} (h : Ents w a n c l) : n = l.length := by obtain ⟨rs, h1, h2⟩ := h; have := h1.len; have := h2.1; omega
section
variable {w : World} {a sa : Option Addr} {n c sn sc : Nat} {G : PG}
theorem k_gCheck (h : Grf w a n c sa sn sc G) (hs : SmallG G) : Cl Tryz.prog 26 #[.agg #[.slice a n c, .slice sa sn sc]] w (Gives w (.int .i64 (if checkG G then 0 else 220))) := by
  refine c26 _ _ _ _ _ _ ?_
  have hE := h.nodes
  have hL := h.slots
  obtain ⟨rs, hrow, hall⟩ := h.nodes
  have el := hall.1
  obtain rfl : n = G.nodes.length := hE.len
  obtain rfl : sn = G.slots.length := hL.len
  have hs1 := hs.1.1; have hs2 := hs.2; have hsN := hs.1
  generalize hl : G.nodes = l at *
  have no : ∀ W, Below w.heap.size w W → checkG G = false → Gives w (.int .i64 (if checkG G then 0 else 220)) (.int .i64 220) W := fun W hB hf => ⟨by rw [hf]; rfl, hB⟩
  rintro _ w1 rfl h1
  have q1 : w1.heap[w.heap.size]? = some (.cells #[.slice a l.length c, .slice sa G.slots.length sc] 27) := by rw [h1]; exact blk_new _
  have B1 : Below w.heap.size w w1 := by rw [h1]; exact alloc_below _ _
  clear h1
  refine ⟨_, _, _, blk_cell q1 0, cnd (fun g => no _ B1 ?_) fun g => ?_⟩
  · have : l.length = 0 := by simpa using g
    simp [checkG, hl, this]
  have h0 : 0 < l.length := by
    have : l.length ≠ 0 := by intro h; rw [h] at g; simp at g
    omega
  clear g
  refine ⟨_, _, _, _, _, _, blk_cell q1 0, blk_cell q1 1, (k_gis (hE.below B1) _ (by simp only [I64]; omega)).gives fun w2 B2' => ⟨_, rfl, ?_⟩⟩
  have B2 := B1.trans (B2'.mono B1.size)
  have q2 := blk_below q1 B2' (blk_lt q1)
  refine cnd (fun g => no _ B2 ?_) fun g => ?_
  · have : isN l (l.length : Int) = false := by simpa using g
    simp [checkG, hl, this]
  have hi1 : isN l (l.length : Int) = true := by simpa using g
  clear g
  refine ⟨_, _, _, _, _, _, blk_cell q2 0, blk_cell q2 1, (k_gis (hE.below B2) _ (by simp [I64])).gives fun w3 B3' => ⟨_, rfl, ?_⟩⟩
  have B3 := B2.trans (B3'.mono B2.size)
  have q3 := blk_below q2 B3' (blk_lt q2)
  refine cnd (fun g => no _ B3 ?_) fun g => ?_
  · have : isN l 1 = false := by simpa using g
    simp [checkG, hl, this]
  have hi2 : isN l 1 = true := by simpa using g
  clear g
  have e1 : node l 1 = l[0] := by
    have := node_eq (l := l) (k := 0) h0
    simpa using this
  refine ⟨_, _, _, blk_cell q3 0, (hrow.below B3).nodeTy (i := 0) (by omega) fun hl0 => cnd (fun g => no _ B3 ?_) fun g => ?_⟩
  · have := (hall.2 0 hl0 h0).ty.len
    have hf : ¬ (node l 1).ty.length = 0 := by rw [e1, ← this]; simp at g; omega
    simp only [checkG, hl, hf, decide_false, Bool.and_false, Bool.false_and]
  have hty1 : (node l 1).ty.length = 0 := by
    have := (hall.2 0 hl0 h0).ty.len
    rw [e1, ← this]; simp at g; omega
  clear g
  refine ⟨_, _, _, blk_cell q3 1, (k_lCheck (hL.below B3) (by omega)).gives fun w4 B4' => ⟨_, rfl, ?_⟩⟩
  have B4 := B3.trans (B4'.mono B3.size)
  have q4 := blk_below q3 B4' (blk_lt q3)
  cases hck : checkL G.slots with
  | false =>
    rw [if_neg (by decide)]
    exact cnd (fun _ => no _ B4 (by simp only [checkG, hck, Bool.and_false, Bool.false_and])) fun g => absurd g (by decide)
  | true =>
  rw [if_pos rfl]
  refine cnd (fun g => absurd g (by decide)) fun _ => ?_
  refine ⟨_, _, _, blk_cell q4 0, fun _ many i W => (Below w.heap.size w W ∧ W.heap[w.heap.size]? = some (.cells #[.slice a l.length c, .slice sa G.slots.length sc] 27)) ∧ ∃ k : Nat, i = k ∧ k ≤ l.length ∧ many = ((manyN (l.take k) : Nat) : Int) ∧ ∀ j, j < k → nodeOkG G j = true, fun _ _ i _ => l.length - i.toNat, ⟨⟨B4, q4⟩, 0, rfl, by omega, rfl, by intros; omega⟩, ?_⟩
  rintro _ W _ _ _ ⟨⟨hB, q⟩, k, rfl, hk, rfl, hok⟩
  have hml := manyN_le (l.take k)
  have htk : (l.take k).length ≤ k := by simp; omega
  refine cnd (fun hc => ?_) fun hc => ?_
  · have hkn : k < l.length := by simpa using hc
    refine (hrow.below hB).nodeN hkn fun hl' => box_node fun w7 s7 B7' => ?_
    have B7 := hB.trans (B7'.mono hB.size)
    have q7 := blk_below q B7' (blk_lt q)
    have x := hall.2 k hl' hkn
    have hnk : node l ((k : Int) + 1) = l[k] := node_eq hkn
    have hsm := hsN.2 _ (List.getElem_mem hkn)
    have nok : ∀ W, Below w.heap.size w W → nodeOkG G k = false → Gives w (.int .i64 (if checkG G then 0 else 220)) (.int .i64 220) W := by
      intro W hB hf
      refine no W hB ?_
      have : (List.range l.length).all (nodeOkG G) = false := by
        rw [List.all_eq_false]
        exact ⟨k, List.mem_range.2 hkn, by rw [hf]; simp⟩
      simp only [checkG, hl, this, Bool.and_false, Bool.false_and]
    have yok : nodeOkG G k = true → ∀ j, j < k + 1 → nodeOkG G j = true := by
      intro ht j hj
      by_cases hjk : j = k
      · subst hjk; exact ht
      · exact hok j (by omega)
    have hsnoc := manyN_snoc (l.take k) l[k]
    rw [← take_one hkn] at hsnoc
    rw [nx (k := k) (by omega)]
    refine ⟨_, blk_cell s7 0, cnd (fun g => ?_) fun g => ?_⟩
    · have hu : l[k].used = false := by rw [← x.used]; simpa using g
      have t1 := x.ty.len; have t2 := x.plus.len; have t3 := x.less.len
      refine ⟨_, _, _, blk_cell s7 1, _, _, _, blk_cell s7 2, _, _, _, blk_cell s7 3, ?_⟩
      rw [wrap64 (i := ((rs[k].ty.n : Nat) : Int) + ((rs[k].plus.n : Nat) : Int)) (by omega) (by omega), wrap64 (by omega) (by omega)]
      refine cnd (fun g1 => nok _ B7 ?_) fun g1 => ?_
      · have hne : ¬ l[k].ty.length + l[k].plus.length + l[k].less.length = 0 := by
          have := of_decide_eq_true g1; omega
        simp only [nodeOkG, hl, hnk, hu, Bool.false_eq_true, if_false, hne, decide_false]
      · have he : l[k].ty.length + l[k].plus.length + l[k].less.length = 0 := by
          have := of_decide_eq_false g1; omega
        refine ⟨⟨⟨B7, q7⟩, k + 1, rfl, by omega, by rw [hsnoc, hu]; simp, yok ?_⟩, dec hkn⟩
        simp only [nodeOkG, hl, hnk, hu, Bool.false_eq_true, if_false, he, decide_true]
    · have hu : l[k].used = true := by rw [← x.used]; simpa using g
      refine ⟨_, _, _, blk_cell q7 1, _, _, _, blk_cell s7 1, (k_lFind (hL.below B7) (x.ty.below B7) x.rng.1 (by omega)).gives fun w8 B8' => ⟨_, _, rfl, ?_⟩⟩
      have B8 := B7.trans (B8'.mono B7.size)
      have q8 := blk_below q7 B8' (blk_lt q7)
      have s8 := blk_below s7 B8' (blk_lt s7)
      refine ⟨_, _, _, blk_cell s8 1, (k_tCheck (x.ty.below B8)).gives fun w9 B9' => ⟨_, rfl, ?_⟩⟩
      have B9 := B8.trans (B9'.mono B8.size)
      have q9 := blk_below q8 B9' (blk_lt q8)
      have s9 := blk_below s8 B9' (blk_lt s8)
      refine cnd (fun g1 => nok _ B9 ?_) fun g1 => ?_
      · have : right2 l[k].ty = false := by cases hr : right2 l[k].ty <;> simp [check2, hr] at g1 ⊢
        simp only [nodeOkG, hl, hnk, hu, if_true, this, Bool.false_and]
      have h2 : right2 l[k].ty = true := by cases hr : right2 l[k].ty <;> simp [check2, hr] at g1 ⊢
      refine cnd (fun g2 => nok _ B9 ?_) fun g2 => cnd (fun g3 => nok _ B9 ?_) fun g3 => ?_
      · have : (findL G.slots l[k].ty).2 = false := by simpa using g2
        simp only [nodeOkG, hl, hnk, hu, if_true, this, Bool.and_false, Bool.false_and]
      · have : ((findL G.slots l[k].ty).1 == (k : Int) + 1) = false := by
          have : ((k + 1 : Nat) : Int) = (k : Int) + 1 := by omega
          rw [this] at g3; simpa using g3
        simp only [nodeOkG, hl, hnk, hu, if_true, this, Bool.and_false, Bool.false_and]
      have hf2 : (findL G.slots l[k].ty).2 = true := by simpa using g2
      have hf1 : ((findL G.slots l[k].ty).1 == (k : Int) + 1) = true := by
        have : ((k + 1 : Nat) : Int) = (k : Int) + 1 := by omega
        rw [this] at g3; simpa using g3
      have hr1 : ∀ s ∈ l[k].plus, I64 s.2 := fun s hs => (x.rng.2 s (by simp [hs])).2.2
      have hr2 : ∀ s ∈ l[k].less, I64 s.2 := fun s hs => (x.rng.2 s (by simp [hs])).2.2
      refine ⟨_, _, _, _, _, _, blk_cell q9 0, blk_cell q9 1, _, _, _, blk_cell s9 2, (k_gsteps (hE.below B9) hsN hkn (x.plus.below B9) hr1 true).gives fun w10 B10' => ⟨_, rfl, ?_⟩⟩
      have B10 := B9.trans (B10'.mono B9.size)
      have q10 := blk_below q9 B10' (blk_lt q9)
      have s10 := blk_below s9 B10' (blk_lt s9)
      refine cnd (fun g3 => nok _ B10 ?_) fun g3 => ?_
      · have : stepsG l ((k : Int) + 1) l[k].plus true = false := by simpa using g3
        simp only [nodeOkG, hl, hnk, hu, if_true, this, Bool.and_false, Bool.false_and]
      have hp : stepsG l ((k : Int) + 1) l[k].plus true = true := by simpa using g3
      refine ⟨_, _, _, _, _, _, blk_cell q10 0, blk_cell q10 1, _, _, _, blk_cell s10 3, (k_gsteps (hE.below B10) hsN hkn (x.less.below B10) hr2 false).gives fun w11 B11' => ⟨_, rfl, ?_⟩⟩
      have B11 := B10.trans (B11'.mono B10.size)
      have q11 := blk_below q10 B11' (blk_lt q10)
      refine cnd (fun g4 => nok _ B11 ?_) fun g4 => ?_
      · have : stepsG l ((k : Int) + 1) l[k].less false = false := by simpa using g4
        simp only [nodeOkG, hl, hnk, hu, if_true, this, Bool.and_false]
      have hl4 : stepsG l ((k : Int) + 1) l[k].less false = true := by simpa using g4
      rw [nx (by omega)]
      refine ⟨⟨⟨B11, q11⟩, k + 1, rfl, by omega, by rw [hsnoc, hu]; simp, yok ?_⟩, dec hkn⟩
      simp only [nodeOkG, hl, hnk, hu, if_true, h2, hf1, hf2, hp, hl4, Bool.and_self]
  · have hkn : ¬ k < l.length := by simpa using hc
    obtain rfl : k = l.length := by omega
    refine ⟨_, _, _, blk_cell q 1, (k_lMany (hL.below hB) (by omega)).gives fun w12 B12' => ⟨_, rfl, ?_⟩⟩
    have B12 := hB.trans (B12'.mono hB.size)
    rw [List.take_length]
    have hallok : (List.range l.length).all (nodeOkG G) = true := by
      rw [List.all_eq_true]; intro j hj; exact hok j (List.mem_range.1 hj)
    refine cnd (fun g => no _ B12 ?_) fun g => ⟨?_, B12⟩
    · have : ¬ manyN l = (allL G.slots).length := by
        intro h; rw [h] at g; simp at g
      simp only [checkG, hl, this, decide_false, Bool.and_false]
    · have : manyN l = (allL G.slots).length := by
        have h : ((manyN l : Nat) : Int) = (((allL G.slots).length : Nat) : Int) := by simpa using g
        exact Int.ofNat.inj h
      have : checkG G = true := by
        simp only [checkG, hl, h0, hi1, hi2, hty1, hck, hallok, this, decide_true, Bool.and_self]
      rw [this]; rfl
theorem k_gFind {la : Option Addr} {ln lc : Nat} {t : List Int} (h : Grf w a n c sa sn sc G) (hs : SmallG G) (ht : Row encId w la ln lc t) (hr : Rng t) :
    Cl Tryz.prog 31 #[.agg #[.slice a n c, .slice sa sn sc], .slice la ln lc] w (Gives w (.tuple #[.int .i64 (if checkG G then findL G.slots t else (0, false)).1, .bool (if checkG G then findL G.slots t else (0, false)).2])) := by
  refine c31 _ _ _ _ _ _ _ _ _ ?_
  have hs2 := hs.2
  have hsl := h.slots.len
  rintro _ w1 rfl h1
  have q1 : w1.heap[w.heap.size]? = some (.cells #[.slice a n c, .slice sa sn sc] 27) := by rw [h1]; exact blk_new _
  have B1 : Below w.heap.size w w1 := by rw [h1]; exact alloc_below _ _
  clear h1
  refine ⟨_, _, _, _, _, _, blk_cell q1 0, blk_cell q1 1, (k_gCheck (h.below B1) hs).gives fun w2 B2' => ⟨_, rfl, ?_⟩⟩
  have B2 := B1.trans (B2'.mono B1.size)
  have q2 := blk_below q1 B2' (blk_lt q1)
  cases hc : checkG G with
  | false => exact ⟨rfl, B2⟩
  | true =>
    refine ⟨_, _, _, blk_cell q2 1, (k_lFind (h.slots.below B2) (ht.below B2) hr (by omega)).gives fun w3 B3' => ⟨_, _, rfl, rfl, B2.trans (B3'.mono B2.size)⟩⟩
/-- A node's type; the error. -/
def typeG (G : PG) (n : Int) : List Int × Int := if checkG G = false then ([], 220) else if isN G.nodes n = false then ([], 2) else ((node G.nodes n).ty, 0)
/-- A row of ids in memory of its own, and an error. -/
def OwnE (w : World) (p : List Int × Int) (v : Value) (w' : World) : Prop := ∃ a n c, v = .tuple #[.slice a n c, .int .i64 p.2] ∧ Own encId 1 32 w.heap.size w' a n c p.1 ∧ Below w.heap.size w w'
theorem ownE {w w' : World} {p : List Int × Int} {l' : List Int} {e : Int} {a : Option Addr} {n c : Nat} (hp : p = (l', e)) (hd : Own encId 1 32 w.heap.size w' a n c l') (hB : Below w.heap.size w w') : OwnE w p (.tuple #[.slice a n c, .int .i64 e]) w' := by
  subst hp; exact ⟨_, _, _, rfl, hd, hB⟩
theorem k_gType (h : Grf w a n c sa sn sc G) (hs : SmallG G) (m : Int) (hm : I64 m) : Cl Tryz.prog 24 #[.agg #[.slice a n c, .slice sa sn sc], .int .i64 m] w (OwnE w (typeG G m)) := by
  refine c24 _ _ _ _ _ _ _ ?_
  have hs1 := hs.1.1
  obtain ⟨rs, hrow, hall⟩ := h.nodes
  have el := hall.1
  have hnl := hrow.len
  rintro _ w1 rfl h1
  have q1 : w1.heap[w.heap.size]? = some (.cells #[.slice a n c, .slice sa sn sc] 27) := by rw [h1]; exact blk_new _
  have B1 : Below w.heap.size w w1 := by rw [h1]; exact alloc_below _ _
  clear h1
  refine ⟨_, _, _, _, _, _, blk_cell q1 0, blk_cell q1 1, (k_gCheck (h.below B1) hs).gives fun w2 B2' => ⟨_, rfl, ?_⟩⟩
  have B2 := B1.trans (B2'.mono B1.size)
  have q2 := blk_below q1 B2' (blk_lt q1)
  cases hc : checkG G with
  | false => exact ownE (by simp [typeG, hc]) Own.nil B2
  | true =>
    refine ⟨_, _, _, _, _, _, blk_cell q2 0, blk_cell q2 1, (k_gis (h.nodes.below B2) m hm).gives fun w3 B3' => ⟨_, rfl, ?_⟩⟩
    have B3 := B2.trans (B3'.mono B2.size)
    have q3 := blk_below q2 B3' (blk_lt q2)
    refine cnd (fun g => ?_) fun g => ?_
    · have : isN G.nodes m = false := by simpa using g
      exact ownE (by simp [typeG, hc, this]) Own.nil B3
    · have hi : isN G.nodes m = true := by simpa using g
      obtain ⟨k, rfl, hk⟩ := isN_iff hi
      refine ⟨_, _, _, blk_cell q3 0, ?_⟩
      rw [pre2 (k := k) (by omega)]
      refine (hrow.below B3).nodeTy (i := k) (by omega) fun hl => ?_
      have x := hall.2 k hl hk
      have hsm := (hs.1.2 _ (List.getElem_mem hk)).1
      have hxl := x.ty.len
      refine (k_clonedIds (x.ty.below B3) (by omega)).mono ?_
      rintro _ w4 ⟨a4, n4, c4, rfl, ho, B4⟩
      refine ⟨_, _, _, rfl, ownE (by simp [typeG, hc, hi, node_eq hk]) (ho.mono B3.size) (B3.trans (B4.mono B3.size))⟩
end
end Go.Eng
namespace Go.Eng
open Go Go.RowKit Go.Proofs
set_option maxRecDepth 10000
def rnode (rs : List RNode) (i : Nat) : RNode := rs.getD i default
theorem rnode_eq {rs : List RNode} {i : Nat} (h : i < rs.length) : rnode rs i = rs[i] := by simp [rnode, h]
def nodeV (rs : List RNode) (i : Nat) : List Value := [.int .i64 ((i : Int) + 1), .agg (encNode (rnode rs i)).toArray]
/-- What is yielded of the first k nodes. -/
def usedV (rs : List RNode) (k : Nat) : List (List Value) := ((List.range k).filter fun i => (rnode rs i).used).map (nodeV rs)
theorem usedV_step (rs : List RNode) (k : Nat) : usedV rs (k + 1) = usedV rs k ++ (if (rnode rs k).used = true then [nodeV rs k] else []) := by
  unfold usedV
  rw [List.range_succ, List.filter_append, List.map_append]
  congr 1
  simp only [List.filter_cons, List.filter_nil]
  split <;> simp
theorem usedV_pre (rs : List RNode) {k n : Nat} (h : k ≤ n) : usedV rs k <+: usedV rs n := by
  have := filter_pre (fun i => (rnode rs i).used) (List.range n) k
  rw [List.take_range, Nat.min_eq_left h] at this
  obtain ⟨r, hr⟩ := this
  exact ⟨r.map (nodeV rs), by unfold usedV; rw [← List.map_append, hr]⟩
theorem usedV_more (rs : List RNode) {k n : Nat} (h : k < n) (hu : (rnode rs k).used = true) : (usedV rs k).length < (usedV rs n).length := by
  have := (usedV_pre rs (show k + 1 ≤ n from h)).length_le
  rw [usedV_step, if_pos hu] at this
  simp at this; omega
theorem usedV_len (rs : List RNode) (k : Nat) : (usedV rs k).length ≤ k := by
  unfold usedV
  have := List.length_filter_le (fun i => (rnode rs i).used) (List.range k)
  simpa using this
def num1 : List Value → Int
  | .int _ x :: _ => x
  | _ => 0
def nums (l : List (List Value)) : List Int := l.map num1
theorem keepsFrom_own {α : Type} {enc : α → List Value} {k : Nat} {e : TypeId} {lo B : Nat} {W W' : World} {a : Option Addr} {n c : Nat} {l : List α} (h : Own enc k e lo W a n c l) (hg : W.grownBy W' (a.map (·.block))) : KeepsFrom B W W' := by
  refine ⟨hg.size, fun b o _ hb ho => (hg.block b (blk_lt hb) ?_).trans hb⟩
  intro heq
  rcases h.2.2.2 with ⟨h1, _⟩ | ⟨g', cs, h1, _, h2, _⟩
  · rw [h1] at heq; cases heq
  · rw [h1] at heq; cases heq; rw [hb] at h2; cases h2; simp [Obj.isCells] at ho
theorem ks_own {α : Type} {enc : α → List Value} {k : Nat} {e : TypeId} {lo : Nat} {S : Nat → Prop} {W W' : World} {a : Option Addr} {n c : Nat} {l : List α} (h : Own enc k e lo W a n c l) (hg : W.grownBy W' (a.map (·.block))) (hS : ∀ k, S k → k < lo ∧ k < W.heap.size) : KS S W W' := by
  refine ⟨hg.size, fun b hb => hg.block b (hS b hb).2 ?_⟩
  intro heq
  rcases h.2.2.2 with ⟨h1, _⟩ | ⟨g', cs, h1, h3, h2, _⟩
  · rw [h1] at heq; cases heq
  · rw [h1] at heq; cases heq; have := (hS _ hb).1; dsimp only at this; omega
section
variable {w : World} {a sa : Option Addr} {n c sn sc : Nat} {G : PG} {rs : List RNode}
theorem seqs_gused1 {c0 : Addr} (h0 : w.cell? c0 = some (.slice a n c)) (h : Row encNode w a n c rs) (hn : n ≤ 1048576) {S : Nat → Prop} (s1 : S c0.block) (s2 : rs ≠ [] → ∀ p, a = some p → S p.block) (hS : ∀ k, S k → k < w.heap.size) :
    Seqs Tryz.prog 118 [.pointer (some c0)] (usedV rs rs.length) (KS S) w := by
  obtain rfl : n = rs.length := h.len
  refine seqs_of fun k J Jx W hW hJ hJx hy hJ0 => ?_
  have hW0 : KS S w W := KS.of_below hW hS
  refine c118 _ _ ⟨_, _, _, hW0.cell s1 h0, fun i W' => KS S w W' ∧ ∃ k : Nat, i = k ∧ k ≤ rs.length ∧ J (usedV rs k) W', fun i _ => rs.length - i.toNat, ⟨hW0, 0, rfl, by omega, hJ0⟩, ?_⟩
  rintro _ w1 _ ⟨hB, k, rfl, hk, hj⟩
  refine cnd (fun hc => ?_) fun hc => ?_
  · have hkn : k < rs.length := by simpa using hc
    refine ⟨_, _, _, hB.cell s1 h0, (h.ks hB s2).nodeN hkn fun hl => box_node fun w3 s3 B3 => ⟨_, blk_cell s3 0, ?_⟩⟩
    have hB3 : KS S w w3 := hB.trans (KS.of_below B3 fun k hk => by have := hS k hk; have := hB.1; omega)
    have hj3 := hJ _ _ _ hj B3
    have hrn : rnode rs k = rs[k] := rnode_eq hkn
    rw [nx (by omega)]
    refine cnd (fun g => ?_) fun g => ?_
    · have hu : (rnode rs k).used = true := by rw [hrn]; exact g
      have hstep := usedV_step rs k
      rw [if_pos hu] at hstep
      have hval : nodeV rs k = [.int .i64 ((k + 1 : Nat) : Int), .agg #[.bool rs[k].used, .slice rs[k].ty.a rs[k].ty.n rs[k].ty.c, .slice rs[k].plus.a rs[k].plus.n rs[k].plus.c, .slice rs[k].less.a rs[k].less.n rs[k].less.c]] := by
        unfold nodeV; rw [hrn]; rfl
      refine ⟨_, _, _, _, _, _, _, _, _, _, blk_cell s3 0, blk_cell s3 1, blk_cell s3 2, blk_cell s3 3, ?_⟩
      rw [← hval]
      refine (hy _ (nodeV rs k) w3 ?_ hj3 (usedV_more rs hkn hu)).mono fun y W' hyy => ?_
      · have := (usedV_pre rs (show k + 1 ≤ rs.length from hkn)).subset
        exact this (by rw [hstep]; simp)
      · rw [← hstep] at hyy
        refine cnd (fun h5 => .inr ?_) fun h5 => ?_
        · have : y = false := by simpa using h5
          subst this
          exact ⟨_, usedV_pre rs hkn, hyy⟩
        · have : y = true := by simpa using h5
          subst this
          exact ⟨⟨hB3.trans hyy.2, k + 1, rfl, by omega, hyy.1⟩, dec hkn⟩
    · have hu : ¬ (rnode rs k).used = true := by rw [hrn, g]; simp
      have hstep := usedV_step rs k
      rw [if_neg hu, List.append_nil] at hstep
      exact ⟨⟨hB3, k + 1, rfl, by omega, by rw [hstep]; exact hj3⟩, dec hkn⟩
  · have hkn : ¬ k < rs.length := by simpa using hc
    obtain rfl : k = rs.length := by omega
    exact .inl hj
theorem nums_used {w : World} {l : List Node} (hall : All2 (IsNode w) rs l) : nums (usedV rs rs.length) = usedN l := by
  have hl := hall.1
  unfold nums usedV usedN
  rw [List.map_map, hl]
  have h1 : (List.range l.length).filter (fun i => (rnode rs i).used) = (List.range l.length).filter (fun i : Nat => (node l ((i : Int) + 1)).used) := by
    refine List.filter_congr fun i hi => ?_
    have hi' := List.mem_range.1 hi
    rw [rnode_eq (by omega), node_eq hi', (hall.2 i (by omega) hi').used]
  rw [h1]
  rfl
theorem k_gUsed (h : Grf w a n c sa sn sc G) (hs : SmallG G) : Cl Tryz.prog 29 #[.agg #[.slice a n c, .slice sa sn sc]] w (Made encInt 1 3 w (if checkG G = true then usedN G.nodes else [])) := by
  refine c29 _ _ _ _ _ _ ?_
  have hs1 := hs.1.1
  obtain ⟨rs, hrow, hall⟩ := h.nodes
  have el := hall.1
  have hnl := hrow.len
  rintro _ w1 rfl h1
  have q1 : w1.heap[w.heap.size]? = some (.cells #[.slice a n c, .slice sa sn sc] 27) := by rw [h1]; exact blk_new _
  have B1 : Below w.heap.size w w1 := by rw [h1]; exact alloc_below _ _
  clear h1
  refine ⟨_, _, _, _, _, _, blk_cell q1 0, blk_cell q1 1, (k_gCheck (h.below B1) hs).gives fun w2 B2' => ⟨_, rfl, ?_⟩⟩
  have B2 := B1.trans (B2'.mono B1.size)
  have q2 := blk_below q1 B2' (blk_lt q1)
  cases hc : checkG G with
  | false => exact ⟨_, _, _, rfl, Own.nil, B2⟩
  | true =>
  rw [if_pos rfl, if_pos rfl]
  refine cnd (fun g => absurd g (by decide)) fun _ => ?_
  rintro _ w3 rfl h3
  have z3 : w3.heap.size = w2.heap.size + 1 := by rw [h3, size_alloc]
  have p3 : w3.heap[w2.heap.size]? = some (.cells #[.slice none 0 0] 64) := by rw [h3]; exact blk_new _
  have B23 : Below w2.heap.size w2 w3 := by rw [h3]; exact alloc_below _ _
  have q3 := blk_below q2 B23 (blk_lt q2)
  clear h3
  refine ⟨_, _, _, _, _, _, blk_cell q3 0, blk_cell q3 1, c79 _ _ _ _ _ _ ?_⟩
  rintro _ w4 rfl h4
  have z4 : w4.heap.size = w3.heap.size + 1 := by rw [h4, size_alloc]
  have r4 : w4.heap[w3.heap.size]? = some (.cells #[.slice a n c, .slice sa sn sc] 27) := by rw [h4]; exact blk_new _
  have B34 : Below w3.heap.size w3 w4 := by rw [h4]; exact alloc_below _ _
  have p4 := blk_below p3 B34 (blk_lt p3)
  have B4 := B2.trans ((B23.trans (B34.mono B23.size)).mono B2.size)
  have hw2 := B2.size
  clear h4
  have hseq := seqs_gused1 (S := fun k => k < w.heap.size ∨ k = w3.heap.size) (blk_cell r4 0) (hrow.below B4) (by omega) (.inr rfl) (fun hne p hp => .inl (hrow.block_lt enNode (by decide) hne p hp)) (fun k hk => by omega)
  have hnums := nums_used hall
  have hxl := usedV_len rs rs.length
  have hty : ∀ vs ∈ usedV rs rs.length, hasT Tryz.prog [3, 56] vs := by
    intro vs hvs
    obtain ⟨k, _, rfl⟩ := List.mem_map.1 hvs
    exact ⟨_, _, _, _, _, _, _, _, _, _, _, rfl⟩
  generalize hxs : usedV rs rs.length = xs at hseq hnums hxl hty
  refine ⟨_, [_], rfl, xs, KS fun k => k < w.heap.size ∨ k = w3.heap.size,
    fun pre W => (∃ oa on oc, W.heap[w2.heap.size]? = some (.cells #[.slice oa on oc] 64) ∧ Own encInt 1 3 w4.heap.size W oa on oc (nums pre)) ∧ Below w2.heap.size w4 W,
    fun _ _ _ => False, ⟨?_, hseq, hty, keepOk_ks (fun k hk => by omega), ?_, fun e s W W' row hI _ _ => hI, ⟨_, _, _, p4, Own.nil⟩, Below.refl _ _⟩, ?_, ?_, ?_, trivial⟩
  · exact ent_of Tryz.func118 (by kernel_rfl) rfl
  · intro s W W' row hI hg hrw
    obtain ⟨⟨oa, on, oc, i1, i2⟩, i3⟩ := hI
    exact ⟨⟨oa, on, oc, ownFrom_blk (β := Unit) () W W' row i1 hg hrw, ownFrom_own (β := Unit) () W W' row i2 hg hrw⟩, ownFrom_below (β := Unit) (by omega) (by omega) () W W' row i3 hg hrw⟩
  · rintro pre W e e2 e3a e3n e3c e4a e4n e4c e5a e5n e5c he hlen ⟨⟨oa, on, oc, hb, ho⟩, hB⟩
    have hon : on = pre.length := by have := ho.len; simpa [nums] using this
    have hWs := hB.size
    refine ⟨_, _, _, blk_cell hb 0, app1 tyInts enInt ho hWs e (by simp only [maxLen]; omega) (by omega) fun a' c' w7 ho' hg => ?_⟩
    have hb7 := ho.keepBlk hg hb (.inl (by decide))
    refine ⟨blk_some hb7 (by simp), blk_free hb7 _, ?_⟩
    rintro w8 rfl
    have hk7 : KS (fun k => k < w.heap.size ∨ k = w3.heap.size) W w7 := ks_own ho hg (fun k hk => by omega)
    refine ⟨(keepsFrom_own ho hg).trans (keepsFrom_set hb7 _), hk7.trans ⟨by simp, fun k hk => Below.heap_setCell _ _ _ _ (by show k ≠ w2.heap.size; omega)⟩, ⟨_, _, _, blk_set hb7 0 _, ?_⟩, (hB.trans ((ho.belowOf hg hWs).mono (by omega))).setCell (Nat.le_refl _) _⟩
    have : nums (pre ++ [[.int .i64 e, .agg #[.bool e2, .slice e3a e3n e3c, .slice e4a e4n e4c, .slice e5a e5n e5c]]]) = nums pre ++ [e] := by simp [nums, num1]
    rw [this]
    exact ho'.far hb7 (by decide) _
  · rintro D W hD ⟨⟨oa, on, oc, hb, ho⟩, hB⟩ hd
    refine ⟨_, _, _, blk_cell hb 0, hd, ?_⟩
    rintro _ rfl
    rw [hnums] at ho
    refine ⟨_, _, _, rfl, ?_, ?_⟩
    · have := ownFrom_own (β := Unit) (B := D) () W (W.putObj D (.deferred none)) (some D) ho (grownBy_putObj' _ D _) (fun r e => by cases e; exact ⟨Nat.le_refl _, _, hd, rfl⟩)
      exact this.mono (by have := B4.size; omega)
    · exact B4.trans ((hB.mono hw2).trans ((Below.refl _ _).grown (grownBy_putObj' _ D _) (by have := hB.size; omega) (fun k e => by cases e; omega)))
  · intro D pre W _ _ hx; exact hx.elim
end
end Go.Eng
namespace Go.Eng
open Go Go.RowKit Go.Proofs
set_option maxRecDepth 10000
abbrev NP := RNode × Node
structure NodeSays (r : RNode) (x : Node) : Prop where
  used : r.used = x.used
  rng : Rng x.ty ∧ (∀ s ∈ x.plus ++ x.less, 0 ≤ s.1 ∧ s.1 < 18446744073709551616 ∧ I64 s.2)
/-- A node's rows, in memory of one's own. -/
structure OwnN (lo : Nat) (w : World) (r : RNode) (x : Node) : Prop where
  ty : OwnTy lo w r.ty x.ty
  plus : Own encStp 2 71 lo w r.plus.a r.plus.n r.plus.c x.plus
  less : Own encStp 2 71 lo w r.less.a r.less.n r.less.c x.less
def Tight (r : RNode) : Prop := r.plus.c = r.plus.n ∧ r.less.c = r.less.n
theorem OwnN.is {lo : Nat} {w : World} {r : RNode} {x : Node} (h : OwnN lo w r x) (hs : NodeSays r x) : IsNode w r x := ⟨hs.used, h.ty.row, h.plus.row, h.less.row, hs.rng⟩
theorem IsNode.says {w : World} {r : RNode} {x : Node} (h : IsNode w r x) : NodeSays r x := ⟨h.used, h.rng⟩
theorem OwnN.below {lo : Nat} {w w' : World} {r : RNode} {x : Node} (h : OwnN lo w r x) (hB : Below w.heap.size w w') : OwnN lo w' r x := ⟨h.ty.below hB, h.plus.below hB, h.less.below hB⟩
theorem OwnN.mono {lo lo' : Nat} {w : World} {r : RNode} {x : Node} (h : OwnN lo w r x) (hl : lo' ≤ lo) : OwnN lo' w r x := ⟨h.ty.mono hl, h.plus.mono hl, h.less.mono hl⟩
/-- A row of another kind is turned. -/
theorem OwnN.keepBy {α : Type} {enc : α → List Value} {k : Nat} {e : TypeId} {lo lo' : Nat} {w w' : World} {a : Option Addr} {n c : Nat} {l : List α} {r : RNode} {x : Node} (h : OwnN lo w r x) (ho : Own enc k e lo' w a n c l) (hg : w.grownBy w' (a.map (·.block))) (h1 : 32 ≠ e) (h2 : 71 ≠ e) : OwnN lo w' r x :=
  ⟨ho.keepOwn hg h.ty h1, ho.keepOwn hg h.plus h2, ho.keepOwn hg h.less h2⟩
theorem OwnN.farB {lo : Nat} {w : World} {r : RNode} {x : Node} (h : OwnN lo w r x) {b : Nat} {cs : Array Value} {t : TypeId} {fr : Nat × Nat} (hb : w.heap[b]? = some (.cells cs t fr)) (h1 : t ≠ 32) (h2 : t ≠ 71) {j : Nat} (v : Value) : OwnN lo (w.setCell ⟨b, j, none⟩ v) r x :=
  ⟨h.ty.far hb h1 v, h.plus.far hb h2 v, h.less.far hb h2 v⟩
def sblk (r : RNode) : List Nat := (r.plus.a.map (·.block)).toList ++ (r.less.a.map (·.block)).toList
/-- The blocks of the steps. -/
def sblks (rs : List RNode) : List Nat := rs.flatMap sblk
/-- Nodes in memory of one's own, their rows too. -/
def DNodes (lo : Nat) (w : World) (a : Option Addr) (n c : Nat) (l : List Node) : Prop :=
  ∃ qs : List NP, qs.map (·.2) = l ∧ Own encNode 4 56 lo w a n c (qs.map (·.1)) ∧ ∀ p ∈ qs, NodeSays p.1 p.2 ∧ OwnN lo w p.1 p.2
/-- .. each step's row by itself, without room. -/
def DNodesT (lo : Nat) (w : World) (a : Option Addr) (n c : Nat) (l : List Node) : Prop :=
  ∃ qs : List NP, qs.map (·.2) = l ∧ Own encNode 4 56 lo w a n c (qs.map (·.1)) ∧ (∀ p ∈ qs, NodeSays p.1 p.2 ∧ OwnN lo w p.1 p.2 ∧ Tight p.1) ∧ (sblks (qs.map (·.1))).Nodup
theorem Nodes.pairs {w : World} {a : Option Addr} {n c : Nat} {l : List Node} (h : Nodes w a n c l) : ∃ ps : List NP, Row encNode w a n c (ps.map (·.1)) ∧ (∀ p ∈ ps, IsNode w p.1 p.2) ∧ ps.map (·.2) = l := by
  obtain ⟨rs, h1, h2⟩ := h
  have hl := h2.1
  refine ⟨rs.zip l, ?_, ?_, ?_⟩
  · rw [List.map_fst_zip (by omega)]; exact h1
  · intro p hp
    obtain ⟨i, hi, rfl⟩ := List.mem_iff_getElem.1 hp
    simp only [List.length_zip] at hi
    simpa using h2.2 i (by omega) (by omega)
  · rw [List.map_snd_zip (by omega)]
theorem all2_npairs {w : World} {ps : List NP} (h : ∀ p ∈ ps, IsNode w p.1 p.2) : All2 (IsNode w) (ps.map (·.1)) (ps.map (·.2)) :=
  ⟨by simp, fun i h1 h2 => by simp at h1; simpa using h _ (List.getElem_mem h1)⟩
theorem DNodes.nodes {lo : Nat} {w : World} {a : Option Addr} {n c : Nat} {l : List Node} (h : DNodes lo w a n c l) : Nodes w a n c l := by
  obtain ⟨qs, rfl, ho, hq⟩ := h
  exact ⟨_, ho.row, all2_npairs fun p hp => (hq p hp).2.is (hq p hp).1⟩
theorem DNodesT.d {lo : Nat} {w : World} {a : Option Addr} {n c : Nat} {l : List Node} (h : DNodesT lo w a n c l) : DNodes lo w a n c l := by
  obtain ⟨qs, h1, ho, hq, _⟩ := h
  exact ⟨qs, h1, ho, fun p hp => ⟨(hq p hp).1, (hq p hp).2.1⟩⟩
theorem DNodes.below {lo : Nat} {w w' : World} {a : Option Addr} {n c : Nat} {l : List Node} (h : DNodes lo w a n c l) (hB : Below w.heap.size w w') : DNodes lo w' a n c l := by
  obtain ⟨qs, rfl, ho, hq⟩ := h
  exact ⟨qs, rfl, ho.below hB, fun p hp => ⟨(hq p hp).1, (hq p hp).2.below hB⟩⟩
theorem DNodes.mono {lo lo' : Nat} {w : World} {a : Option Addr} {n c : Nat} {l : List Node} (h : DNodes lo w a n c l) (hl : lo' ≤ lo) : DNodes lo' w a n c l := by
  obtain ⟨qs, rfl, ho, hq⟩ := h
  exact ⟨qs, rfl, ho.mono hl, fun p hp => ⟨(hq p hp).1, (hq p hp).2.mono hl⟩⟩
theorem DNodes.len {lo : Nat} {w : World} {a : Option Addr} {n c : Nat} {l : List Node} (h : DNodes lo w a n c l) : n = l.length := h.nodes.len
theorem DNodes.nil {lo : Nat} {w : World} : DNodes lo w none 0 0 [] := ⟨[], rfl, Own.nil, by simp⟩
theorem DNodes.farB {lo : Nat} {w : World} {a : Option Addr} {n c : Nat} {l : List Node} (h : DNodes lo w a n c l) {b : Nat} {cs : Array Value} {t : TypeId} {fr : Nat × Nat} (hb : w.heap[b]? = some (.cells cs t fr)) (h0 : t ≠ 56) (h1 : t ≠ 32) (h2 : t ≠ 71) {j : Nat} (v : Value) : DNodes lo (w.setCell ⟨b, j, none⟩ v) a n c l := by
  obtain ⟨qs, rfl, ho, hq⟩ := h
  exact ⟨qs, rfl, ho.far hb h0 v, fun p hp => ⟨(hq p hp).1, (hq p hp).2.farB hb h1 h2 v⟩⟩
theorem DNodesT.farB {lo : Nat} {w : World} {a : Option Addr} {n c : Nat} {l : List Node} (h : DNodesT lo w a n c l) {b : Nat} {cs : Array Value} {t : TypeId} {fr : Nat × Nat} (hb : w.heap[b]? = some (.cells cs t fr)) (h0 : t ≠ 56) (h1 : t ≠ 32) (h2 : t ≠ 71) {j : Nat} (v : Value) : DNodesT lo (w.setCell ⟨b, j, none⟩ v) a n c l := by
  obtain ⟨qs, rfl, ho, hq, hn⟩ := h
  exact ⟨qs, rfl, ho.far hb h0 v, fun p hp => ⟨(hq p hp).1, (hq p hp).2.1.farB hb h1 h2 v, (hq p hp).2.2⟩, hn⟩
/-- Two cells of a box are put, and read again. -/
theorem put_back2 {W : World} {b : Nat} {v0 v1 : Value} {t : TypeId} {a a2 : Option Addr} {n c n2 c2 : Nat} (q : W.heap[b]? = some (.cells #[v0, v1] t (0, 0))) {K : Option Addr → Nat → Nat → Option Addr → Nat → Nat → World → Prop}
    (hK : ∀ W', W' = (W.setCell ⟨b, 0, none⟩ (.slice a n c)).setCell ⟨b, 1, none⟩ (.slice a2 n2 c2) → W'.heap[b]? = some (.cells #[.slice a n c, .slice a2 n2 c2] t (0, 0)) → K a n c a2 n2 c2 W') :
    ((W.cell? (Addr.mk b 0 none)).isSome = true ∧ W.frozen? (Addr.mk b 0 none) = false ∧ ((W.cell? ((Addr.mk b 0 none).add 1)).isSome = true ∧ W.frozen? ((Addr.mk b 0 none).add 1) = false ∧
    (∀ w4 : World, w4 = (W.setCell (Addr.mk b 0 none) (.slice a n c)).setCell ((Addr.mk b 0 none).add 1) (.slice a2 n2 c2) →
    (∃ (ra : Option Addr) (rn : Nat) (rc : Nat) (r2a : Option Addr) (r2n : Nat) (r2c : Nat), w4.cell? (Addr.mk b 0 none) = some (.slice ra rn rc) ∧ w4.cell? ((Addr.mk b 0 none).add 1) = some (.slice r2a r2n r2c) ∧ K ra rn rc r2a r2n r2c w4)))) := by
  refine ⟨blk_some q (by simp), blk_free q _, blk_some q (j := 1) (by simp), blk_free q 1, ?_⟩
  rintro w4 h4
  have hq : w4.heap[b]? = some (.cells #[.slice a n c, .slice a2 n2 c2] t (0, 0)) := by rw [h4]; exact blk_set (blk_set q 0 _) 1 _
  exact ⟨a, n, c, a2, n2, c2, blk_cell hq 0, blk_cell hq 1, hK w4 h4 hq⟩
end Go.Eng
namespace Go.Eng
open Go Go.RowKit Go.Proofs
set_option maxRecDepth 10000
theorem DNodesT.below {lo : Nat} {w w' : World} {a : Option Addr} {n c : Nat} {l : List Node} (h : DNodesT lo w a n c l) (hB : Below w.heap.size w w') : DNodesT lo w' a n c l := by
  obtain ⟨qs, rfl, ho, hq, hn⟩ := h
  exact ⟨qs, rfl, ho.below hB, fun p hp => ⟨(hq p hp).1, (hq p hp).2.1.below hB, (hq p hp).2.2⟩, hn⟩
theorem DNodesT.mono {lo lo' : Nat} {w : World} {a : Option Addr} {n c : Nat} {l : List Node} (h : DNodesT lo w a n c l) (hl : lo' ≤ lo) : DNodesT lo' w a n c l := by
  obtain ⟨qs, rfl, ho, hq, hn⟩ := h
  exact ⟨qs, rfl, ho.mono hl, fun p hp => ⟨(hq p hp).1, (hq p hp).2.1.mono hl, (hq p hp).2.2⟩, hn⟩
theorem DNodesT.keepBy {α : Type} {enc : α → List Value} {k : Nat} {e : TypeId} {lo lo' : Nat} {w w' : World} {a a' : Option Addr} {n c n' c' : Nat} {l : List α} {L : List Node} (h : DNodesT lo w a' n' c' L) (ho : Own enc k e lo' w a n c l) (hg : w.grownBy w' (a.map (·.block))) (h0 : 56 ≠ e) (h1 : 32 ≠ e) (h2 : 71 ≠ e) : DNodesT lo w' a' n' c' L := by
  obtain ⟨qs, rfl, hoo, hq, hn⟩ := h
  exact ⟨qs, rfl, ho.keepOwn hg hoo h0, fun p hp => ⟨(hq p hp).1, (hq p hp).2.1.keepBy ho hg h1 h2, (hq p hp).2.2⟩, hn⟩
theorem sblks_snoc (l : List RNode) (r : RNode) : sblks (l ++ [r]) = sblks l ++ sblk r := by simp [sblks]
theorem OwnN.sblk_lt {lo : Nat} {w : World} {r : RNode} {x : Node} (h : OwnN lo w r x) : ∀ b ∈ sblk r, lo ≤ b ∧ b < w.heap.size := by
  intro b hb
  simp only [sblk, List.mem_append, Option.mem_toList, Option.map_eq_some_iff] at hb
  rcases hb with ⟨p, hp, rfl⟩ | ⟨p, hp, rfl⟩
  · exact h.plus.lt hp
  · exact h.less.lt hp
section
variable {w : World} {a sa : Option Addr} {n c sn sc : Nat} {G : PG}
theorem k_gown (h : Grf w a n c sa sn sc G) (hs : SmallG G) : Cl Tryz.prog 62 #[.agg #[.slice a n c, .slice sa sn sc]] w (fun v w' => ∃ g g' : Nat, v = .agg #[.slice (some ⟨g, 0, none⟩) n n, .slice (some ⟨g', 0, none⟩) sn sn] ∧ DNodesT w.heap.size w' (some ⟨g, 0, none⟩) n n G.nodes ∧ DEnts w.heap.size w' (some ⟨g', 0, none⟩) sn sn G.slots ∧ Below w.heap.size w w') := by
  refine c62 _ _ _ _ _ _ ?_
  have hs1 := hs.n.1; have hs2 := hs.s
  have hnl := h.nodes.len; have hsl := h.slots.len
  obtain ⟨ps, hrow, hps, hpG⟩ := h.nodes.pairs
  obtain ⟨es, hrowE, hes, heG⟩ := h.slots.pairs
  have hpl : ps.length = n := by rw [hnl, ← hpG]; simp
  have hel : es.length = sn := by rw [hsl, ← heG]; simp
  rintro _ w1 rfl h1 _ w2 rfl h2
  have q1 : w2.heap[w.heap.size]? = some (.cells #[.slice a n c, .slice sa sn sc] 27) := by rw [h2, h1]; exact blk_alloc (blk_new _)
  have q2 : w2.heap[w1.heap.size]? = some (.cells #[.slice none 0 0, .slice none 0 0] 27) := by rw [h2]; exact blk_new _
  have z1 : w1.heap.size = w.heap.size + 1 := by rw [h1, size_alloc]
  have B2 : Below w.heap.size w w2 := by rw [h2, h1]; exact (alloc_below w _).alloc (by rw [size_alloc]; omega) _
  clear h1 h2
  rintro _ rfl
  have q13 := blk_drew q1
  have q23 := blk_drew q2
  have B3 := B2.drew
  generalize w2.drew = w3 at q13 q23 B3
  clear q1 q2 B2
  refine ⟨_, _, _, blk_cell q13 0, _, _, _, blk_cell q13 1, (k_clonedNodes (hrow.below B3) (by omega)).mono ?_⟩
  rintro _ w4 ⟨g, n', rfl, ho4, B4', hg4⟩
  obtain rfl : n' = n := by have := ho4.len; simp at this; omega
  have B4 := B3.trans (B4'.mono B3.size)
  have q14 := blk_below q13 B4' (blk_lt q13)
  have q24 := blk_below q23 B4' (blk_lt q23)
  refine ⟨_, _, _, rfl, blk_cell q14 1, (k_clonedEnts (hrowE.below B4) (by omega)).mono ?_⟩
  rintro _ w5 ⟨g', sn', rfl, ho5, B5', hg5⟩
  obtain rfl : sn' = sn := by have := ho5.len; simp at this; omega
  have B5 := B4.trans (B5'.mono B4.size)
  have q15 := blk_below q14 B5' (blk_lt q14)
  have q25 := blk_below q24 B5' (blk_lt q24)
  have oN5 := (ho4.below B5').mono B3.size
  have oE5 := ho5.mono B4.size
  refine ⟨_, _, _, rfl, blk_some q15 (by simp), blk_free q15 _, ?_⟩
  rintro w6 h6
  have q16 : w6.heap[w.heap.size]? = some (.cells #[.slice (some ⟨g, 0, none⟩) n' n', .slice sa sn' sc] 27) := by rw [h6]; exact blk_set q15 0 _
  refine ⟨blk_some q16 (j := 1) (by simp), blk_free q16 1, ?_⟩
  rintro w7 h7
  have q17 : w7.heap[w.heap.size]? = some (.cells #[.slice (some ⟨g, 0, none⟩) n' n', .slice (some ⟨g', 0, none⟩) sn' sn'] 27) := by rw [h7]; exact blk_set q16 1 _
  have q27 : w7.heap[w1.heap.size]? = some (.cells #[.slice none 0 0, .slice none 0 0] 27) := by
    rw [h7]; refine blk_far ?_ (by show w1.heap.size ≠ w.heap.size; omega) _
    rw [h6]; exact blk_far q25 (by show w1.heap.size ≠ w.heap.size; omega) _
  have B7 : Below w.heap.size w w7 := by rw [h7, h6]; exact (B5.setCell (Nat.le_refl _) _).setCell (Nat.le_refl _) _
  have oN7 : Own encNode 4 56 w.heap.size w7 (some ⟨g, 0, none⟩) n' n' (ps.map (·.1)) := by
    rw [h7]; refine Own.far ?_ q16 (by decide) _
    rw [h6]; exact oN5.far q15 (by decide) _
  have oE7 : Own encEnt 3 94 w.heap.size w7 (some ⟨g', 0, none⟩) sn' sn' (es.map (·.1)) := by
    rw [h7]; refine Own.far ?_ q16 (by decide) _
    rw [h6]; exact oE5.far q15 (by decide) _
  clear h6 h7 q16 q15 q25 oN5 oE5 q14 q24 q13 q23
  have hn63 := oN7.2.2.1
  have hsn63 := oE7.2.2.1
  simp only [maxLen] at hn63 hsn63
  refine ⟨_, _, _, blk_cell q17 0, fun _ W => (Below w.heap.size w W ∧ W.heap[w.heap.size]? = some (.cells #[.slice (some ⟨g, 0, none⟩) n' n', .slice (some ⟨g', 0, none⟩) sn' sn'] 27) ∧ W.heap[w1.heap.size]? = some (.cells #[.slice none 0 0, .slice none 0 0] 27)) ∧
      Own encEnt 3 94 w.heap.size W (some ⟨g', 0, none⟩) sn' sn' (es.map (·.1)) ∧ DNodesT w.heap.size W (some ⟨g, 0, none⟩) n' n' G.nodes, ?_, ?_⟩
  · -- the nodes
    refine ⟨fun i W => (Below w.heap.size w W ∧ W.heap[w.heap.size]? = some (.cells #[.slice (some ⟨g, 0, none⟩) n' n', .slice (some ⟨g', 0, none⟩) sn' sn'] 27) ∧ W.heap[w1.heap.size]? = some (.cells #[.slice none 0 0, .slice none 0 0] 27)) ∧
        Own encEnt 3 94 w.heap.size W (some ⟨g', 0, none⟩) sn' sn' (es.map (·.1)) ∧
        ∃ (k : Nat) (qs : List NP), i = k ∧ k ≤ n' ∧ qs.map (·.2) = G.nodes ∧ Own encNode 4 56 w.heap.size W (some ⟨g, 0, none⟩) n' n' (qs.map (·.1)) ∧ (∀ p ∈ qs, NodeSays p.1 p.2) ∧
          (∀ j (hj : j < qs.length), j < k → OwnN w.heap.size W qs[j].1 qs[j].2 ∧ Tight qs[j].1) ∧ (sblks ((qs.map (·.1)).take k)).Nodup ∧ (∀ j (hj : j < qs.length), k ≤ j → IsNode w qs[j].1 qs[j].2), fun i _ => n' - i.toNat,
      ⟨⟨B7, q17, q27⟩, oE7, 0, ps, rfl, by omega, hpG, oN7, fun p hp => (hps p hp).says, fun j hj h => by omega, by simp [sblks], fun j hj _ => hps _ (List.getElem_mem hj)⟩, ?_⟩
    rintro _ W _ ⟨⟨hB, qb, qb2⟩, oE, k, qs, rfl, hk, hsnd, ho, hsay, hown, hnd, hrest⟩
    have hql : qs.length = n' := by have := ho.len; simpa using this.symm
    refine cnd (fun hc => ?_) fun hc => ?_
    · have hkm : k < n' := by simpa using hc
      have hkq : k < qs.length := by omega
      have hkG : k < G.nodes.length := by omega
      have hqG : qs[k].2 = G.nodes[k] := by
        have : (qs.map (·.2))[k]'(by simpa using hkq) = G.nodes[k] := by simp only [hsnd]
        simpa using this
      have hsm := hs.n.2 _ (List.getElem_mem hkG)
      rw [← hqG] at hsm
      have hX := hrest k hkq (Nat.le_refl _)
      have e0 : (qs.map (·.1))[k]'(by simpa using hkq) = qs[k].1 := by simp
      refine ho.row.nodeN hkm fun hl => box_node fun w10 s10 B10' => ?_
      rw [e0] at s10
      have s11 := blk_drew s10
      have B11' := B10'.drew
      rintro _ rfl
      have hB11 := hB.trans (B11'.mono hB.size)
      have qb11 := blk_below qb B11' (blk_lt qb)
      have t1 := hX.ty.len; have t2 := hX.plus.len; have t3 := hX.less.len
      refine ⟨_, _, _, blk_cell qb11 0, _, _, _, blk_cell qb11 0, _, _, _, blk_cell qb11 0, _, _, _, blk_cell s11 1, _, _, _, blk_cell s11 2, _, _, _, blk_cell s11 3, (k_clonedIds (hX.ty.below hB11) (by omega)).mono ?_⟩
      rintro _ w12 ⟨a12, n12, c12, rfl, ho12, B12'⟩
      have B12 := B11'.trans (B12'.mono B11'.size)
      have hB12 := hB11.trans (B12'.mono hB11.size)
      have qb12 := blk_below qb11 B12' (blk_lt qb11)
      have s12 := blk_below s11 B12' (blk_lt s11)
      refine ⟨_, _, _, rfl, blk_cell s12 3, blk_cell s12 2, blk_cell qb12 0, blk_cell qb12 0, blk_cell qb12 0, (k_clonedSteps (hX.plus.below hB12) (by omega)).mono ?_⟩
      rintro _ w13 ⟨g13, n13, rfl, ho13, B13', hg13⟩
      have B13 := B12.trans (B13'.mono B12.size)
      have hB13 := hB12.trans (B13'.mono hB12.size)
      have qb13 := blk_below qb12 B13' (blk_lt qb12)
      have s13 := blk_below s12 B13' (blk_lt s12)
      refine ⟨_, _, _, rfl, blk_cell s13 3, blk_cell qb13 0, blk_cell qb13 0, blk_cell qb13 0, (k_clonedSteps (hX.less.below hB13) (by omega)).mono ?_⟩
      rintro _ w14 ⟨g14, n14, rfl, ho14, B14', hg14⟩
      have B14 := B13.trans (B14'.mono B13.size)
      have hB14 := hB13.trans (B14'.mono hB13.size)
      have qb14 := blk_below qb13 B14' (blk_lt qb13)
      have qb214 := blk_below qb2 B14 (blk_lt qb2)
      refine ⟨_, _, _, rfl, blk_cell qb14 0, blk_cell qb14 0, blk_cell qb14 0, ?_⟩
      obtain ⟨ga, hga, hgl, hc1, hc2, hput1, hgr1, _⟩ := (ho.below B14).put1 enNode (i := k) (j := 1) hkm (by decide) (.slice a12 n12 c12) ⟨qs[k].1.used, ⟨a12, n12, c12⟩, qs[k].1.plus, qs[k].1.less⟩ (fun hl => by simp [encNode])
      cases hga
      refine ⟨_, rfl, by omega, by omega, ?_⟩
      rw [Int.toNat_natCast]
      refine ⟨hc1, hc2, ?_⟩
      rintro w15 h15
      rw [← h15] at hput1 hgr1
      have qb15 := (ho.below B14).keepBlk hgr1 qb14 (.inl (by decide))
      refine ⟨blk_cell qb15 0, blk_cell qb15 0, ?_⟩
      obtain ⟨ga, hga, _, hc1, hc2, hput2, hgr2, _⟩ := hput1.put1 enNode (i := k) (j := 2) hkm (by decide) (.slice (some ⟨g13, 0, none⟩) n13 n13) ⟨qs[k].1.used, ⟨a12, n12, c12⟩, ⟨some ⟨g13, 0, none⟩, n13, n13⟩, qs[k].1.less⟩ (fun hl => by simp [encNode])
      cases hga
      refine ⟨_, rfl, by omega, by omega, ?_⟩
      refine ⟨hc1, hc2, ?_⟩
      rintro w16 h16
      rw [← h16] at hput2 hgr2
      have qb16 := hput1.keepBlk hgr2 qb15 (.inl (by decide))
      refine ⟨blk_cell qb16 0, ?_⟩
      obtain ⟨ga, hga, _, hc1, hc2, hput3, hgr3, _⟩ := hput2.put1 enNode (i := k) (j := 3) hkm (by decide) (.slice (some ⟨g14, 0, none⟩) n14 n14) ⟨qs[k].1.used, ⟨a12, n12, c12⟩, ⟨some ⟨g13, 0, none⟩, n13, n13⟩, ⟨some ⟨g14, 0, none⟩, n14, n14⟩⟩ (fun hl => by simp [encNode])
      cases hga
      refine ⟨_, rfl, by omega, by omega, ?_⟩
      refine ⟨hc1, hc2, ?_⟩
      rintro w17 h17
      rw [← h17] at hput3 hgr3
      have hgA : w14.grownBy w17 ((some (⟨g, 0, none⟩ : Addr)).map (·.block)) := grown_trans (grown_trans hgr1 hgr2) hgr3
      have oA := ho.below B14
      have qb17 := oA.keepBlk hgA qb14 (.inl (by decide))
      have qb217 := oA.keepBlk hgA qb214 (.inl (by decide))
      rw [nx (by omega)]
      have hcol : (((qs.map (·.1)).set k ⟨qs[k].1.used, ⟨a12, n12, c12⟩, qs[k].1.plus, qs[k].1.less⟩).set k ⟨qs[k].1.used, ⟨a12, n12, c12⟩, ⟨some ⟨g13, 0, none⟩, n13, n13⟩, qs[k].1.less⟩).set k ⟨qs[k].1.used, ⟨a12, n12, c12⟩, ⟨some ⟨g13, 0, none⟩, n13, n13⟩, ⟨some ⟨g14, 0, none⟩, n14, n14⟩⟩ = (qs.set k (⟨qs[k].1.used, ⟨a12, n12, c12⟩, ⟨some ⟨g13, 0, none⟩, n13, n13⟩, ⟨some ⟨g14, 0, none⟩, n14, n14⟩⟩, qs[k].2)).map (·.1) := by
        rw [List.set_set, List.set_set, List.map_set]
      rw [hcol] at hput3
      have hnew : OwnN w.heap.size w17 ⟨qs[k].1.used, ⟨a12, n12, c12⟩, ⟨some ⟨g13, 0, none⟩, n13, n13⟩, ⟨some ⟨g14, 0, none⟩, n14, n14⟩⟩ qs[k].2 := by
        refine OwnN.keepBy ⟨?_, ?_, ?_⟩ oA hgA (by decide) (by decide)
        · exact ((ho12.below B13').below B14').mono hB11.size
        · exact (ho13.below B14').mono hB12.size
        · exact ho14.mono hB13.size
      refine ⟨⟨⟨hB14.trans (oA.belowOf hgA hB14.size), qb17, qb217⟩, oA.keepOwn hgA (oE.below B14) (by decide), k + 1, qs.set k (⟨qs[k].1.used, ⟨a12, n12, c12⟩, ⟨some ⟨g13, 0, none⟩, n13, n13⟩, ⟨some ⟨g14, 0, none⟩, n14, n14⟩⟩, qs[k].2), rfl, by omega, ?_, hput3, ?_, ?_, ?_, ?_⟩, dec hkm⟩
      · rw [List.map_set, ← hsnd]
        exact List.ext_getElem? fun j => by
          rw [List.getElem?_set]
          split
          · rename_i hkj; subst hkj; simp [hkq]
          · rfl
      · intro p hp
        rcases List.mem_or_eq_of_mem_set hp with hp | rfl
        · exact hsay p hp
        · have := hsay _ (List.getElem_mem hkq); exact ⟨this.used, this.rng⟩
      · intro j hj hjk
        rw [List.getElem_set]
        split
        · exact ⟨hnew, rfl, rfl⟩
        · rename_i hne
          have h1 := hown j (by simpa using hj) (by omega)
          exact ⟨(h1.1.below B14).keepBy oA hgA (by decide) (by decide), h1.2⟩
      · rw [List.map_set, take_one (by simpa using hkq), List.take_set_of_le (Nat.le_refl _), List.getElem_set_self, sblks_snoc, List.nodup_append]
        refine ⟨hnd, ?_, ?_⟩
        · have e13 := (ho13.lt rfl).2
          simp only [sblk, Option.map_some, Option.toList_some, List.singleton_append, List.nodup_cons, List.mem_singleton, List.not_mem_nil, not_false_eq_true, List.nodup_nil, and_true]
          dsimp only at e13 ⊢; omega
        · intro x hx y hy
          obtain ⟨r, hr, hxr⟩ := List.mem_flatMap.1 hx
          obtain ⟨j, hj, rfl⟩ := List.mem_iff_getElem.1 hr
          have hj' : j < k ∧ j < qs.length := by simp at hj; omega
          have h1 := (hown j hj'.2 hj'.1).1.sblk_lt x (by simpa using hxr)
          have h2 : y = g13 ∨ y = g14 := by simpa [sblk] using hy
          have h3 := B12.size; have h4 := B13.size
          omega
      · intro j hj hjk
        rw [List.getElem_set_ne (by omega)]
        exact hrest j (by simpa using hj) (by omega)
    · have hkm : ¬ k < n' := by simpa using hc
      refine ⟨⟨hB, qb, qb2⟩, oE, qs, hsnd, ho, fun p hp => ?_, ?_⟩
      · obtain ⟨j, hj, rfl⟩ := List.mem_iff_getElem.1 hp
        exact ⟨hsay _ (List.getElem_mem hj), hown j hj (by omega)⟩
      · rwa [take_all (by simp; omega)] at hnd
  · -- the slots
    rintro _ W8 _ ⟨⟨hB8, qb8, qb28⟩, oE8, hD8⟩
    refine ⟨_, _, _, blk_cell qb8 1, fun i W => (Below w.heap.size w W ∧ W.heap[w.heap.size]? = some (.cells #[.slice (some ⟨g, 0, none⟩) n' n', .slice (some ⟨g', 0, none⟩) sn' sn'] 27) ∧ W.heap[w1.heap.size]? = some (.cells #[.slice none 0 0, .slice none 0 0] 27)) ∧ DNodesT w.heap.size W (some ⟨g, 0, none⟩) n' n' G.nodes ∧
        ∃ (k : Nat) (qs : List EP), i = k ∧ k ≤ sn' ∧ qs.map (·.2) = G.slots ∧ Own encEnt 3 94 w.heap.size W (some ⟨g', 0, none⟩) sn' sn' (qs.map (·.1)) ∧ (∀ p ∈ qs, EntSays p.1 p.2) ∧
        (∀ j (hj : j < qs.length), j < k → OwnTy w.heap.size W qs[j].1.ty qs[j].2.ty) ∧ (∀ j (hj : j < qs.length), k ≤ j → Row encId w qs[j].1.ty.a qs[j].1.ty.n qs[j].1.ty.c qs[j].2.ty), fun i _ => sn' - i.toNat,
      ⟨⟨hB8, qb8, qb28⟩, hD8, 0, es, rfl, by omega, heG, oE8, fun p hp => (hes p hp).says, fun j hj h => by omega, fun j hj _ => (hes _ (List.getElem_mem hj)).ty⟩, ?_⟩
    rintro _ W _ ⟨⟨hB, qb, qb2⟩, hD, k, qs, rfl, hk, hsnd, ho, hsay, hown, hrest⟩
    have hql : qs.length = sn' := by have := ho.len; simpa using this.symm
    refine cnd (fun hc => ?_) fun hc => ?_
    · have hkm : k < sn' := by simpa using hc
      have hkq : k < qs.length := by omega
      have hkG : k < G.slots.length := by omega
      have hqG : qs[k].2 = G.slots[k] := by
        have : (qs.map (·.2))[k]'(by simpa using hkq) = G.slots[k] := by simp only [hsnd]
        simpa using this
      have hsm := hs.t _ (List.getElem_mem hkG)
      rw [← hqG] at hsm
      refine ho.row.entN hkm fun hl => box_ent fun w12 s12 B12' => ?_
      have e0 : (qs.map (·.1))[k] = qs[k].1 := by simp
      rw [e0] at s12
      have hrk := hrest k hkq (Nat.le_refl _)
      have hrl := hrk.len
      rintro _ rfl
      have B13' := B12'.drew
      have hB13 := hB.trans (B13'.mono hB.size)
      have qb13 := blk_below qb B13' (blk_lt qb)
      refine ⟨_, _, _, blk_cell qb13 1, _, _, _, blk_cell (blk_drew s12) 1, (k_clonedIds (hrk.below hB13) (by omega)).mono ?_⟩
      rintro _ w14 ⟨a5, n5, c5, rfl, ho5', B14'⟩
      have hB14 := hB13.trans (B14'.mono hB13.size)
      have qb14 := blk_below qb13 B14' (blk_lt qb13)
      have B1314 := B13'.trans (B14'.mono B13'.size)
      have ho14 := ho.below B1314
      obtain ⟨ga, hga, hgl, hc1, hc2, hput, hgr, cs, hgb⟩ := ho14.put1 enEnt (i := k) (j := 1) hkm (by decide) (.slice a5 n5 c5) ⟨qs[k].1.st, ⟨a5, n5, c5⟩, qs[k].1.num⟩ (fun hl => by simp [encEnt])
      cases hga
      refine ⟨_, _, _, rfl, blk_cell qb14 1, _, rfl, by omega, by omega, ?_⟩
      rw [Int.toNat_natCast]
      refine ⟨hc1, hc2, ?_⟩
      rintro w15 h15
      rw [← h15] at hput hgr
      rw [nx (by omega)]
      have far : ∀ {a' : Option Addr} {n' c' : Nat} {l' : List Int}, Own encId 1 32 w.heap.size w14 a' n' c' l' → Own encId 1 32 w.heap.size w15 a' n' c' l' := fun ho' => ho14.keepOwn hgr ho' (fun e => tyIdEnt e.symm)
      refine ⟨⟨⟨hB14.trans (ho14.belowOf hgr hB14.size), ho14.keepBlk hgr qb14 (.inl (by decide)), ho14.keepBlk hgr (blk_below qb2 B1314 (blk_lt qb2)) (.inl (by decide))⟩, (hD.below B1314).keepBy ho14 hgr (by decide) (by decide) (by decide), k + 1, qs.set k (⟨qs[k].1.st, ⟨a5, n5, c5⟩, qs[k].1.num⟩, qs[k].2), rfl, by omega, ?_, ?_, ?_, ?_, ?_⟩, dec hkm⟩
      · rw [List.map_set, ← hsnd]
        exact List.ext_getElem? fun j => by
          rw [List.getElem?_set]
          split
          · rename_i hkj; subst hkj; simp [hkq]
          · rfl
      · rw [List.map_set]; exact hput
      · intro p hp
        rcases List.mem_or_eq_of_mem_set hp with hp | rfl
        · exact hsay p hp
        · have := hsay _ (List.getElem_mem hkq); exact ⟨this.st, this.num, this.rng⟩
      · intro j hj hjk
        rw [List.getElem_set]
        split
        · exact far (ho5'.mono hB13.size)
        · rename_i hne
          exact far ((hown j (by simpa using hj) (by omega)).below B1314)
      · intro j hj hjk
        rw [List.getElem_set_ne (by omega)]
        exact hrest j (by simpa using hj) (by omega)
    · have hkm : ¬ k < sn' := by simpa using hc
      refine ⟨_, _, _, _, _, _, blk_cell qb 0, blk_cell qb 1, put_back2 qb2 ?_⟩
      rintro W' hW' hq'
      have hEnd : DEnts w.heap.size W (some ⟨g', 0, none⟩) sn' sn' G.slots := ⟨qs, hsnd, ho, fun p hp => by
        obtain ⟨j, hj, rfl⟩ := List.mem_iff_getElem.1 hp
        exact ⟨hsay _ (List.getElem_mem hj), hown j hj (by omega)⟩⟩
      have qmid := blk_set qb2 0 (.slice (some ⟨g, 0, none⟩) n' n')
      refine ⟨g, g', rfl, ?_, ?_, ?_⟩
      · rw [hW']; exact (hD.farB qb2 (by decide) (by decide) (by decide) _).farB qmid (by decide) (by decide) (by decide) _
      · rw [hW']; exact (hEnd.farB qb2 (by decide) (by decide) _).farB qmid (by decide) (by decide) _
      · rw [hW']; exact (hB.setCell (by show w.heap.size ≤ w1.heap.size; omega) _).setCell (by show w.heap.size ≤ w1.heap.size; omega) _
end
end Go.Eng
namespace Go.Eng
open Go Go.RowKit Go.Proofs
set_option maxRecDepth 10000
/-- The place of the first node that's not used. -/
def freeIx (l : List Node) : Nat := l.findIdx fun x => !x.used
def setNode (l : List Node) (k : Nat) (x : Node) : List Node := if k < l.length then l.set k x else l ++ [x]
/-- A graph of which a node has a type, its number; the error. -/
def ofG (G : PG) (t : List Int) : PG × Int × Int :=
  if right2 t = false then (⟨[], []⟩, 0, 130)
  else if (findL G.slots t).2 = true then (G, (findL G.slots t).1, 0)
  else if (putL G.slots t ((freeIx G.nodes : Int) + 1)).2 ≠ 0 then (⟨[], []⟩, 0, (putL G.slots t ((freeIx G.nodes : Int) + 1)).2)
  else (⟨setNode G.nodes (freeIx G.nodes) ⟨true, t, [], []⟩, (putL G.slots t ((freeIx G.nodes : Int) + 1)).1⟩, (freeIx G.nodes : Int) + 1, 0)
theorem freeIx_le (l : List Node) : freeIx l ≤ l.length := List.findIdx_le_length
theorem isN_free {l : List Node} {k : Nat} (hk : k ≤ freeIx l) : isN l ((k : Int) + 1) = decide (k < freeIx l) := by
  have hle := freeIx_le l
  by_cases h : k < freeIx l
  · have hl : k < l.length := by omega
    have := List.not_of_lt_findIdx h
    have hu : l[k].used = true := by simpa using this
    have h1 : (1 : Int) ≤ (k : Int) + 1 := by omega
    have h2 : (k : Int) + 1 ≤ (l.length : Int) := by omega
    simp only [isN, node_eq hl, hu, h, h1, h2, decide_true, Bool.and_self]
  · have e : k = freeIx l := by omega
    subst e
    by_cases hl : freeIx l < l.length
    · have hu : l[freeIx l].used = false := by
        have h1 := List.findIdx_getElem (p := fun x : Node => !x.used) (xs := l) (w := hl)
        have h2 : (!l[freeIx l].used) = true := h1
        simpa using h2
      simp [isN, node_eq hl, hu]
    · have h2 : ¬ ((freeIx l : Nat) : Int) + 1 ≤ (l.length : Int) := by omega
      simp [isN, h2]
theorem layL_mem {l : List Entry} {x e : Entry} (h : e ∈ layL l x) : e ∈ l ∨ e = x := by
  unfold layL at h
  split at h
  · exact List.mem_or_eq_of_mem_set h
  · exact .inl h
theorem laidL_mem' : ∀ (l acc : List Entry) (e : Entry), e ∈ l.foldl layL acc → e ∈ acc ∨ e ∈ l
  | [], acc, e, h => .inl h
  | x :: l, acc, e, h => by
    rw [List.foldl_cons] at h
    rcases laidL_mem' l _ e h with h | h
    · rcases layL_mem h with h | rfl
      · exact .inl h
      · exact .inr (by simp)
    · exact .inr (by simp [h])
theorem laidL_mem {l : List Entry} {many : Nat} {e : Entry} (h : e ∈ laidL l many) : e = blankE ∨ e ∈ l := by
  rcases laidL_mem' _ _ _ h with h | h
  · exact .inl (List.eq_of_mem_replicate h)
  · exact .inr h
theorem all7_4000 {l : List Entry} (h : checkL l = true) : (all7 Entry.st Entry.ty l).length ≤ 4000 := by
  have h1 := (checkL_ok h).1
  simp only [preL, Bool.and_eq_true, decide_eq_true_eq] at h1
  have h2 := (all7_perm Entry.st Entry.ty l).length_eq
  have h3 : taken l = (l.filter fun e => e.st == 1).length + cnt l 2 := rfl
  omega
theorem all7_mem {l : List Entry} {e : Entry} (h : e ∈ all7 Entry.st Entry.ty l) : e ∈ l ∧ e.st = 1 := by
  have := (all7_perm Entry.st Entry.ty l).mem_iff.1 h
  rw [List.mem_filter] at this
  exact ⟨this.1, by simpa using this.2⟩
/-- What comes of a type more, where that went well. -/
theorem putL_ok {l : List Entry} {t : List Int} {num : Int} (h : (putL l t num).2 = 0) : checkL l = true ∧ right2 t = true ∧ 0 ≤ num ∧ place l t < 0 ∧ (all7 Entry.st Entry.ty l).length < 4000 ∧
    (putL l t num).1 = laidL (all7 Entry.st Entry.ty l ++ [⟨1, t, num⟩]) (manyOf ((all7 Entry.st Entry.ty l).length + 1)) := by
  unfold putL at h ⊢
  cases h1 : checkL l
  · simp [h1] at h
  cases h2 : right2 t
  · simp [h1, h2] at h
  by_cases h3 : num < 0
  · simp [h1, h2, h3] at h
  by_cases h4 : 0 ≤ place l t
  · simp [h1, h2, h3, h4] at h
  by_cases h5 : (all7 Entry.st Entry.ty l).length = 4000
  · simp [h1, h2, h3, h4, h5] at h
  have := all7_4000 h1
  simp only [h3, h4, h5, Bool.true_eq_false, if_false]
  exact ⟨trivial, trivial, by omega, by omega, by omega, trivial⟩
theorem putL_small {l : List Entry} {t : List Int} {num : Int} (h : (putL l t num).2 = 0) : (putL l t num).1.length ≤ 16100 ∧ ∀ e ∈ (putL l t num).1, e.ty.length ≤ 12 := by
  obtain ⟨h1, h2, h3, h4, h5, h6⟩ := putL_ok h
  rw [h6]
  have := manyOf_le ((all7 Entry.st Entry.ty l).length + 1)
  refine ⟨by rw [laidL_len]; omega, fun e he => ?_⟩
  rcases laidL_mem he with rfl | he
  · simp [blankE]
  · rcases List.mem_append.1 he with he | he
    · exact checkL_12 h1 e (all7_mem he).1 (all7_mem he).2
    · simp only [List.mem_singleton] at he
      subst he
      exact (right2_sorted h2).2
theorem sblks_set : ∀ (l : List RNode) (k : Nat) (r : RNode), sblk r = [] → (sblks (l.set k r)).Sublist (sblks l)
  | [], k, r, h => by simp
  | x :: l, 0, r, h => by
    simp only [List.set_cons_zero, sblks, List.flatMap_cons, h, List.nil_append]
    exact List.sublist_append_right _ _
  | x :: l, k + 1, r, h => by
    simp only [List.set_cons_succ, sblks, List.flatMap_cons]
    exact (List.Sublist.refl _).append (sblks_set l k r h)
theorem DNodesT.nil {lo : Nat} {w : World} : DNodesT lo w none 0 0 [] := ⟨[], rfl, Own.nil, by simp, by simp [sblks]⟩
/-- A graph in memory of its own, a number and an error. -/
def GrfE3 (w : World) (p : PG × Int × Int) (v : Value) (w' : World) : Prop :=
  ∃ a n c sa sn sc, v = .tuple #[.agg #[.slice a n c, .slice sa sn sc], .int .i64 p.2.1, .int .i64 p.2.2] ∧ DNodesT w.heap.size w' a n c p.1.nodes ∧ DEnts w.heap.size w' sa sn sc p.1.slots ∧ Below w.heap.size w w'
theorem grfE3 {w w' : World} {p : PG × Int × Int} {G : PG} {m e : Int} {a sa : Option Addr} {n c sn sc : Nat} (hp : p = (G, m, e)) (h1 : DNodesT w.heap.size w' a n c G.nodes) (h2 : DEnts w.heap.size w' sa sn sc G.slots) (hB : Below w.heap.size w w') :
    GrfE3 w p (.tuple #[.agg #[.slice a n c, .slice sa sn sc], .int .i64 m, .int .i64 e]) w' := by
  subst hp; exact ⟨_, _, _, _, _, _, rfl, h1, h2, hB⟩
def blankRN : RNode := ⟨false, ⟨none, 0, 0⟩, ⟨none, 0, 0⟩, ⟨none, 0, 0⟩⟩
def blankN : Node := ⟨false, [], [], []⟩
theorem says_blankN : NodeSays blankRN blankN := ⟨rfl, fun x hx => by simp [blankN] at hx, fun s hs => by simp [blankN] at hs⟩
theorem own_blankN {lo : Nat} {w : World} : OwnN lo w blankRN blankN := ⟨Own.nil, Own.nil, Own.nil⟩
section
variable {w : World} {a sa la : Option Addr} {n c sn sc ln lc : Nat} {G : PG} {t : List Int}
set_option maxHeartbeats 1000000
theorem k_gof (h : Grf w a n c sa sn sc G) (hs : SmallG G) (ht : Row encId w la ln lc t) (hr : Rng t) :
    Cl Tryz.prog 52 #[.agg #[.slice a n c, .slice sa sn sc], .slice la ln lc] w (GrfE3 w (ofG G t)) := by
  refine c52 _ _ _ _ _ _ _ _ _ ?_
  have hs1 := hs.n.1; have hs2 := hs.s
  have hnl := h.nodes.len; have hsl := h.slots.len
  rintro _ w1 rfl h1 _ w2 rfl h2
  have q1 : w2.heap[w.heap.size]? = some (.cells #[.slice a n c, .slice sa sn sc] 27) := by rw [h2, h1]; exact blk_alloc (blk_new _)
  have q2 : w2.heap[w1.heap.size]? = some (.cells #[.slice none 0 0, .slice none 0 0] 27) := by rw [h2]; exact blk_new _
  have z1 : w1.heap.size = w.heap.size + 1 := by rw [h1, size_alloc]
  have B2 : Below w.heap.size w w2 := by rw [h2, h1]; exact (alloc_below w _).alloc (by rw [size_alloc]; omega) _
  clear h1 h2
  have hw1 : w.heap.size ≤ w1.heap.size := by omega
  -- the ways out
  have put2 : ∀ {W : World} {G' : PG} {m e : Int} {a' : Option Addr} {n' c' : Nat} {sa' : Option Addr} {sn' sc' : Nat} {v0 v1 : Value}, W.heap[w1.heap.size]? = some (.cells #[v0, v1] 27) → ofG G t = (G', m, e) → DNodesT w.heap.size W a' n' c' G'.nodes → DEnts w.heap.size W sa' sn' sc' G'.slots → Below w.heap.size w W →
      ∀ W', W' = (W.setCell ⟨w1.heap.size, 0, none⟩ (.slice a' n' c')).setCell ⟨w1.heap.size, 1, none⟩ (.slice sa' sn' sc') → W'.heap[w1.heap.size]? = some (.cells #[.slice a' n' c', .slice sa' sn' sc'] 27) →
      GrfE3 w (ofG G t) (.tuple #[.agg #[.slice a' n' c', .slice sa' sn' sc'], .int .i64 m, .int .i64 e]) W' := by
    intro W G' m e a' n' c' sa' sn' sc' v0 v1 hq hp hn' he hB W' hW' hq'
    have qm := blk_set hq 0 (.slice a' n' c')
    rw [hW']
    exact grfE3 hp ((hn'.farB hq (by decide) (by decide) (by decide) _).farB qm (by decide) (by decide) (by decide) _) ((he.farB hq (by decide) (by decide) _).farB qm (by decide) (by decide) _) ((hB.setCell hw1 _).setCell hw1 _)
  refine (k_tCheck (ht.below B2)).gives fun w3 B3' => ⟨_, rfl, ?_⟩
  have B3 := B2.trans (B3'.mono B2.size)
  have q13 := blk_below q1 B3' (blk_lt q1)
  have q23 := blk_below q2 B3' (blk_lt q2)
  cases hr2 : right2 t with
  | false =>
    rw [show check2 t = 130 by simp [check2, hr2]]
    refine cnd (fun _ => ?_) fun g => absurd g (by decide)
    exact put_back2 q23 (put2 (G' := ⟨[], []⟩) q23 (by simp [ofG, hr2]) DNodesT.nil DEnts.nil B3)
  | true =>
  rw [show check2 t = 0 by simp [check2, hr2]]
  refine cnd (fun g => absurd g (by decide)) fun _ => ?_
  have h12 := (right2_sorted hr2).2
  have htl := ht.len
  refine ⟨_, _, _, blk_cell q13 1, (k_lFind (h.slots.below B3) (ht.below B3) hr (by omega)).gives fun w5 B5' => ⟨_, _, rfl, ?_⟩⟩
  have B5 := B3.trans (B5'.mono B3.size)
  have q15 := blk_below q13 B5' (blk_lt q13)
  have q25 := blk_below q23 B5' (blk_lt q23)
  refine cnd (fun g => ?_) fun g => ?_
  · refine ⟨_, _, _, _, _, _, blk_cell q15 0, blk_cell q15 1, (k_gown (h.below B5) hs).mono ?_⟩
    rintro _ w6 ⟨g6, g6', rfl, hN, hEn, B6'⟩
    have B6 := B5.trans (B6'.mono B5.size)
    have q26 := blk_below q25 B6' (blk_lt q25)
    refine ⟨_, _, _, _, _, _, rfl, put_back2 q26 (put2 q26 (by simp [ofG, hr2, g]) (hN.mono B5.size) (hEn.mono B5.size) B6)⟩
  have hle := freeIx_le G.nodes
  refine ⟨fun m W => (Below w.heap.size w W ∧ W.heap[w.heap.size]? = some (.cells #[.slice a n c, .slice sa sn sc] 27) ∧ W.heap[w1.heap.size]? = some (.cells #[.slice none 0 0, .slice none 0 0] 27)) ∧ m = ((freeIx G.nodes : Nat) : Int) + 1, ?_, ?_⟩
  · refine ⟨fun m W => (Below w.heap.size w W ∧ W.heap[w.heap.size]? = some (.cells #[.slice a n c, .slice sa sn sc] 27) ∧ W.heap[w1.heap.size]? = some (.cells #[.slice none 0 0, .slice none 0 0] 27)) ∧ ∃ k : Nat, m = (k : Int) + 1 ∧ k ≤ freeIx G.nodes, fun m _ => 10000000 - m.toNat, ⟨⟨B5, q15, q25⟩, 0, rfl, by omega⟩, ?_⟩
    rintro _ W _ ⟨⟨hB, qb, qb2⟩, k, rfl, hk⟩
    refine ⟨_, _, _, _, _, _, blk_cell qb 0, blk_cell qb 1, (k_gis (h.nodes.below hB) _ (by simp only [I64]; omega)).gives fun w9 B9' => ⟨_, rfl, ?_⟩⟩
    have B9 := hB.trans (B9'.mono hB.size)
    have q19 := blk_below qb B9' (blk_lt qb)
    have q29 := blk_below qb2 B9' (blk_lt qb2)
    rw [isN_free hk]
    refine cnd (fun g1 => ?_) fun g1 => ?_
    · have hlt : k < freeIx G.nodes := of_decide_eq_true g1
      rw [wrap64 (by omega) (by omega)]
      exact ⟨⟨⟨B9, q19, q29⟩, k + 1, by omega, hlt⟩, by simp only []; omega⟩
    · have hge : ¬ k < freeIx G.nodes := of_decide_eq_false g1
      exact ⟨⟨B9, q19, q29⟩, by omega⟩
  rintro _ W _ ⟨⟨hB, qb, qb2⟩, rfl⟩
  generalize hk0 : freeIx G.nodes = k0 at *
  refine ⟨_, _, _, blk_cell qb 1, (k_lPut (h.slots.below hB) (by omega) (ht.below hB) hr (by simp only [I64]; omega)).mono ?_⟩
  rintro _ w11 ⟨a11, n11, c11, rfl, hd11, B11'⟩
  have B11 := hB.trans (B11'.mono hB.size)
  have q111 := blk_below qb B11' (blk_lt qb)
  have q211 := blk_below qb2 B11' (blk_lt qb2)
  refine ⟨_, _, _, _, rfl, ?_⟩
  rintro _ w12 rfl h12'
  have r12 : w12.heap[w11.heap.size]? = some (.cells #[.slice none 0 0] 25) := by rw [h12']; exact blk_new _
  have B12' : Below w11.heap.size w11 w12 := by rw [h12']; exact alloc_below _ _
  clear h12'
  refine ⟨blk_some r12 (by decide), blk_free r12 _, ?_⟩
  rintro w13 h13
  have r13 : w13.heap[w11.heap.size]? = some (.cells #[.slice a11 n11 c11] 25) := by rw [h13]; exact blk_set r12 0 _
  have B13' : Below w11.heap.size w11 w13 := by rw [h13]; exact B12'.setCell (Nat.le_refl _) _
  have B13 := B11.trans (B13'.mono B11.size)
  have q113 := blk_below q111 B13' (blk_lt q111)
  have q213 := blk_below q211 B13' (blk_lt q211)
  have hd13 := (hd11.below B13').mono (lo' := w.heap.size) hB.size
  clear h13 B12' r12
  refine cnd (fun g1 => ?_) fun g1 => ?_
  · have hne : (putL G.slots t ((k0 : Int) + 1)).2 ≠ 0 := by
      intro h0; rw [h0] at g1; simp at g1
    exact put_back2 q213 (put2 (G' := ⟨[], []⟩) q213 (by simp [ofG, hr2, g, hk0, hne]) DNodesT.nil DEnts.nil B13)
  have hpe : (putL G.slots t ((k0 : Int) + 1)).2 = 0 := by simpa using g1
  obtain ⟨hps1, hps2⟩ := putL_small hpe
  refine ⟨_, _, _, blk_cell r13 0, blk_some q113 (j := 1) (by simp), blk_free q113 1, ?_⟩
  rintro w15 h15
  have q115 : w15.heap[w.heap.size]? = some (.cells #[.slice a n c, .slice a11 n11 c11] 27) := by rw [h15]; exact blk_set q113 1 _
  have q215 : w15.heap[w1.heap.size]? = some (.cells #[.slice none 0 0, .slice none 0 0] 27) := by rw [h15]; exact blk_far q213 (by show w1.heap.size ≠ w.heap.size; omega) _
  have B15 : Below w.heap.size w w15 := by rw [h15]; exact B13.setCell (Nat.le_refl _) _
  have hd15 : DEnts w.heap.size w15 a11 n11 c11 (putL G.slots t ((k0 : Int) + 1)).1 := by rw [h15]; exact hd13.farB q113 (by decide) (by decide) _
  clear h15
  refine ⟨_, _, _, _, _, _, blk_cell q115 0, blk_cell q115 1, (k_gown (G := ⟨G.nodes, (putL G.slots t ((k0 : Int) + 1)).1⟩) ⟨h.nodes.below B15, hd15.ents⟩ ⟨hs.n, by show (putL G.slots t ((k0 : Int) + 1)).1.length ≤ _; omega, fun e he => by have := hps2 e he; omega⟩).mono ?_⟩
  rintro _ w16 ⟨g16, g16', rfl, hN, hEn, B16'⟩
  have B16 := B15.trans (B16'.mono B15.size)
  have q116 := blk_below q115 B16' (blk_lt q115)
  have q216 := blk_below q215 B16' (blk_lt q215)
  refine ⟨_, _, _, _, _, _, rfl, blk_some q116 (by simp), blk_free q116 _, blk_some q116 (j := 1) (by simp), blk_free q116 1, ?_⟩
  rintro w17 h17
  have qm := blk_set q116 0 (.slice (some ⟨g16, 0, none⟩) n n)
  have q117 : w17.heap[w.heap.size]? = some (.cells #[.slice (some ⟨g16, 0, none⟩) n n, .slice (some ⟨g16', 0, none⟩) n11 n11] 27) := by rw [h17]; exact blk_set qm 1 _
  have q217 : w17.heap[w1.heap.size]? = some (.cells #[.slice none 0 0, .slice none 0 0] 27) := by
    rw [h17]; exact blk_far (blk_far q216 (by show w1.heap.size ≠ w.heap.size; omega) _) (by show w1.heap.size ≠ w.heap.size; omega) _
  have B17 : Below w.heap.size w w17 := by rw [h17]; exact (B16.setCell (Nat.le_refl _) _).setCell (Nat.le_refl _) _
  have hN17 : DNodesT w.heap.size w17 (some ⟨g16, 0, none⟩) n n G.nodes := by
    rw [h17]; exact ((hN.mono B15.size).farB q116 (by decide) (by decide) (by decide) _).farB qm (by decide) (by decide) (by decide) _
  have hE17 : DEnts w.heap.size w17 (some ⟨g16', 0, none⟩) n11 n11 (putL G.slots t ((k0 : Int) + 1)).1 := by
    rw [h17]; exact ((hEn.mono B15.size).farB q116 (by decide) (by decide) _).farB qm (by decide) (by decide) _
  clear h17 qm q116 q216 hN hEn
  obtain ⟨L, hLs, oL, hL, hnd⟩ := hN17
  have hLl : L.length = n := by have := oL.len; simpa using this.symm
  have p2k : IntKind.i64.wrap ((k0 : Int) + 1 - 1) = (k0 : Int) := pre2 (by omega)
  rw [p2k]
  refine ⟨_, _, _, blk_cell q117 0, cnd (fun g2 => ?_) fun g2 => ?_⟩
  -- one more node
  have hkn : k0 = n := by have := of_decide_eq_true g2; omega
  refine ⟨_, _, _, blk_cell q117 0, app1 tyNodes enNode oL B17.size blankRN (by simp only [maxLen]; omega) (by omega) fun a19 c19 w19 o19 hg19 => ?_⟩
  have q119 := oL.keepBlk hg19 q117 (.inl (by decide))
  have q219 := oL.keepBlk hg19 q217 (.inl (by decide))
  have B19 := B17.trans (oL.belowOf hg19 B17.size)
  refine ⟨blk_some q119 (by simp), blk_free q119 _, ?_⟩
  rintro w20 h20
  have q120 : w20.heap[w.heap.size]? = some (.cells #[.slice a19 (n + 1) c19, .slice (some ⟨g16', 0, none⟩) n11 n11] 27) := by rw [h20]; exact blk_set q119 0 _
  have q220 : w20.heap[w1.heap.size]? = some (.cells #[.slice none 0 0, .slice none 0 0] 27) := by rw [h20]; exact blk_far q219 (by show w1.heap.size ≠ w.heap.size; omega) _
  have B20 : Below w.heap.size w w20 := by rw [h20]; exact B19.setCell (Nat.le_refl _) _
  have hE20 : DEnts w.heap.size w20 (some ⟨g16', 0, none⟩) n11 n11 (putL G.slots t ((k0 : Int) + 1)).1 := by
    rw [h20]
    refine DEnts.farB ?_ q119 (by decide) (by decide) _
    obtain ⟨qs, e1, e2, e3⟩ := hE17
    exact ⟨qs, e1, oL.keepOwn hg19 e2 (by decide), fun p hp => ⟨(e3 p hp).1, oL.keepOwn hg19 (e3 p hp).2 (by decide)⟩⟩
  have o20 : Own encNode 4 56 w.heap.size w20 a19 (n + 1) c19 ((L ++ [((blankRN, blankN) : NP)]).map (·.1)) := by
    rw [h20, List.map_append]; exact o19.far q119 (by decide) _
  have hL20 : ∀ p ∈ L ++ [((blankRN, blankN) : NP)], NodeSays p.1 p.2 ∧ OwnN w.heap.size w20 p.1 p.2 ∧ Tight p.1 := by
    intro p hp
    rcases List.mem_append.1 hp with hp | hp
    · obtain ⟨e1, e2, e3⟩ := hL p hp
      refine ⟨e1, ?_, e3⟩
      rw [h20]; exact (e2.keepBy oL hg19 (by decide) (by decide)).farB q119 (by decide) (by decide) _
    · simp only [List.mem_singleton] at hp
      subst hp; exact ⟨says_blankN, own_blankN, rfl, rfl⟩
  have hnd20 : (sblks ((L ++ [((blankRN, blankN) : NP)]).map (·.1))).Nodup := by
    rw [List.map_append, List.map_cons, List.map_nil, sblks_snoc]; simpa [sblk, blankRN] using hnd
  have hset : ((L ++ [((blankRN, blankN) : NP)]).map (·.2)).set k0 ⟨true, t, [], []⟩ = setNode G.nodes k0 ⟨true, t, [], []⟩ := by
    have : ¬ k0 < G.nodes.length := by omega
    rw [setNode, if_neg this, List.map_append, hLs, List.set_append_right _ _ (by omega), show k0 - G.nodes.length = 0 by omega]; rfl
  have hkl : k0 < n + 1 := by omega
  have hll : n + 1 ≤ 1000001 := by omega
  clear h20 o19 q119 q219 B19 hg19 g2 hkn
  rintro _ rfl
  have q120d := blk_drew q120
  have q220d := blk_drew q220
  have B20d := B20.drew
  have hE20d := hE20.below (Below.refl _ _).drew
  have o20d := o20.below (Below.refl _ _).drew
  have hL20d : ∀ p ∈ L ++ [((blankRN, blankN) : NP)], NodeSays p.1 p.2 ∧ OwnN w.heap.size w20.drew p.1 p.2 ∧ Tight p.1 := fun p hp => ⟨(hL20 p hp).1, (hL20 p hp).2.1.below (Below.refl _ _).drew, (hL20 p hp).2.2⟩
  clear q120 q220 B20 hE20 o20 hL20 hE17 q117 q217 B17 hnd hL oL hLs hLl
  generalize w20.drew = W9 at q120d q220d B20d hE20d o20d hL20d ⊢
  generalize (L ++ [((blankRN, blankN) : NP)]) = L9 at o20d hL20d hnd20 hset
  generalize n + 1 = n9 at *
  rotate_left
  -- a node that's there
  have hkn : k0 < n := by have := of_decide_eq_false g2; omega
  have hset : (L.map (·.2)).set k0 ⟨true, t, [], []⟩ = setNode G.nodes k0 ⟨true, t, [], []⟩ := by
    rw [setNode, if_pos (by omega), hLs]
  rintro _ rfl
  have q120d := blk_drew q117
  have q220d := blk_drew q217
  have B20d := B17.drew
  have hE20d := hE17.below (Below.refl _ _).drew
  have o20d := oL.below (Below.refl _ _).drew
  have hL20d : ∀ p ∈ L, NodeSays p.1 p.2 ∧ OwnN w.heap.size w17.drew p.1 p.2 ∧ Tight p.1 := fun p hp => ⟨(hL p hp).1, (hL p hp).2.1.below (Below.refl _ _).drew, (hL p hp).2.2⟩
  have hnd20 := hnd
  have hkl := hkn
  have hll : n ≤ 1000001 := by omega
  clear hE17 q117 q217 B17 hL oL hLs hnd hkn g2
  generalize w17.drew = W9 at q120d q220d B20d hE20d o20d hL20d ⊢
  generalize L = L9 at o20d hL20d hnd20 hset hLl
  clear hLl
  all_goals (
    refine ⟨_, _, _, blk_cell q120d 0, (k_clonedIds (ht.below B20d) (by omega)).mono ?_⟩
    rintro _ w22 ⟨a22, n22, c22, rfl, ho22, B22'⟩
    have B22 := B20d.trans (B22'.mono B20d.size)
    have q122 := blk_below q120d B22' (blk_lt q120d)
    have q222 := blk_below q220d B22' (blk_lt q220d)
    have o22 := o20d.below B22'
    obtain ⟨gb, ha, hgl, hcells, hput, hgrw⟩ := o22.put enNode (i := k0) hkl (⟨true, ⟨a22, n22, c22⟩, ⟨none, 0, 0⟩, ⟨none, 0, 0⟩⟩ : RNode)
    have c0' := hcells 0 (by decide)
    rw [Addr.add_zero'] at c0'
    refine ⟨_, _, _, rfl, blk_cell q122 0, _, ha, by omega, by omega, ?_⟩
    rw [Int.toNat_natCast]
    refine ⟨c0'.1, c0'.2, (hcells 1 (by decide)).1, (hcells 1 (by decide)).2, (hcells 2 (by decide)).1, (hcells 2 (by decide)).2, (hcells 3 (by decide)).1, (hcells 3 (by decide)).2, ?_⟩
    rintro w23 h23
    have h23' : w23 = wrs w22 (Addr.add ⟨gb, 0, none⟩ (k0 * 4)) 0 (encNode (⟨true, ⟨a22, n22, c22⟩, ⟨none, 0, 0⟩, ⟨none, 0, 0⟩⟩ : RNode)) := h23
    rw [← h23'] at hput hgrw
    rw [show some gb = Option.map (·.block) (some (⟨gb, 0, none⟩ : Addr)) from rfl, ← ha] at hgrw
    have q123 := o22.keepBlk hgrw q122 (.inl (by decide))
    have q223 := o22.keepBlk hgrw q222 (.inl (by decide))
    have B23 := B22.trans (o22.belowOf hgrw B22.size)
    refine ⟨_, _, _, _, _, _, blk_cell q123 0, blk_cell q123 1, put_back2 q223 (put2 (G' := ⟨setNode G.nodes k0 ⟨true, t, [], []⟩, (putL G.slots t ((k0 : Int) + 1)).1⟩) q223 (by simp [ofG, hr2, g, hk0, hpe]) ?_ ?_ B23)⟩
    · refine ⟨L9.set k0 ((⟨true, ⟨a22, n22, c22⟩, ⟨none, 0, 0⟩, ⟨none, 0, 0⟩⟩ : RNode), (⟨true, t, [], []⟩ : Node)), by rw [List.map_set]; exact hset, by rw [List.map_set]; exact hput, fun p hp => ?_, ?_⟩
      · rcases List.mem_or_eq_of_mem_set hp with hp | rfl
        · obtain ⟨e1, e2, e3⟩ := hL20d p hp
          exact ⟨e1, (e2.below B22').keepBy o22 hgrw (by decide) (by decide), e3⟩
        · exact ⟨⟨rfl, hr, fun s hs => by simp at hs⟩, OwnN.keepBy ⟨ho22.mono B20d.size, Own.nil, Own.nil⟩ o22 hgrw (by decide) (by decide), rfl, rfl⟩
      · rw [List.map_set]
        exact (sblks_set _ _ _ rfl).nodup hnd20
    · obtain ⟨qs, e1, e2, e3⟩ := hE20d.below B22'
      exact ⟨qs, e1, o22.keepOwn hgrw e2 (by decide), fun p hp => ⟨(e3 p hp).1, o22.keepOwn hgrw (e3 p hp).2 (by decide)⟩⟩)
theorem k_gOf (h : Grf w a n c sa sn sc G) (hs : SmallG G) (ht : Row encId w la ln lc t) (hr : Rng t) :
    Cl Tryz.prog 12 #[.agg #[.slice a n c, .slice sa sn sc], .slice la ln lc] w (GrfE3 w (if checkG G = true then ofG G t else (⟨[], []⟩, 0, 220))) := by
  refine c12 _ _ _ _ _ _ _ _ _ ?_
  rintro _ w1 rfl h1 _ w2 rfl h2
  have q1 : w2.heap[w.heap.size]? = some (.cells #[.slice a n c, .slice sa sn sc] 27) := by rw [h2, h1]; exact blk_alloc (blk_new _)
  have q2 : w2.heap[w1.heap.size]? = some (.cells #[.slice none 0 0, .slice none 0 0] 27) := by rw [h2]; exact blk_new _
  have z1 : w1.heap.size = w.heap.size + 1 := by rw [h1, size_alloc]
  have B2 : Below w.heap.size w w2 := by rw [h2, h1]; exact (alloc_below w _).alloc (by rw [size_alloc]; omega) _
  clear h1 h2
  have hw1 : w.heap.size ≤ w1.heap.size := by omega
  refine ⟨_, _, _, _, _, _, blk_cell q1 0, blk_cell q1 1, (k_gCheck (h.below B2) hs).gives fun w3 B3' => ⟨_, rfl, ?_⟩⟩
  have B3 := B2.trans (B3'.mono B2.size)
  have q13 := blk_below q1 B3' (blk_lt q1)
  have q23 := blk_below q2 B3' (blk_lt q2)
  cases hc : checkG G with
  | false =>
    refine put_back2 q23 fun W' hW' hq' => ?_
    rw [hW']
    exact grfE3 rfl DNodesT.nil DEnts.nil ((B3.setCell hw1 _).setCell hw1 _)
  | true =>
    refine ⟨_, _, _, _, _, _, blk_cell q13 0, blk_cell q13 1, (k_gof (h.below B3) hs (ht.below B3) hr).mono ?_⟩
    rintro _ w5 ⟨a5, n5, c5, sa5, sn5, sc5, rfl, h1, h2, B5'⟩
    have B5 := B3.trans (B5'.mono B3.size)
    have q25 := blk_below q23 B5' (blk_lt q23)
    refine ⟨_, _, _, _, _, _, _, _, rfl, put_back2 q25 fun W' hW' hq' => ?_⟩
    have qm := blk_set q25 0 (.slice a5 n5 c5)
    rw [hW']
    exact grfE3 rfl (((h1.mono B3.size).farB q25 (by decide) (by decide) (by decide) _).farB qm (by decide) (by decide) (by decide) _) (((h2.mono B3.size).farB q25 (by decide) (by decide) _).farB qm (by decide) (by decide) _) ((B5.setCell hw1 _).setCell hw1 _)
end
end Go.Eng
namespace Go.Eng
open Go Go.Proofs
theorem pigeon {α : Type} [DecidableEq α] : ∀ {l l' : List α}, l.Nodup → (∀ x ∈ l, x ∈ l') → l.length ≤ l'.length
  | [], l', _, _ => Nat.zero_le _
  | x :: l, l', hn, hs => by
    obtain ⟨h1, h2⟩ := List.nodup_cons.1 hn
    have hx : x ∈ l' := hs x (by simp)
    have := pigeon (l := l) (l' := l'.erase x) h2 fun y hy => (List.mem_erase_of_ne (by rintro rfl; exact h1 hy)).2 (hs y (by simp [hy]))
    rw [List.length_erase_of_mem hx] at this
    have := List.length_pos_of_mem hx
    simp only [List.length_cons]; omega
theorem pigeon_perm {α : Type} [DecidableEq α] : ∀ {l l' : List α}, l.Nodup → (∀ x ∈ l, x ∈ l') → l'.length ≤ l.length → l'.Perm l
  | [], l', _, _, h => by
    have : l' = [] := List.eq_nil_of_length_eq_zero (by simpa using h)
    rw [this]
  | x :: l, l', hn, hs, hl => by
    obtain ⟨h1, h2⟩ := List.nodup_cons.1 hn
    have hx : x ∈ l' := hs x (by simp)
    have := pigeon_perm (l := l) (l' := l'.erase x) h2 (fun y hy => (List.mem_erase_of_ne (by rintro rfl; exact h1 hy)).2 (hs y (by simp [hy]))) (by rw [List.length_erase_of_mem hx]; simp at hl; omega)
    exact (List.perm_cons_erase hx).trans (this.cons x)
theorem nodup_map_inj {α β : Type} {f : α → β} {l : List α} (h : (l.map f).Nodup) {x y : α} (hx : x ∈ l) (hy : y ∈ l) (hxy : f x = f y) : x = y := by
  obtain ⟨i, hi, rfl⟩ := List.mem_iff_getElem.1 hx
  obtain ⟨j, hj, rfl⟩ := List.mem_iff_getElem.1 hy
  by_cases hij : i = j
  · subst hij; rfl
  · exfalso
    have := (List.pairwise_iff_getElem.1 h)
    rcases Nat.lt_or_gt_of_ne hij with h1 | h1
    · exact this i j (by simpa using hi) (by simpa using hj) h1 (by simpa using hxy)
    · exact this j i (by simpa using hj) (by simpa using hi) h1 (by simpa using hxy.symm)
theorem adj_sorted {l : List Int} (h : ∀ i (h1 : i + 1 < l.length), l[i] < l[i + 1]) : l.Pairwise (· < ·) := by
  rw [List.pairwise_iff_getElem]
  intro i j hi hj hij
  obtain ⟨d, rfl⟩ : ∃ d, j = i + 1 + d := ⟨j - (i + 1), by omega⟩
  clear hij
  induction d with
  | zero => exact h i hj
  | succ d ih =>
    have h1 := ih (by omega)
    have h2 := h (i + 1 + d) (by omega)
    exact Int.lt_trans h1 h2
structure ChG (G : PG) : Prop where
  pos : 0 < G.nodes.length
  last : isN G.nodes (G.nodes.length : Int) = true
  one : isN G.nodes 1 = true
  ty1 : (node G.nodes 1).ty.length = 0
  look : checkL G.slots = true
  ok : ∀ i, i < G.nodes.length → nodeOkG G i = true
  many : manyN G.nodes = (all7 Entry.st Entry.ty G.slots).length
theorem checkG_iff (G : PG) : checkG G = true ↔ ChG G := by
  constructor
  · intro h
    simp only [checkG, Bool.and_eq_true, decide_eq_true_eq, List.all_eq_true, List.mem_range] at h
    obtain ⟨⟨⟨⟨⟨⟨h1, h2⟩, h3⟩, h4⟩, h5⟩, h6⟩, h7⟩ := h
    rw [allL, if_pos h5] at h7
    exact ⟨h1, h2, h3, h4, h5, h6, h7⟩
  · rintro ⟨h1, h2, h3, h4, h5, h6, h7⟩
    simp only [checkG, Bool.and_eq_true, decide_eq_true_eq, List.all_eq_true, List.mem_range]
    refine ⟨⟨⟨⟨⟨⟨h1, h2⟩, h3⟩, h4⟩, h5⟩, h6⟩, ?_⟩
    rw [allL, if_pos h5]; exact h7
theorem ChG.node {G : PG} (h : ChG G) {i : Nat} (hi : i < G.nodes.length) (hu : G.nodes[i].used = true) : right2 G.nodes[i].ty = true ∧ findL G.slots G.nodes[i].ty = ((i : Int) + 1, true) ∧ stepsG G.nodes ((i : Int) + 1) G.nodes[i].plus true = true ∧ stepsG G.nodes ((i : Int) + 1) G.nodes[i].less false = true := by
  have := h.ok i hi
  rw [nodeOkG, node_eq hi, if_pos hu] at this
  simp only [Bool.and_eq_true, beq_iff_eq] at this
  obtain ⟨⟨⟨⟨h1, h2⟩, h3⟩, h4⟩, h5⟩ := this
  exact ⟨h1, Prod.ext h3 h2, h4, h5⟩
theorem ChG.free {G : PG} (h : ChG G) {i : Nat} (hi : i < G.nodes.length) (hu : G.nodes[i].used = false) : G.nodes[i].ty = [] ∧ G.nodes[i].plus = [] ∧ G.nodes[i].less = [] := by
  have := h.ok i hi
  rw [nodeOkG, node_eq hi, if_neg (by rw [hu]; simp)] at this
  simp only [decide_eq_true_eq] at this
  exact ⟨List.eq_nil_of_length_eq_zero (by omega), List.eq_nil_of_length_eq_zero (by omega), List.eq_nil_of_length_eq_zero (by omega)⟩
theorem stepsG_sorted {l : List Node} {n : Int} {row : List Stp} {plus : Bool} (h : stepsG l n row plus = true) : (keys row).Pairwise (· < ·) := by
  refine adj_sorted fun i h1 => ?_
  have hl : (keys row).length = row.length := by simp [keys]
  simp only [stepsG, List.all_eq_true, List.mem_range] at h
  have := h (i + 1) (by omega)
  simp only [stepOkG, Bool.and_eq_true, Bool.or_eq_true, decide_eq_true_eq] at this
  have h2 := this.1.1.1
  rcases h2 with h2 | h2
  · omega
  · rw [Nat.add_sub_cancel, stp_eqAt (by omega), stp_eqAt (by omega)] at h2
    rw [keys_get (by omega), keys_get (by omega)]; exact h2
theorem findL_some {l : List Entry} {t : List Int} {m : Int} (h : findL l t = (m, true)) : checkL l = true ∧ ∃ k, k < l.length ∧ place l t = (k : Int) ∧ (slot l k).st = 1 ∧ (slot l k).ty = t ∧ (slot l k).num = m := by
  unfold findL at h
  cases hc : checkL l with
  | false => simp [hc] at h
  | true =>
    refine ⟨rfl, ?_⟩
    rw [hc] at h
    rcases place_lt (l := l) (t := t) with h0 | ⟨k, hk, hp, h1, h2⟩
    · simp [h0] at h
    · have hn : ¬ ((k : Nat) : Int) < 0 := by omega
      rw [hp] at h
      simp [hn] at h
      exact ⟨k, hk, hp, h1, h2, h⟩
def usedE (l : List Entry) : List Entry := l.filter fun e => e.st == 1
def usedIx (l : List Node) : List Nat := (List.range l.length).filter fun i : Nat => (node l ((i : Int) + 1)).used
theorem usedIx_nodup (l : List Node) : (usedIx l).Nodup := List.nodup_range.filter _
theorem filter_range_len : ∀ (l : List Node), ((List.range l.length).filter fun i : Nat => (node l ((i : Int) + 1)).used).length = (l.filter fun x => x.used).length := by
  intro l
  have h1 : l = (List.range l.length).map fun i : Nat => node l ((i : Int) + 1) := by
    apply List.ext_getElem
    · simp
    · intro i h1 h2
      simp [node_eq h1]
  have h2 : (l.filter fun x => x.used) = (((List.range l.length).map fun i : Nat => node l ((i : Int) + 1)).filter fun x => x.used) := by rw [← h1]
  rw [h2, List.filter_map, List.length_map]
  rfl
theorem usedIx_len (l : List Node) : (usedIx l).length = manyN l := filter_range_len l
theorem mem_usedIx {l : List Node} {i : Nat} : i ∈ usedIx l ↔ ∃ h : i < l.length, l[i].used = true := by
  simp only [usedIx, List.mem_filter, List.mem_range]
  constructor
  · rintro ⟨h1, h2⟩; rw [node_eq h1] at h2; exact ⟨h1, h2⟩
  · rintro ⟨h1, h2⟩; exact ⟨h1, by rw [node_eq h1]; exact h2⟩
/-- The numbers of the used slots are those of the used nodes. -/
theorem ChG.nums {G : PG} (h : ChG G) : ((usedE G.slots).map (·.num)).Perm ((usedIx G.nodes).map fun i : Nat => (i : Int) + 1) := by
  refine pigeon_perm ?_ ?_ ?_
  · rw [List.nodup_iff_pairwise_ne, List.pairwise_map]
    exact (usedIx_nodup G.nodes).imp fun hab => by omega
  · intro x hx
    obtain ⟨i, hi, rfl⟩ := List.mem_map.1 hx
    obtain ⟨h1, h2⟩ := mem_usedIx.1 hi
    obtain ⟨_, hf, _, _⟩ := h.node h1 h2
    obtain ⟨_, k, hk, _, hst, hty, hnum⟩ := findL_some hf
    rw [slot_eq hk] at hst hnum
    exact List.mem_map.2 ⟨G.slots[k], List.mem_filter.2 ⟨List.getElem_mem hk, by simp [hst]⟩, hnum⟩
  · have h1 := h.many
    have h2 := (all7_perm Entry.st Entry.ty G.slots).length_eq
    rw [List.length_map, List.length_map, usedIx_len, h1, h2]; exact Nat.le_refl _
theorem ChG.numInj {G : PG} (h : ChG G) {e e' : Entry} (he : e ∈ G.slots) (he' : e' ∈ G.slots) (h1 : e.st = 1) (h2 : e'.st = 1) (hn : e.num = e'.num) : e = e' := by
  have hnd : ((usedE G.slots).map (·.num)).Nodup := by
    rw [h.nums.nodup_iff, List.nodup_iff_pairwise_ne, List.pairwise_map]
    exact (usedIx_nodup G.nodes).imp fun hab => by omega
  exact nodup_map_inj hnd (List.mem_filter.2 ⟨he, by simp [h1]⟩) (List.mem_filter.2 ⟨he', by simp [h2]⟩) hn
/-- A slot's number is its type's node. -/
theorem ChG.slotNode {G : PG} (h : ChG G) {e : Entry} (he : e ∈ G.slots) (h1 : e.st = 1) : ∃ (i : Nat) (hi : i < G.nodes.length), e.num = (i : Int) + 1 ∧ G.nodes[i].used = true ∧ G.nodes[i].ty = e.ty := by
  have hm : e.num ∈ (usedE G.slots).map (·.num) := List.mem_map.2 ⟨e, List.mem_filter.2 ⟨he, by simp [h1]⟩, rfl⟩
  obtain ⟨i, hi, hin⟩ := List.mem_map.1 (h.nums.mem_iff.1 hm)
  obtain ⟨hi1, hu⟩ := mem_usedIx.1 hi
  obtain ⟨_, hf, _, _⟩ := h.node hi1 hu
  obtain ⟨_, k, hk, _, hst, hty, hnum⟩ := findL_some hf
  rw [slot_eq hk] at hst hty hnum
  have := h.numInj he (List.getElem_mem hk) h1 hst (by rw [hnum, ← hin])
  exact ⟨i, hi1, hin.symm, hu, by rw [this, hty]⟩
theorem ChG.find {G : PG} (h : ChG G) {t : List Int} (hf : (findL G.slots t).2 = true) : ∃ (i : Nat) (hi : i < G.nodes.length), (findL G.slots t).1 = (i : Int) + 1 ∧ G.nodes[i].used = true ∧ G.nodes[i].ty = t := by
  obtain ⟨_, k, hk, _, hst, hty, hnum⟩ := findL_some (l := G.slots) (t := t) (m := (findL G.slots t).1) (Prod.ext rfl hf)
  rw [slot_eq hk] at hst hty hnum
  obtain ⟨i, hi, h1, h2, h3⟩ := h.slotNode (List.getElem_mem hk) hst
  exact ⟨i, hi, by rw [← hnum, h1], h2, by rw [h3, hty]⟩
end Go.Eng
