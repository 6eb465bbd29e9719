/- The given statement GraphTurnsSaid is proved here: for every input the law answers true and the input reads as it did. Conditions: none. -/
import Derived.Test.YtfcnkaignjdpgaaGreatA9
import Derived.ProofKit
import Derived.Test.YtfcnkaignjdpgaaGreatRows
set_option linter.unusedVariables false
set_option linter.unusedSimpArgs false
set_option linter.unusedSectionVars false
namespace Go.Eng
open Go Go.RowKit Go.Proofs
set_option maxRecDepth 10000
/-- All but the blocks of a stretch is kept. -/
structure KeepOut (lo hi : Nat) (w w' : World) : Prop where
  os : w'.os = w.os
  tape : w'.tape = w.tape
  output : w'.output = w.output
  size : w.heap.size ≤ w'.heap.size
  block : ∀ b, b < w.heap.size → ¬ (lo ≤ b ∧ b < hi) → w'.heap[b]? = w.heap[b]?
theorem KeepOut.refl (lo hi : Nat) (w : World) : KeepOut lo hi w w := ⟨rfl, rfl, rfl, Nat.le_refl _, fun _ _ _ => rfl⟩
theorem KeepOut.trans {lo hi : Nat} {a b c : World} (h : KeepOut lo hi a b) (k : KeepOut lo hi b c) : KeepOut lo hi a c :=
  ⟨k.os.trans h.os, k.tape.trans h.tape, k.output.trans h.output, Nat.le_trans h.size k.size, fun x hx hn => (k.block x (by have := h.size; omega) hn).trans (h.block x hx hn)⟩
theorem KeepOut.of_below {lo hi : Nat} {w w' : World} (h : Below w.heap.size w w') : KeepOut lo hi w w' := ⟨h.os, h.tape, h.output, h.size, fun b hb _ => h.block b hb⟩
theorem KeepOut.set {lo hi g : Nat} (w : World) (h1 : lo ≤ g) (h2 : g < hi) (j : Nat) (v : Value) : KeepOut lo hi w (w.setCell ⟨g, j, none⟩ v) :=
  ⟨rfl, rfl, rfl, by simp, fun b hb hn => Below.heap_setCell _ _ _ _ (by rintro rfl; exact hn ⟨h1, h2⟩)⟩
theorem KeepOut.below {lo hi : Nat} {w w' : World} (h : KeepOut lo hi w w') (hlo : lo ≤ w.heap.size) : Below lo w w' := ⟨h.os, h.tape, h.output, h.size, fun b hb => h.block b (by omega) (by omega)⟩
theorem Own.keepOut {α : Type} {enc : α → List Value} {k : Nat} {e : TypeId} {lo lo' hi : Nat} {w w' : World} {a : Option Addr} {n c : Nat} {l : List α} (h : Own enc k e lo' w a n c l) (hk : KeepOut lo hi w w') (hl : hi ≤ lo') : Own enc k e lo' w' a n c l :=
  h.keep fun g cs _ hg hgb => (hk.block g (blk_lt hgb) (by omega)).trans hgb
theorem DNodes.keepOut {lo lo' hi : Nat} {w w' : World} {a : Option Addr} {n c : Nat} {l : List Node} (h : DNodes lo' w a n c l) (hk : KeepOut lo hi w w') (hl : hi ≤ lo') : DNodes lo' w' a n c l := by
  obtain ⟨qs, h1, ho, hq⟩ := h
  exact ⟨qs, h1, ho.keepOut hk hl, fun p hp => ⟨(hq p hp).1, (hq p hp).2.ty.keepOut hk hl, (hq p hp).2.plus.keepOut hk hl, (hq p hp).2.less.keepOut hk hl⟩⟩
theorem DEnts.keepOut {lo lo' hi : Nat} {w w' : World} {a : Option Addr} {n c : Nat} {l : List Entry} (h : DEnts lo' w a n c l) (hk : KeepOut lo hi w w') (hl : hi ≤ lo') : DEnts lo' w' a n c l := by
  obtain ⟨qs, h1, ho, hq⟩ := h
  exact ⟨qs, h1, ho.keepOut hk hl, fun p hp => ⟨(hq p hp).1, (hq p hp).2.keepOut hk hl⟩⟩
/-- A row of so many cells lies in a stretch, whatever it holds. -/
def Lies (lo hi : Nat) (w : World) (t : TypeId) (k : Nat) (a : Option Addr) (n : Nat) : Prop := (a = none ∧ n = 0) ∨ ∃ g cs, a = some ⟨g, 0, none⟩ ∧ lo ≤ g ∧ g < hi ∧ w.heap[g]? = some (.cells cs t (0, 0)) ∧ n * k ≤ cs.size
theorem Own.lies {α : Type} {enc : α → List Value} {k : Nat} {e : TypeId} {lo hi : Nat} {w : World} {a : Option Addr} {n c : Nat} {l : List α} (h : Own enc k e lo w a n c l) (hh : w.heap.size ≤ hi) : Lies lo hi w e k a n := by
  obtain ⟨h1, h2, h3, h4⟩ := h
  rcases h4 with ⟨ha, hc⟩ | ⟨g, cs, ha, hlo, hg, hs, ht⟩
  · exact .inl ⟨ha, by omega⟩
  · exact .inr ⟨g, cs, ha, hlo, Nat.lt_of_lt_of_le (blk_lt hg) hh, hg, Nat.le_trans (Nat.mul_le_mul_right _ h2) hs⟩
theorem Lies.below {lo hi : Nat} {w w' : World} {t : TypeId} {k : Nat} {a : Option Addr} {n : Nat} (h : Lies lo hi w t k a n) (hB : Below w.heap.size w w') : Lies lo hi w' t k a n :=
  h.imp id fun ⟨g, cs, h1, h2, h3, h4, h5⟩ => ⟨g, cs, h1, h2, h3, blk_below h4 hB (blk_lt h4), h5⟩
theorem Lies.set {lo hi : Nat} {w : World} {t : TypeId} {k : Nat} {a : Option Addr} {n : Nat} (h : Lies lo hi w t k a n) {b j : Nat} (v : Value) : Lies lo hi (w.setCell ⟨b, j, none⟩ v) t k a n := by
  refine h.imp id fun ⟨g, cs, h1, h2, h3, h4, h5⟩ => ?_
  by_cases hb : g = b
  · subst hb
    exact ⟨g, _, h1, h2, h3, blk_set h4 j v, by simpa using h5⟩
  · exact ⟨g, cs, h1, h2, h3, blk_far h4 hb v, h5⟩
/-- A cell of it. -/
theorem Lies.cell {lo hi : Nat} {w : World} {t : TypeId} {k : Nat} {a : Option Addr} {n : Nat} (h : Lies lo hi w t k a n) {i j : Nat} (hi' : i < n) (hj : j < k) :
    ∃ g cs, a = some ⟨g, 0, none⟩ ∧ lo ≤ g ∧ g < hi ∧ w.heap[g]? = some (.cells cs t (0, 0)) ∧ (w.cell? ⟨g, i * k + j, none⟩).isSome = true ∧ w.frozen? ⟨g, i * k + j, none⟩ = false := by
  rcases h with ⟨_, h0⟩ | ⟨g, cs, h1, h2, h3, h4, h5⟩
  · omega
  · refine ⟨g, cs, h1, h2, h3, h4, blk_some h4 ?_, blk_free h4 _⟩
    have : (i + 1) * k ≤ n * k := Nat.mul_le_mul_right _ hi'
    rw [Nat.add_mul] at this; omega
/-- What holds while a graph is written over. -/
structure Spo (lo hi : Nat) (W0 : World) (b : Nat) (bv : Array Value) (na : Option Addr) (nn nc : Nat) (rs : List RNode) (sa : Option Addr) (sn : Nat) (W : World) : Prop where
  keep : KeepOut lo hi W0 W
  box : W.heap[b]? = some (.cells bv 27)
  row : Own encNode 4 56 lo W na nn nc rs
  ids : ∀ r ∈ rs, Lies lo hi W 32 1 r.ty.a r.ty.n
  plus : ∀ r ∈ rs, Lies lo hi W 71 2 r.plus.a r.plus.n
  less : ∀ r ∈ rs, Lies lo hi W 71 2 r.less.a r.less.n
  slots : Lies lo hi W 94 3 sa sn
theorem Spo.set {lo hi : Nat} {W0 : World} {b : Nat} {bv : Array Value} {na : Option Addr} {nn nc : Nat} {rs : List RNode} {sa : Option Addr} {sn : Nat} {W : World} (h : Spo lo hi W0 b bv na nn nc rs sa sn W) {g : Nat} {cs : Array Value} {t : TypeId} (hg : W.heap[g]? = some (.cells cs t (0, 0))) (h1 : lo ≤ g) (h2 : g < hi) (ht : t ≠ 56) (ht2 : 27 ≠ t) (j : Nat) (v : Value) :
    Spo lo hi W0 b bv na nn nc rs sa sn (W.setCell ⟨g, j, none⟩ v) where
  keep := h.keep.trans (KeepOut.set W h1 h2 j v)
  box := blk_far h.box (by rintro rfl; rw [h.box] at hg; cases hg; exact ht2 rfl) v
  row := h.row.far hg ht v
  ids r hr := (h.ids r hr).set v
  plus r hr := (h.plus r hr).set v
  less r hr := (h.less r hr).set v
  slots := h.slots.set v
section
variable {w w0 : World} {a sa : Option Addr} {n c sn sc lo : Nat} {G : PG}
set_option maxHeartbeats 1000000
theorem k_wSpoil (hd : DNodes lo w0 a n c G.nodes) (he : DEnts lo w0 sa sn sc G.slots) (hB : Below w0.heap.size w0 w) : Cl Tryz.prog 21 #[.agg #[.slice a n c, .slice sa sn sc]] w (fun v w' => v = undef ∧ KeepOut lo w0.heap.size w w') := by
  refine c21 _ _ _ _ _ _ ?_
  obtain ⟨qs, hqs, ho, hq⟩ := hd
  obtain ⟨es, hes, hoe, _⟩ := he
  rintro _ w1 rfl h1
  have q1 : w1.heap[w.heap.size]? = some (.cells #[.slice a n c, .slice sa sn sc] 27) := by rw [h1]; exact blk_new _
  have B1 : Below w.heap.size w w1 := by rw [h1]; exact alloc_below _ _
  clear h1
  have B01 : Below w0.heap.size w0 w1 := hB.trans (B1.mono hB.size)
  generalize hrs : qs.map (·.1) = rs at ho
  have hrl : rs.length = n := ho.len.symm
  have hn63 := ho.row.n63
  have he63 := hoe.row.n63
  have hS : Spo lo w0.heap.size w w.heap.size #[.slice a n c, .slice sa sn sc] a n c rs sa sn w1 := by
    refine ⟨KeepOut.of_below B1, q1, ho.below B01, fun r hr => ?_, fun r hr => ?_, fun r hr => ?_, (hoe.lies (Nat.le_refl _)).below B01⟩
    all_goals (
      rw [← hrs] at hr
      obtain ⟨p, hp, rfl⟩ := List.mem_map.1 hr)
    · exact ((hq p hp).2.ty.lies (Nat.le_refl _)).below B01
    · exact ((hq p hp).2.plus.lies (Nat.le_refl _)).below B01
    · exact ((hq p hp).2.less.lies (Nat.le_refl _)).below B01
  have h63 : ∀ r ∈ rs, r.ty.n ≤ 9223372036854775807 ∧ r.plus.n ≤ 9223372036854775807 ∧ r.less.n ≤ 9223372036854775807 := by
    intro r hr
    rw [← hrs] at hr
    obtain ⟨p, hp, rfl⟩ := List.mem_map.1 hr
    exact ⟨(hq p hp).2.ty.row.n63, (hq p hp).2.plus.row.n63, (hq p hp).2.less.row.n63⟩
  clear B01 B1 hoe hq hrs q1
  generalize hhi : w0.heap.size = hi at hS ⊢
  refine ⟨_, _, _, blk_cell hS.box 0, fun i W => Spo lo hi w w.heap.size #[.slice a n c, .slice sa sn sc] a n c rs sa sn W ∧ ∃ k : Nat, i = k ∧ k ≤ n, fun i _ => n - i.toNat, ⟨hS, 0, rfl, by omega⟩, ?_⟩
  rintro _ W _ ⟨hW, k, rfl, hk⟩
  have htk : ((k : Nat) : Int).toNat = k := Int.toNat_natCast k
  refine cnd (fun hc => ?_) fun hc => ?_
  · have hkn : k < n := by simpa using hc
    have hkr : k < rs.length := by omega
    have hmem := List.getElem_mem hkr
    obtain ⟨hb1, hb2, hb3⟩ := h63 _ hmem
    rw [nx (by omega)]
    have field : ∀ {W : World}, Spo lo hi w w.heap.size #[.slice a n c, .slice sa sn sc] a n c rs sa sn W → ∃ g, a = some ⟨g, 0, none⟩ ∧ W.cell? ((Addr.add ⟨g, 0, none⟩ (k * 4)).add 1) = some (.slice rs[k].ty.a rs[k].ty.n rs[k].ty.c) ∧ W.cell? ((Addr.add ⟨g, 0, none⟩ (k * 4)).add 2) = some (.slice rs[k].plus.a rs[k].plus.n rs[k].plus.c) ∧ W.cell? ((Addr.add ⟨g, 0, none⟩ (k * 4)).add 3) = some (.slice rs[k].less.a rs[k].less.n rs[k].less.c) := by
      intro W hW
      obtain ⟨g, _, ha, h1, _, _⟩ := hW.row.fieldB enNode (i := k) (j := 1) hkn (by decide)
      obtain ⟨g2, _, ha2, h2, _, _⟩ := hW.row.fieldB enNode (i := k) (j := 2) hkn (by decide)
      obtain ⟨g3, _, ha3, h3, _, _⟩ := hW.row.fieldB enNode (i := k) (j := 3) hkn (by decide)
      rw [ha] at ha2 ha3
      cases ha2; cases ha3
      exact ⟨g, ha, h1, h2, h3⟩
    obtain ⟨g, ha, f1, f2, f3⟩ := field hW
    have fld : ∀ {W : World}, Spo lo hi w w.heap.size #[.slice a n c, .slice sa sn sc] a n c rs sa sn W → W.cell? ((Addr.add ⟨g, 0, none⟩ (k * 4)).add 1) = some (.slice rs[k].ty.a rs[k].ty.n rs[k].ty.c) ∧ W.cell? ((Addr.add ⟨g, 0, none⟩ (k * 4)).add 2) = some (.slice rs[k].plus.a rs[k].plus.n rs[k].plus.c) ∧ W.cell? ((Addr.add ⟨g, 0, none⟩ (k * 4)).add 3) = some (.slice rs[k].less.a rs[k].less.n rs[k].less.c) := by
      intro W hW
      obtain ⟨g', ha', r⟩ := field hW
      rw [ha] at ha'; cases ha'; exact r
    rw [htk]
    refine ⟨_, _, _, blk_cell hW.box 0, ⟨g, 0, none⟩, ha, by omega, by omega, _, _, _, f1, fun _ W => Spo lo hi w w.heap.size #[.slice a n c, .slice sa sn sc] a n c rs sa sn W, ?_, ?_⟩
    · refine ⟨fun i W => Spo lo hi w w.heap.size #[.slice a n c, .slice sa sn sc] a n c rs sa sn W ∧ ∃ j : Nat, i = j ∧ j ≤ rs[k].ty.n, fun i _ => rs[k].ty.n - i.toNat, ⟨hW, 0, rfl, by omega⟩, ?_⟩
      rintro _ W3 _ ⟨hW3, j, rfl, hj⟩
      refine cnd (fun hc => ?_) fun hc => hW3
      have hjn : j < rs[k].ty.n := by simpa using hc
      obtain ⟨gi, cs, hga, hg1, hg2, hg3, hg4, hg5⟩ := (hW3.ids _ hmem).cell (i := j) (j := 0) hjn (by decide)
      refine ⟨_, _, _, blk_cell hW3.box 0, ⟨g, 0, none⟩, ha, by omega, by omega, _, _, _, (fld hW3).1, _, hga, by omega, by omega, ?_⟩
      rw [Int.toNat_natCast, Addr.add_lit, Nat.zero_add]
      refine ⟨hg4, hg5, ?_⟩
      rintro _ rfl
      rw [nx (by omega)]
      exact ⟨⟨hW3.set hg3 hg1 hg2 (by decide) (by decide) _ _, j + 1, rfl, by omega⟩, dec hjn⟩
    rintro _ W5 _ hW5
    refine ⟨_, _, _, blk_cell hW5.box 0, ⟨g, 0, none⟩, ha, by omega, by omega, _, _, _, (fld hW5).2.1, fun _ W => Spo lo hi w w.heap.size #[.slice a n c, .slice sa sn sc] a n c rs sa sn W, ?_, ?_⟩
    · refine ⟨fun i W => Spo lo hi w w.heap.size #[.slice a n c, .slice sa sn sc] a n c rs sa sn W ∧ ∃ j : Nat, i = j ∧ j ≤ rs[k].plus.n, fun i _ => rs[k].plus.n - i.toNat, ⟨hW5, 0, rfl, by omega⟩, ?_⟩
      rintro _ W3 _ ⟨hW3, j, rfl, hj⟩
      refine cnd (fun hc => ?_) fun hc => hW3
      have hjn : j < rs[k].plus.n := by simpa using hc
      obtain ⟨gi, cs, hga, hg1, hg2, hg3, hg4, hg5⟩ := (hW3.plus _ hmem).cell (i := j) (j := 1) hjn (by decide)
      refine ⟨_, _, _, blk_cell hW3.box 0, ⟨g, 0, none⟩, ha, by omega, by omega, _, _, _, (fld hW3).2.1, _, hga, by omega, by omega, ?_⟩
      rw [Int.toNat_natCast, Addr.add_lit, Nat.zero_add, Addr.add_lit]
      refine ⟨hg4, hg5, ?_⟩
      rintro _ rfl
      rw [nx (by omega)]
      exact ⟨⟨hW3.set hg3 hg1 hg2 (by decide) (by decide) _ _, j + 1, rfl, by omega⟩, dec hjn⟩
    rintro _ W8 _ hW8
    refine ⟨_, _, _, blk_cell hW8.box 0, ⟨g, 0, none⟩, ha, by omega, by omega, _, _, _, (fld hW8).2.2, fun i W => Spo lo hi w w.heap.size #[.slice a n c, .slice sa sn sc] a n c rs sa sn W ∧ ∃ j : Nat, i = j ∧ j ≤ rs[k].less.n, fun i _ => rs[k].less.n - i.toNat, ⟨hW8, 0, rfl, by omega⟩, ?_⟩
    rintro _ W3 _ ⟨hW3, j, rfl, hj⟩
    refine cnd (fun hc => ?_) fun hc => ⟨⟨hW3, k + 1, rfl, by omega⟩, dec hkn⟩
    have hjn : j < rs[k].less.n := by simpa using hc
    obtain ⟨gi, cs, hga, hg1, hg2, hg3, hg4, hg5⟩ := (hW3.less _ hmem).cell (i := j) (j := 1) hjn (by decide)
    refine ⟨_, _, _, blk_cell hW3.box 0, ⟨g, 0, none⟩, ha, by omega, by omega, _, _, _, (fld hW3).2.2, _, hga, by omega, by omega, ?_⟩
    rw [Int.toNat_natCast, Addr.add_lit, Nat.zero_add, Addr.add_lit]
    refine ⟨hg4, hg5, ?_⟩
    rintro _ rfl
    rw [nx (k := j) (by omega)]
    exact ⟨⟨hW3.set hg3 hg1 hg2 (by decide) (by decide) _ _, j + 1, rfl, by omega⟩, dec hjn⟩
  · refine ⟨_, _, _, blk_cell hW.box 1, fun i W => Spo lo hi w w.heap.size #[.slice a n c, .slice sa sn sc] a n c rs sa sn W ∧ ∃ j : Nat, i = j ∧ j ≤ sn, fun i _ => sn - i.toNat, ⟨hW, 0, rfl, by omega⟩, ?_⟩
    rintro _ W3 _ ⟨hW3, j, rfl, hj⟩
    refine cnd (fun hc => ?_) fun hc => ⟨rfl, hW3.keep⟩
    have hjn : j < sn := by simpa using hc
    obtain ⟨gi, cs, hga, hg1, hg2, hg3, hg4, hg5⟩ := hW3.slots.cell (i := j) (j := 2) hjn (by decide)
    refine ⟨_, _, _, blk_cell hW3.box 1, _, hga, by omega, by omega, ?_⟩
    rw [Int.toNat_natCast, Addr.add_lit, Nat.zero_add, Addr.add_lit]
    refine ⟨hg4, hg5, ?_⟩
    rintro _ rfl
    rw [nx (by omega)]
    exact ⟨⟨hW3.set hg3 hg1 hg2 (by decide) (by decide) _ _, j + 1, rfl, by omega⟩, dec hjn⟩
end
end Go.Eng
namespace Go.Eng
open Go Go.RowKit Go.Proofs
set_option maxRecDepth 10000
/-- An id of a component, of a pair; the error. -/
def comE (n : Int) : Int × Int := if is1 n 1 24 = true then (packed2 4611686018427387904 0 n, 0) else (0, 2)
def pairE (r t : Int) : Int × Int := if is1 r 0 1048578 = true ∧ is1 t 0 1048578 = true then (packed2 9223372036854775808 r t, 0) else (0, 2)
theorem k_iComponent (n : Int) {w : World} : Cl Tryz.prog 44 #[.int .i64 n] w (Gives w (.tuple #[.int .u64 (comE n).1, .int .i64 (comE n).2])) := by
  refine c44 _ ?_
  rintro _ w1 rfl h1
  have B1 : Below w.heap.size w w1 := by rw [h1]; exact alloc_below _ _
  have r1 : Row encInt w1 (some ⟨w.heap.size, 0, none⟩) 1 1 [n] := by rw [h1]; exact row_new enInt w 3 [n] (by simp)
  refine (k_iwithin 1 24 r1).is ⟨_, rfl, cnd (fun g => ?_) fun g => ?_⟩
  · have : is1 n 1 24 = false := by simpa using g
    exact ⟨by simp [comE, this], B1⟩
  · have : is1 n 1 24 = true := by simpa using g
    exact (k_ipacked _ _ _).is ⟨_, rfl, by simp [comE, this], B1⟩
theorem k_iPair (r t : Int) {w : World} : Cl Tryz.prog 45 #[.int .i64 r, .int .i64 t] w (Gives w (.tuple #[.int .u64 (pairE r t).1, .int .i64 (pairE r t).2])) := by
  refine c45 _ _ ?_
  rintro _ w1 rfl h1
  have B1 : Below w.heap.size w w1 := by rw [h1]; exact alloc_below _ _
  have r1 : Row encInt w1 (some ⟨w.heap.size, 0, none⟩) 2 2 [r, t] := by rw [h1]; exact row_new enInt w 3 [r, t] (by simp)
  refine (k_iwithin 0 1048578 r1).is ⟨_, rfl, cnd (fun g => ?_) fun g => ?_⟩
  · have : ¬ (is1 r 0 1048578 = true ∧ is1 t 0 1048578 = true) := by
      rintro ⟨a, b⟩; simp [a, b] at g
    exact ⟨by simp [pairE, this], B1⟩
  · have : is1 r 0 1048578 = true ∧ is1 t 0 1048578 = true := by simpa using g
    exact (k_ipacked _ _ _).is ⟨_, rfl, by simp [pairE, this], B1⟩
/-- A graph in memory of its own. -/
def DG (lo : Nat) (w : World) (a : Option Addr) (n c : Nat) (sa : Option Addr) (sn sc : Nat) (G : PG) : Prop := DNodes lo w a n c G.nodes ∧ DEnts lo w sa sn sc G.slots
section
variable {lo : Nat} {w w' : World} {a sa : Option Addr} {n c sn sc : Nat} {G : PG}
theorem DG.grf (h : DG lo w a n c sa sn sc G) : Grf w a n c sa sn sc G := ⟨h.1.nodes, h.2.ents⟩
theorem DG.below (h : DG lo w a n c sa sn sc G) (hB : Below w.heap.size w w') : DG lo w' a n c sa sn sc G := ⟨h.1.below hB, h.2.below hB⟩
theorem Grf.rng (h : Grf w a n c sa sn sc G) : RngG G := by
  constructor
  · obtain ⟨rs, _, h2⟩ := h.nodes
    intro x hx
    obtain ⟨i, hi, rfl⟩ := List.mem_iff_getElem.1 hx
    exact (h2.2 i (by have := h2.1; omega) hi).rng.1
  · obtain ⟨rs, _, h2⟩ := h.slots
    intro x hx
    obtain ⟨i, hi, rfl⟩ := List.mem_iff_getElem.1 hx
    exact (h2.2 i (by have := h2.1; omega) hi).rng.1
/-- A graph is put into a box of its own. -/
theorem box_grf {W : World} {e : TypeId} {K : Nat → World → Prop}
    (hK : ∀ w6 : World, w6.heap[W.heap.size]? = some (.cells #[.slice a n c, .slice sa sn sc] e (0, 0)) → Below W.heap.size W w6 → w6.heap.size = W.heap.size + 1 → K W.heap.size w6) :
    ∀ (b : Nat) (w5 : World), b = W.heap.size → w5 = W.alloc (.cells #[.slice none 0 0, .slice none 0 0] e) → ((w5.cell? (Addr.mk b 0 none)).isSome = true ∧ w5.frozen? (Addr.mk b 0 none) = false ∧ ((w5.cell? ((Addr.mk b 0 none).add 1)).isSome = true ∧ w5.frozen? ((Addr.mk b 0 none).add 1) = false ∧
    (∀ w6 : World, w6 = (w5.setCell (Addr.mk b 0 none) (.slice a n c)).setCell ((Addr.mk b 0 none).add 1) (.slice sa sn sc) → K b w6))) := by
  rintro b w5 hb h5
  have s5 : w5.heap[b]? = some (.cells #[.slice none 0 0, .slice none 0 0] e) := by rw [h5, hb]; exact blk_new _
  refine ⟨blk_some s5 (by simp), blk_free s5 _, blk_some s5 (j := 1) (by simp), blk_free s5 1, ?_⟩
  rintro w6 h6
  have s6 : w6.heap[b]? = some (.cells #[.slice a n c, .slice sa sn sc] e (0, 0)) := by rw [h6]; exact blk_set (blk_set s5 0 _) 1 _
  have B6 : Below W.heap.size W w6 := by
    subst h6; subst h5; subst hb
    exact ((alloc_below W _).setCell (Nat.le_refl _) _).setCell (Nat.le_refl _) _
  have z6 : w6.heap.size = W.heap.size + 1 := by rw [h6, size_set, size_set, h5, size_alloc]
  rw [hb]
  rw [hb] at s6
  exact hK w6 s6 B6 z6
end
theorem place_newL (t : List Int) : place newL t < 0 := by
  rcases place_lt (l := newL) (t := t) with h | ⟨k, hk, _, h, _⟩
  · exact h
  · rw [slot_eq hk] at h
    have : newL[k] = blankE := List.getElem_replicate _
    rw [this] at h; cases h
theorem all7_newL : all7 Entry.st Entry.ty newL = [] := by rfl
theorem newG_rg : RG newG := by
  obtain ⟨_, h2, h3⟩ := put_ok (l := newL) (t := []) (num := 1) new_ok.1 rfl (by decide) (place_newL []) (by rw [all7_newL]; decide)
  refine ⟨(nodes12_iff ?_).1 rfl, h2, ?_⟩
  · intro x hx; simp only [newG, List.mem_singleton] at hx; subst hx; intro y hy; cases hy
  · rw [new_ok.2] at h3; exact h3
theorem newG_len : newG.slots.length ≤ 16004 := by
  have e : putL newL [] 1 = (laidL (all7 Entry.st Entry.ty newL ++ [⟨1, [], 1⟩]) (manyOf ((all7 Entry.st Entry.ty newL).length + 1)), 0) := by
    have := place_newL []
    simp only [putL, new_ok.1, show right2 [] = true from rfl, Bool.true_eq_false, if_false, show ¬ (1 : Int) < 0 by decide, show ¬ 0 ≤ place newL [] by omega, all7_newL, List.length_nil, show ¬ (0 : Nat) = 4000 by decide]
  show (putL newL [] 1).1.length ≤ _
  rw [e]
  show (laidL _ _).length ≤ _
  rw [laidL_len, all7_newL]; decide
structure Known (G : PG) (A : List Node) : Prop where
  nodes : G.nodes = A
  rg : RG G
  slots : G.slots.length ≤ 16004
theorem Known.small {G : PG} {A : List Node} (h : Known G A) (hA : A.length ≤ 1000000) : SmallG G := h.rg.small (by rw [h.nodes]; exact hA) (by have := h.slots; omega)
theorem Known.go {G : PG} {A B : List Node} (h : Known G A) (hr : RngG G) {id : Int} (hid : 0 ≤ id ∧ id < 18446744073709551616) {n m : Int} {plus : Bool} (hB : go12 A n id plus = (B, m, 0)) :
    Known (goneG (turn2 plus) G n id plus).1 B ∧ (goneG (turn2 plus) G n id plus).2 = (m, 0) := by
  have hA := go_alike h.rg hr hid n plus
  have h1 := hA.nodes; have h2 := hA.rest; have h3 := hA.len
  rw [h.nodes, hB] at h1 h2
  have h4 := h.slots
  exact ⟨⟨h1, (hA.ok (by rw [h2])).1, by omega⟩, h2⟩
theorem Known.drop {G : PG} {A B : List Node} (h : Known G A) {m : Int} (hB : drop12 A m = (B, 0)) : Known (dropG G m).1 B ∧ (dropG G m).2 = 0 := by
  obtain ⟨h1, h2, h3, _, h5⟩ := drop_alike h.rg m
  rw [h.nodes, hB] at h1 h2
  have h4 := h.slots
  exact ⟨⟨h1, (h5 h2).1, by omega⟩, h2⟩
end Go.Eng
namespace Go.Eng
open Go Go.RowKit Go.Proofs
set_option maxRecDepth 10000
def c0 : Int := 4611686018427387907
def p0 : Int := 9223372054034644997
theorem com3 : comE 3 = (c0, 0) := by decide +kernel
theorem pair45 : pairE 4 5 = (p0, 0) := by decide +kernel
def A1 : List Node := [⟨true, [], [(c0, 2)], []⟩, ⟨true, [c0], [], [(c0, 1)]⟩]
def A2 : List Node := [⟨true, [], [(c0, 2)], []⟩, ⟨true, [c0], [(p0, 3)], [(c0, 1)]⟩, ⟨true, [c0, p0], [], [(p0, 2)]⟩]
def A3 : List Node := [⟨true, [], [(c0, 2)], []⟩, ⟨true, [c0], [(p0, 3)], [(c0, 1)]⟩, ⟨true, [c0, p0], [], [(c0, 4), (p0, 2)]⟩, ⟨true, [p0], [(c0, 3)], []⟩]
def A4 : List Node := [⟨true, [], [], []⟩, ⟨false, [], [], []⟩, ⟨true, [c0, p0], [], []⟩]
theorem goA1 : go12 [node1] 1 c0 true = (A1, 2, 0) := by decide +kernel
theorem goA2 : go12 A1 2 p0 true = (A2, 3, 0) := by decide +kernel
theorem goA3 : go12 A2 3 c0 false = (A3, 4, 0) := by decide +kernel
theorem dropA4 : drop12 A2 2 = (A4, 0) := by decide +kernel
theorem usedA4 : usedN A4 = [1, 3] := by decide +kernel
theorem usedA2 : usedN A2 = [1, 2, 3] := by decide +kernel
theorem c0_rng : 0 ≤ c0 ∧ c0 < 18446744073709551616 := by decide
theorem p0_rng : 0 ≤ p0 ∧ p0 < 18446744073709551616 := by decide
theorem k_wWakes {w : World} : Cl Tryz.prog 8 #[] w (Gives w (.bool true)) := by
  refine c8 ?_
  unfold V8
  refine (k_iComponent 3).gives fun w1 B1 => ⟨_, _, rfl, (k_iPair 4 5).gives fun w2 B2 => ⟨_, _, rfl, k_gNew.mono ?_⟩⟩
  rw [com3, pair45]
  dsimp only
  rintro _ w3 ⟨a, n, c, sa, sn, sc, rfl, hn0, he0, B3⟩
  have g0 : Grf w3 a n c sa sn sc newG := ⟨hn0.nodes, he0.ents⟩
  have K0 : Known newG [node1] := ⟨rfl, newG_rg, newG_len⟩
  have B03 : Below w.heap.size w w3 := (B1.trans (B2.mono B1.size)).trans (B3.mono (B1.trans (B2.mono B1.size)).size)
  refine ⟨_, _, _, _, _, _, rfl, (k_gPlus g0 (K0.small (by decide)) (by simp [I64]) c0_rng).mono ?_⟩
  obtain ⟨K1, e1⟩ := K0.go g0.rng c0_rng goA1
  rintro _ w4 ⟨a1, n1, c1, sa1, sn1, sc1, rfl, hn1, he1, B4⟩
  rw [show (goneG with2e newG 1 c0 true).2 = (2, 0) from e1]
  have g1 : Grf w4 a1 n1 c1 sa1 sn1 sc1 (goneG (turn2 true) newG 1 c0 true).1 := ⟨hn1.nodes, he1.ents⟩
  have B04 := B03.trans (B4.mono B03.size)
  clear hn1 he1 e1 g0 K0
  generalize (goneG (turn2 true) newG 1 c0 true).1 = G1 at *
  refine ⟨_, _, _, _, _, _, _, _, rfl, box_grf fun w6 q6 B6 z6 => ⟨_, _, _, _, _, _, blk_cell q6 0, blk_cell q6 1, ?_⟩⟩
  have g1' := g1.below B6
  have B06 := B04.trans (B6.mono B04.size)
  refine (k_gPlus g1' (K1.small (by decide)) (by simp [I64]) p0_rng).mono ?_
  obtain ⟨K2, e2⟩ := K1.go g1.rng p0_rng goA2
  rintro _ w7 ⟨a2, n2, c2, sa2, sn2, sc2, rfl, hn2, he2, B7⟩
  rw [show (goneG with2e G1 2 p0 true).2 = (3, 0) from e2]
  have g2 : Grf w7 a2 n2 c2 sa2 sn2 sc2 (goneG (turn2 true) G1 2 p0 true).1 := ⟨hn2.nodes, he2.ents⟩
  have B07 := B06.trans (B7.mono B06.size)
  clear hn2 he2 e2 g1 g1' K1 q6
  generalize (goneG (turn2 true) G1 2 p0 true).1 = G2 at *
  refine ⟨_, _, _, _, _, _, _, _, rfl, box_grf fun w9 q9 B9 z9 => ⟨_, _, _, _, _, _, blk_cell q9 0, blk_cell q9 1, ?_⟩⟩
  have g2 := g2.below B9
  have B09 := B07.trans (B9.mono B07.size)
  refine (k_gLess g2 (K2.small (by decide)) (by simp [I64]) c0_rng).mono ?_
  obtain ⟨K3, e3⟩ := K2.go (plus := false) g2.rng c0_rng goA3
  rintro _ w10 ⟨a3, n3, c3, sa3, sn3, sc3, rfl, hn3, he3, B10⟩
  rw [show (goneG without2e G2 3 c0 false).2 = (4, 0) from e3]
  have B010 := B09.trans (B10.mono B09.size)
  have q10 := blk_below q9 B10 (blk_lt q9)
  have g2 := g2.below B10
  clear hn3 he3 e3 K3 q9
  refine ⟨_, _, _, _, _, _, _, _, rfl, box_grf fun w12 q12 B12 z12 => ?_⟩
  have q10 := blk_below q10 B12 (blk_lt q10)
  have g2 := g2.below B12
  have B012 := B010.trans (B12.mono B010.size)
  refine ⟨_, _, _, _, _, _, blk_cell q10 0, blk_cell q10 1, (k_gDrop g2 (K2.small (by decide)) (by simp [I64])).mono ?_⟩
  obtain ⟨K4, e4⟩ := K2.drop dropA4
  rintro _ w13 ⟨a4, n4, c4, sa4, sn4, sc4, rfl, hn4, he4, B13⟩
  rw [e4]
  have g4 : Grf w13 a4 n4 c4 sa4 sn4 sc4 (dropG G2 2).1 := ⟨hn4.nodes, he4.ents⟩
  have q10 := blk_below q10 B13 (blk_lt q10)
  have g2 := g2.below B13
  have B013 := B012.trans (B13.mono B012.size)
  clear hn4 he4 e4 q12
  generalize (dropG G2 2).1 = G4 at *
  refine ⟨_, _, _, _, _, _, _, rfl, box_grf fun w15 q15 B15 z15 => ?_⟩
  have q10 := blk_below q10 B15 (blk_lt q10)
  have g2 := g2.below B15
  have g4 := g4.below B15
  have B015 := B013.trans (B15.mono B013.size)
  refine ⟨_, _, _, _, _, _, blk_cell q15 0, blk_cell q15 1, (k_gUsed g4 (K4.small (by decide))).mono ?_⟩
  rw [(checkG_rg.2 K4.rg), if_pos rfl, K4.nodes, usedA4]
  rintro _ w16 ⟨ua, un, uc, rfl, ho, B16⟩
  have B016 := B015.trans (B16.mono B015.size)
  have q10 := blk_below q10 B16 (blk_lt q10)
  have g2 := g2.below B16
  clear q15 g4
  refine ⟨_, _, _, rfl, ?_⟩
  rintro _ w17 rfl h17
  have B17 : Below w16.heap.size w16 w17 := by rw [h17]; exact alloc_below _ _
  have r17 : Row encInt w17 (some ⟨w16.heap.size, 0, none⟩) 2 2 [1, 3] := by rw [h17]; exact row_new enInt w16 3 [1, 3] (by simp)
  have B017 := B016.trans (B17.mono B016.size)
  have q10 := blk_below q10 B17 (blk_lt q10)
  have g2 := g2.below B17
  clear h17
  refine (k_EqInts (ho.row.below B17) r17).tells fun w18 Q18 => ⟨_, rfl, ?_⟩
  have B18 := Q18.below w17.heap.size
  have B018 := B017.trans (B18.mono B017.size)
  have q10 := blk_below q10 B18 (blk_lt q10)
  have g2 := g2.below B18
  refine ⟨_, _, _, _, _, _, blk_cell q10 0, blk_cell q10 1, (k_gUsed g2 (K2.small (by decide))).mono ?_⟩
  rw [(checkG_rg.2 K2.rg), if_pos rfl, K2.nodes, usedA2]
  rintro _ w19 ⟨ua2, un2, uc2, rfl, ho2, B19⟩
  have B019 := B018.trans (B19.mono B018.size)
  refine ⟨_, _, _, rfl, ?_⟩
  rintro _ w20 rfl h20
  have B20 : Below w19.heap.size w19 w20 := by rw [h20]; exact alloc_below _ _
  have r20 : Row encInt w20 (some ⟨w19.heap.size, 0, none⟩) 3 3 [1, 2, 3] := by rw [h20]; exact row_new enInt w19 3 [1, 2, 3] (by simp)
  have B020 := B019.trans (B20.mono B019.size)
  refine (k_EqInts (ho2.row.below B20) r20).tells fun w21 Q21 => ⟨_, rfl, rfl, ?_⟩
  exact B020.trans ((Q21.below w20.heap.size).mono B020.size)
end Go.Eng
namespace Go.Eng
open Go Go.RowKit Go.Proofs
set_option maxRecDepth 10000
structure Fits (G : PG) : Prop where
  n : G.nodes.length ≤ 30
  rows : ∀ x ∈ G.nodes, x.ty.length ≤ 14 ∧ x.plus.length ≤ 20 ∧ x.less.length ≤ 20
  s : G.slots.length ≤ 128
  ty : ∀ e ∈ G.slots, e.ty.length ≤ 14
theorem Fits.small {G : PG} (h : Fits G) : SmallG G := by
  refine ⟨⟨by have := h.n; omega, fun x hx => ?_⟩, by have := h.s; omega, fun e he => by have := h.ty e he; omega⟩
  have := h.rows x hx; omega
theorem fits_own (G : PG) : Fits (ownW G) := by
  refine ⟨by simp [ownW]; omega, fun x hx => ?_, by simp [ownW]; omega, fun e he => ?_⟩
  · simp only [ownW, List.mem_map] at hx
    obtain ⟨y, _, rfl⟩ := hx
    simp only [cutN, List.length_take]; omega
  · simp only [ownW, List.mem_map] at he
    obtain ⟨y, _, rfl⟩ := he
    simp only [cutE, List.length_take]; omega
theorem Fits.own {G : PG} (h : Fits G) : ownW G = G := by
  have e1 : (G.nodes.take 30).map cutN = G.nodes := by
    rw [List.take_of_length_le h.n]
    conv => rhs; rw [← List.map_id G.nodes]
    refine List.map_congr_left fun x hx => ?_
    obtain ⟨h1, h2, h3⟩ := h.rows x hx
    show cutN x = x
    unfold cutN
    rw [List.take_of_length_le h1, List.take_of_length_le h2, List.take_of_length_le h3]
  have e2 : (G.slots.take 128).map cutE = G.slots := by
    rw [List.take_of_length_le h.s]
    conv => rhs; rw [← List.map_id G.slots]
    refine List.map_congr_left fun e he => ?_
    show cutE e = e
    unfold cutE
    rw [List.take_of_length_le (h.ty e he)]
  unfold ownW; rw [e1, e2]
structure RTurn where
  kind : Int
  node : Int
  id : Int
  ty : Hd
deriving Inhabited
structure PTurn where
  kind : Int
  node : Int
  id : Int
  ty : List Int
deriving Inhabited
def encTurn (r : RTurn) : List Value := [.int .i64 r.kind, .int .i64 r.node, .int .u64 r.id, r.ty.v]
theorem enTurn : En encTurn 4 := ⟨fun _ => rfl, fun x v hv => by simp [encTurn] at hv; rcases hv with rfl | rfl | rfl | rfl <;> rfl⟩
structure IsTurn (w : World) (r : RTurn) (t : PTurn) : Prop where
  kind : r.kind = t.kind
  node : r.node = t.node
  id : r.id = t.id
  ty : Row encId w r.ty.a r.ty.n r.ty.c t.ty
  rng : Rng t.ty ∧ I64 t.node ∧ 0 ≤ t.id ∧ t.id < 18446744073709551616
def Turns (w : World) (a : Option Addr) (n c : Nat) (l : List PTurn) : Prop := ∃ rs, Row encTurn w a n c rs ∧ All2 (IsTurn w) rs l
section
variable {w : World} {a : Option Addr} {n c : Nat}
theorem Row.turnN {l : List RTurn} (h : Row encTurn w a n c l) {i : Nat} {K : Int → Int → Int → Option Addr → Nat → Nat → Prop} (hi : i < n) (hK : ∀ hl : i < l.length, K l[i].kind l[i].node l[i].id l[i].ty.a l[i].ty.n l[i].ty.c) :
    ∃ p : Addr, a = some p ∧ 0 ≤ (i : Int) ∧ (i : Int) < (n : Int) ∧ ∃ (x y z : Int) (ua : Option Addr) (un uc : Nat),
      w.cell? (p.add ((i : Int).toNat * 4)) = some (.int .i64 x) ∧ w.cell? ((p.add ((i : Int).toNat * 4)).add 1) = some (.int .i64 y) ∧ w.cell? ((p.add ((i : Int).toNat * 4)).add 2) = some (.int .u64 z) ∧ w.cell? ((p.add ((i : Int).toNat * 4)).add 3) = some (.slice ua un uc) ∧ K x y z ua un uc := by
  obtain ⟨hl, p, hp, hc⟩ := h.atK enTurn hi
  exact ⟨p, hp, by omega, by omega, _, _, _, _, _, _, hc 0 (by decide), hc 1 (by decide), hc 2 (by decide), hc 3 (by decide), hK hl⟩
end
theorem box_turn {W : World} {x y z : Int} {ua : Option Addr} {un uc : Nat} {e : TypeId} {K : Nat → World → Prop}
    (hK : ∀ w8 : World, w8.heap[W.heap.size]? = some (.cells #[.int .i64 x, .int .i64 y, .int .u64 z, .slice ua un uc] e (0, 0)) → Below W.heap.size W w8 → K W.heap.size w8) :
    ∀ (b : Nat) (w2 : World), b = W.heap.size → w2 = W.alloc (.cells #[.int .i64 0, .int .i64 0, .int .u64 0, .slice none 0 0] e) → ((w2.cell? (Addr.mk b 0 none)).isSome = true ∧ w2.frozen? (Addr.mk b 0 none) = false ∧ ((w2.cell? ((Addr.mk b 0 none).add 1)).isSome = true ∧ w2.frozen? ((Addr.mk b 0 none).add 1) = false ∧ ((w2.cell? ((Addr.mk b 0 none).add 2)).isSome = true ∧ w2.frozen? ((Addr.mk b 0 none).add 2) = false ∧ ((w2.cell? ((Addr.mk b 0 none).add 3)).isSome = true ∧ w2.frozen? ((Addr.mk b 0 none).add 3) = false ∧
    (∀ w3 : World, w3 = (((w2.setCell (Addr.mk b 0 none) (.int .i64 x)).setCell ((Addr.mk b 0 none).add 1) (.int .i64 y)).setCell ((Addr.mk b 0 none).add 2) (.int .u64 z)).setCell ((Addr.mk b 0 none).add 3) (.slice ua un uc) → K b w3))))) := by
  rintro b3 w6 hb h6
  have s7 : w6.heap[b3]? = some (.cells #[.int .i64 0, .int .i64 0, .int .u64 0, .slice none 0 0] e) := by rw [h6, hb]; exact blk_new _
  refine ⟨blk_some s7 (by simp), blk_free s7 _, blk_some s7 (j := 1) (by simp), blk_free s7 1, blk_some s7 (j := 2) (by simp), blk_free s7 2, blk_some s7 (j := 3) (by simp), blk_free s7 3, ?_⟩
  rintro w7 h7
  have s8 : w7.heap[b3]? = some (.cells #[.int .i64 x, .int .i64 y, .int .u64 z, .slice ua un uc] e) := by rw [h7]; exact blk_set (blk_set (blk_set (blk_set s7 0 _) 1 _) 2 _) 3 _
  have B8 : Below W.heap.size W w7 := by
    subst h7; subst h6; subst hb
    exact ((((alloc_below W _).setCell (Nat.le_refl _) _).setCell (Nat.le_refl _) _).setCell (Nat.le_refl _) _).setCell (Nat.le_refl _) _
  rw [hb]
  rw [hb] at s8
  exact hK w7 s8 B8
/-- Both cells of a box are put. -/
theorem put2 {W : World} {b : Nat} {v0 v1 : Value} {t : TypeId} {a a2 : Option Addr} {n c n2 c2 : Nat} (q : W.heap[b]? = some (.cells #[v0, v1] t (0, 0))) {K : World → Prop}
    (hK : ∀ W', W'.heap[b]? = some (.cells #[.slice a n c, .slice a2 n2 c2] t (0, 0)) → (∀ g, g ≠ b → W'.heap[g]? = W.heap[g]?) → Below b W W' → W'.heap.size = W.heap.size → W' = (W.setCell ⟨b, 0, none⟩ (.slice a n c)).setCell ⟨b, 1, none⟩ (.slice a2 n2 c2) → K W') :
    ((W.cell? (Addr.mk b 0 none)).isSome = true ∧ W.frozen? (Addr.mk b 0 none) = false ∧ ((W.cell? ((Addr.mk b 0 none).add 1)).isSome = true ∧ W.frozen? ((Addr.mk b 0 none).add 1) = false ∧
    (∀ w4 : World, w4 = (W.setCell (Addr.mk b 0 none) (.slice a n c)).setCell ((Addr.mk b 0 none).add 1) (.slice a2 n2 c2) → K w4))) := by
  refine ⟨blk_some q (by simp), blk_free q _, blk_some q (j := 1) (by simp), blk_free q 1, ?_⟩
  rintro w4 h4
  refine hK w4 (by rw [h4]; exact blk_set (blk_set q 0 _) 1 _) (fun g hg => ?_) ?_ ?_ h4
  · rw [h4]; exact (Below.heap_setCell _ _ _ _ hg).trans (Below.heap_setCell _ _ _ _ hg)
  · rw [h4]; exact ((Below.refl b W).setCell (Nat.le_refl _) _).setCell (Nat.le_refl _) _
  · rw [h4, size_set, size_set]
theorem DG.farB {lo : Nat} {w : World} {a sa : Option Addr} {n c sn sc : Nat} {G : PG} (h : DG lo w a n c sa sn sc G) {b : Nat} {cs : Array Value} {fr : Nat × Nat} (hb : w.heap[b]? = some (.cells cs 27 fr)) {j : Nat} (v : Value) : DG lo (w.setCell ⟨b, j, none⟩ v) a n c sa sn sc G :=
  ⟨h.1.farB hb (by decide) (by decide) (by decide) v, h.2.farB hb (by decide) (by decide) v⟩
theorem DG.far2 {lo : Nat} {w w' : World} {a sa : Option Addr} {n c sn sc : Nat} {G : PG} (h : DG lo w a n c sa sn sc G) {b : Nat} {cs : Array Value} {fr : Nat × Nat} (hb : w.heap[b]? = some (.cells cs 27 fr)) {u v : Value} (hw : w' = (w.setCell ⟨b, 0, none⟩ u).setCell ⟨b, 1, none⟩ v) : DG lo w' a n c sa sn sc G := by
  rw [hw]; exact (h.farB hb u).farB (blk_set hb 0 _) v
theorem Alike.says {G : PG} {r : PG × Int × Int} {q : List Node × Int × Int} {t : List Int} (h : Alike G r q t) (hr : RngN r.1.nodes) (hl : G.slots.length ≤ 1000000) : SaysP r.1 q.1 ∧ (r.2.2 = 0 → Right12 r.1) ∧ r.1.slots.length ≤ 1000000 ∧ q.1.length ≤ G.nodes.length + 1 := by
  have h3 := h.len
  refine ⟨?_, fun he => ?_, by omega, by rw [← h.nodes]; exact h3.2⟩
  · rw [← h.nodes]
    by_cases he : r.2.2 = 0
    · exact (h.ok he).1.says hr (by omega)
    · rw [(h.err he).1]; exact says_nil
  · have hR := (h.ok he).1
    exact ⟨(nodes12_iff hr).2 hR.nodes, ((hR.says hr (by omega)).2.2 (by have := hR.nodes.pos; omega)).1, ((hR.says hr (by omega)).2.2 (by have := hR.nodes.pos; omega)).2⟩
theorem drop_says {G : PG} (h : RG G) (m : Int) (hr : RngN (dropG G m).1.nodes) (hl : G.slots.length ≤ 1000000) : SaysP (dropG G m).1 (drop12 G.nodes m).1 ∧ ((dropG G m).2 = 0 → Right12 (dropG G m).1) ∧ (dropG G m).1.slots.length ≤ 1000000 ∧ (drop12 G.nodes m).1.length ≤ G.nodes.length := by
  obtain ⟨h1, h2, h3, h4, h5⟩ := drop_alike h m
  refine ⟨?_, fun he => ?_, by omega, by rw [← h1]; exact h3.2⟩
  · rw [← h1]
    by_cases he : (dropG G m).2 = 0
    · exact (h5 he).1.says hr (by omega)
    · rw [(h4 he).1]; exact says_nil
  · have hR := (h5 he).1
    have hs := (hR.says hr (by omega)).2.2 (by have := hR.nodes.pos; omega)
    exact ⟨(nodes12_iff hr).2 hR.nodes, hs.1, hs.2⟩
theorem right12_rg {G : PG} (h : RngG G) (hl : G.slots.length ≤ 1000000) : Right12 G ↔ RG G := right12_iff h (by omega)
theorem right12_ty1 {G : PG} (h : RngG G) (hl : G.slots.length ≤ 1000000) (hR : Right12 G) : ∃ h0 : 0 < G.nodes.length, G.nodes[0].ty = [] ∧ G.nodes[0].used = true := by
  have hN := ((right12_rg h hl).1 hR).nodes
  obtain ⟨k, hk, e, hu, he⟩ := isN_node hN.one
  have : k = 0 := by omega
  subst this
  exact ⟨hk, by rw [← he]; exact hN.ty1, hu⟩
end Go.Eng
namespace Go.Eng
open Go Go.RowKit Go.Proofs
set_option maxRecDepth 10000
theorem checkG_right {G : PG} (h : RngG G) (hl : G.slots.length ≤ 1000000) : checkG G = true ↔ Right12 G := checkG_rg.trans (right12_rg h hl).symm
theorem goneG_no {G : PG} (h : checkG G = false) (f : List Int → Int → List Int × Int) (n id : Int) (plus : Bool) : goneG f G n id plus = (⟨[], []⟩, 0, 220) := by simp [goneG, h]
theorem dropG_no {G : PG} (h : checkG G = false) (n : Int) : dropG G n = (⟨[], []⟩, 220) := by simp [dropG, h]
theorem turns_end {w W : World} {b b2 : Nat} {a sa ga gsa : Option Addr} {n c sn sc gn gc gsn gsc : Nat} {G H : PG} (h : Grf w a n c sa sn sc G) (hB : Below w.heap.size w W) (qx : W.heap[b]? = some (.cells #[.slice a n c, .slice sa sn sc] 27)) (qg : W.heap[b2]? = some (.cells #[.slice ga gn gc, .slice gsa gsn gsc] 27))
    (hg : Grf W ga gn gc gsa gsn gsc H) (hf : Fits H) (himp : Right12 (ownW G) → Right12 H) :
    (∃ (x108a : Option Addr) (x108n : Nat) (x108c : Nat) (x109a : Option Addr) (x109n : Nat) (x109c : Nat), W.cell? (Addr.mk b 0 none) = some (.slice x108a x108n x108c) ∧ W.cell? ((Addr.mk b 0 none).add 1) = some (.slice x109a x109n x109c) ∧
    (Cl Tryz.prog 9 #[.agg #[.slice x108a x108n x108c, .slice x109a x109n x109c]] W fun v24 w42 => ∃ (x110a : Option Addr) (x110n : Nat) (x110c : Nat) (x111a : Option Addr) (x111n : Nat) (x111c : Nat), v24 = .agg #[.slice x110a x110n x110c, .slice x111a x111n x111c] ∧
    (Cl Tryz.prog 11 #[.agg #[.slice x110a x110n x110c, .slice x111a x111n x111c]] w42 fun v25 w43 => ∃ (x112 : Bool), v25 = .bool x112 ∧
    (cond (!x112) (Gives w (.bool true) (.bool true) w43) (∃ (x113a : Option Addr) (x113n : Nat) (x113c : Nat) (x114a : Option Addr) (x114n : Nat) (x114c : Nat), w43.cell? (Addr.mk b2 0 none) = some (.slice x113a x113n x113c) ∧ w43.cell? ((Addr.mk b2 0 none).add 1) = some (.slice x114a x114n x114c) ∧
    (Cl Tryz.prog 11 #[.agg #[.slice x113a x113n x113c, .slice x114a x114n x114c]] w43 fun v26 w44 => ∃ (x115 : Bool), v26 = .bool x115 ∧
    (cond x115 (∃ (x116a : Option Addr) (x116n : Nat) (x116c : Nat), w44.cell? (Addr.mk b2 0 none) = some (.slice x116a x116n x116c) ∧
    (∃ p3 : Addr, x116a = some p3 ∧ 0 ≤ (0 : Int) ∧ (0 : Int) < (x116n : Int) ∧
    (∃ (x117a : Option Addr) (x117n : Nat) (x117c : Nat), w44.cell? ((p3.add (((0 : Int)).toNat * 4)).add 1) = some (.slice x117a x117n x117c) ∧
    (Cl Tryz.prog 23 #[.slice x117a x117n x117c] w44 fun v27 w45 => ∃ (x118 : Bool), v27 = .bool x118 ∧ (Gives w (.bool true) (.bool x118) w45))))) (Gives w (.bool true) (.bool false) w44)))))))) := by
  refine ⟨_, _, _, _, _, _, blk_cell qx 0, blk_cell qx 1, (k_wOwn (h.below hB)).mono ?_⟩
  rintro _ w1 ⟨oa, on, oc, osa, osn, osc, rfl, hd, he, B1⟩
  have hO : Grf w1 oa on oc osa osn osc (ownW G) := ⟨hd.nodes, he.ents⟩
  refine ⟨_, _, _, _, _, _, rfl, (k_r12Right hO.nodes hO.slots (fits_own G).small).mono ?_⟩
  rintro _ w2 ⟨r, rfl, hr, B2⟩
  have B02 := (hB.trans (B1.mono hB.size)).trans (B2.mono (hB.trans (B1.mono hB.size)).size)
  refine ⟨_, rfl, cnd (fun g => ⟨rfl, B02⟩) fun g => ?_⟩
  have hR := himp (hr.1 (by simpa using g))
  have BW2 := B1.trans (B2.mono B1.size)
  have qg := blk_below qg BW2 (blk_lt qg)
  have hg := hg.below BW2
  refine ⟨_, _, _, _, _, _, blk_cell qg 0, blk_cell qg 1, (k_r12Right hg.nodes hg.slots hf.small).mono ?_⟩
  rintro _ w3 ⟨r3, rfl, hr3, B3⟩
  obtain rfl := hr3.2 hR
  have B03 := B02.trans (B3.mono B02.size)
  have qg := blk_below qg B3 (blk_lt qg)
  have hg := hg.below B3
  obtain ⟨h0, ht1, _⟩ := right12_ty1 hg.rng hf.small.s hR
  obtain ⟨rs, hrow, hall⟩ := hg.nodes
  have hl := hrow.len
  have hal := hall.1
  refine ⟨_, rfl, _, _, _, blk_cell qg 0, ?_⟩
  refine hrow.nodeTy (i := 0) (by omega) fun hl0 => ?_
  have hx := hall.2 0 hl0 h0
  refine (k_r03Right hx.ty).is ⟨_, rfl, ?_, B03⟩
  rw [ht1]; rfl
section
variable {w : World} {a sa la : Option Addr} {n c sn sc ln lc : Nat} {G : PG} {L : List PTurn}
set_option maxHeartbeats 2000000
theorem k_GraphTurns (h : Grf w a n c sa sn sc G) (hT : Turns w la ln lc L) : Cl Tryz.prog 3 #[.agg #[.slice a n c, .slice sa sn sc], .slice la ln lc] w (Gives w (.bool true)) := by
  refine c3 _ _ _ _ _ _ _ _ _ ?_
  unfold V3
  obtain ⟨rs, hrow, hall⟩ := hT
  have hll := hrow.len
  have hLl := hall.1
  have h63 := hrow.n63
  rintro _ w1 rfl h1
  have qx : w1.heap[w.heap.size]? = some (.cells #[.slice a n c, .slice sa sn sc] 27) := by rw [h1]; exact blk_new _
  have B1 : Below w.heap.size w w1 := by rw [h1]; exact alloc_below _ _
  clear h1
  refine k_wWakes.gives fun w2 B2 => ⟨_, rfl, ?_⟩
  have B02 := B1.trans (B2.mono B1.size)
  have qx := blk_below qx B2 (blk_lt qx)
  refine ⟨_, _, _, _, _, _, blk_cell qx 0, blk_cell qx 1, (k_wOwn (h.below B02)).mono ?_⟩
  rintro _ w3 ⟨ga, gn, gc, gsa, gsn, gsc, rfl, hgd, hge, B3⟩
  have B03 := B02.trans (B3.mono B02.size)
  have qx := blk_below qx B3 (blk_lt qx)
  have hb2 := blk_lt qx
  refine ⟨_, _, _, _, _, _, rfl, box_grf fun w5 qg B5 z5 => ?_⟩
  have B05 := B03.trans (B5.mono B03.size)
  have qx := blk_below qx B5 (blk_lt qx)
  have hg := (⟨hgd.nodes, hge.ents⟩ : Grf w3 ga gn gc gsa gsn gsc (ownW G)).below B5
  refine ⟨fun s i W => ∃ (k : Nat) (ga : Option Addr) (gn gc : Nat) (gsa : Option Addr) (gsn gsc : Nat) (H : PG), i = k ∧ k ≤ ln ∧ k ≤ 8 ∧ Below w.heap.size w W ∧ W.heap[w.heap.size]? = some (.cells #[.slice a n c, .slice sa sn sc] 27) ∧
      W.heap[w3.heap.size]? = some (.cells #[.slice ga gn gc, .slice gsa gsn gsc] 27) ∧ Grf W ga gn gc gsa gsn gsc H ∧ Fits H ∧ (Right12 (ownW G) → Right12 H), fun _ i _ => ln - i.toNat,
      ⟨0, _, _, _, _, _, _, _, rfl, by omega, by omega, B05, qx, qg, hg, fits_own G, fun h => h⟩, ?_⟩
  clear qx qg hg B05 B5 z5 B3 B03 hgd hge B2 B02 B1
  rintro _ W _ _ ⟨k, ga, gn, gc, gsa, gsn, gsc, H, rfl, hk, hk8, hB, qx, qg, hg, hf, himp⟩
  refine cnd (fun hc => ?_) fun hc => ?_
  · have hkn : k < ln := by simpa using hc
    refine (hrow.below hB).turnN hkn fun hl => box_turn fun w8 qt B8 => ?_
    have qx := blk_below qx B8 (blk_lt qx)
    have qg := blk_below qg B8 (blk_lt qg)
    have hg := hg.below B8
    have hBW := hB
    have hB := hB.trans (B8.mono hB.size)
    refine cnd (fun g8 => ?_) fun g8 => ?_
    rotate_left
    · have hX := hall.2 k hl (by omega)
      generalize hXe : rs[k] = X at hX qt
      generalize hYe : L[k]'(by omega) = Y at hX
      obtain ⟨kd, nd, id, ty⟩ := X
      obtain ⟨kd', nd', id', t⟩ := Y
      obtain ⟨x1, x2, x3, hty, hrg⟩ := hX
      dsimp only at x1 x2 x3 hty hrg qt
      subst x1; subst x2; subst x3
      obtain ⟨hrt, hnd, hid⟩ := hrg
      have hty := hty.below hB
      refine ⟨_, _, _, _, _, _, blk_cell qg 0, blk_cell qg 1, (k_wOwn hg).mono ?_⟩
      rw [hf.own]
      rintro _ w13 ⟨wa, wn, wc, wsa, wsn, wsc, rfl, hwd, hwe, B13⟩
      refine ⟨_, _, _, _, _, _, rfl, box_grf fun w15 qw B15 z15 => ?_⟩
      have B815 := B13.trans (B15.mono B13.size)
      have qx := blk_below qx B815 (blk_lt qx)
      have qg := blk_below qg B815 (blk_lt qg)
      have qt := blk_below qt B815 (blk_lt qt)
      have hg := hg.below B815
      have hty := hty.below B815
      have hwas := (⟨hwd.nodes, hwe.ents⟩ : Grf w13 wa wn wc wsa wsn wsc H).below B15
      have hB := hB.trans (B815.mono hB.size)
      have hb3 : w3.heap.size < w15.heap.size := blk_lt qg
      clear hwd hwe B13 B15 B815 z15 B8
      refine ⟨_, _, _, blk_cell qt 3, _, _, _, blk_cell qt 3, ?_⟩
      rw [min14]
      have htc := hty.le
      simp only [Int.toNat_natCast]
      refine ⟨by omega, by omega, (k_CloneIds (hty.cut 14) (by omega)).mono ?_⟩
      rintro _ w16 ⟨ra, rn, rc, rfl, hro, B16⟩
      have qx := blk_below qx B16 (blk_lt qx)
      have qg := blk_below qg B16 (blk_lt qg)
      have qt := blk_below qt B16 (blk_lt qt)
      have qw := blk_below qw B16 (blk_lt qw)
      have hg := hg.below B16
      have hwas := hwas.below B16
      have hty := hty.below B16
      have hrw := hro.row
      have hB := hB.trans (B16.mono hB.size)
      have hb3 : w3.heap.size < w16.heap.size := blk_lt qg
      have hrt14 : Rng (t.take 14) := fun x hx => hrt x (List.mem_of_mem_take hx)
      clear hro B16
      refine ⟨_, _, _, rfl, ?_⟩
      rintro _ w17 rfl h17
      have q5 : w17.heap[w16.heap.size]? = some (.cells #[.slice none 0 0, .slice none 0 0] 27) := by rw [h17]; exact blk_new _
      have B17 : Below w16.heap.size w16 w17 := by rw [h17]; exact alloc_below _ _
      clear h17
      refine ⟨_, _, _, _, _, _, blk_cell (blk_below qg B17 (blk_lt qg)) 0, blk_cell (blk_below qg B17 (blk_lt qg)) 1, (k_r12Right (hg.below B17).nodes (hg.below B17).slots hf.small).mono ?_⟩
      rintro _ w18 ⟨right, rfl, hright, B18'⟩
      have B18 := B17.trans (B18'.mono B17.size)
      have q5 := blk_below q5 B18' (blk_lt q5)
      clear B18' B17
      have hb5 := blk_lt q5
      have hsl : H.slots.length ≤ 1000000 := hf.small.s
      have hnl : H.nodes.length ≤ 30 := hf.n
      have hcr : checkG H = right := by
        have := checkG_right hg.rng hsl
        cases right with
        | true => exact this.2 (hright.1 rfl)
        | false =>
          cases hcg : checkG H with
          | false => rfl
          | true => exact absurd (hright.2 (this.1 hcg)) (by simp)
      have hg18 := hg.below B18
      have hrw18 := hrw.below B18
      have qg18 := blk_below qg B18 (blk_lt qg)
      have qt18 := blk_below qt B18 (blk_lt qt)
      refine ⟨_, rfl, _, blk_cell qt18 0, ?_⟩
      refine ⟨fun pa pn pc n m e no W => ∃ (a' : Option Addr) (n' c' : Nat) (sa' : Option Addr) (sn' sc' : Nat) (H' : PG) (L' : List Node), W.heap[w16.heap.size]? = some (.cells #[.slice a' n' c', .slice sa' sn' sc'] 27) ∧ DG w18.heap.size W a' n' c' sa' sn' sc' H' ∧
          Nodes W pa pn pc L' ∧ L'.length ≤ 1000000 ∧ H'.slots.length ≤ 1000000 ∧ n = m ∧ e = no ∧ SaysP H' L' ∧ (e = 0 → Right12 H') ∧ Below w16.heap.size w16 W ∧ w18.heap.size ≤ W.heap.size, ?_, ?_⟩
      · refine cnd (fun k0 => ?_) fun k0 => ?_
        · refine ⟨_, _, _, _, _, _, blk_cell qg18 0, blk_cell qg18 1, (k_gOf hg18 hf.small hrw18 hrt14).mono ?_⟩
          rintro _ w19 ⟨oa, on, oc, osa, osn, osc, rfl, hod, hoe, B19⟩
          have hD : DG w18.heap.size w19 oa on oc osa osn osc (if checkG H = true then ofG H (t.take 14) else (⟨[], []⟩, 0, 220)).1 := ⟨hod.d, hoe⟩
          refine ⟨_, _, _, _, _, _, _, _, rfl, put2 (blk_below q5 B19 hb5) fun w20 q5' f20 B20 z20 e20 => ?_⟩
          have hD20 := hD.far2 (blk_below q5 B19 hb5) e20
          have B1620 := (B18.trans (B19.mono B18.size)).trans B20
          have hw20 : w18.heap.size ≤ w20.heap.size := by have := B19.size; omega
          clear hod hoe hD e20 f20 B20
          cases right with
          | false =>
            rw [hcr] at hD20 ⊢
            simp only [Bool.false_eq_true, if_false] at hD20 ⊢
            exact ⟨_, _, _, _, _, _, _, [], q5', hD20, Nodes.nil, by decide, by decide, trivial, trivial, says_nil, fun h => absurd h (by decide), B1620, hw20⟩
          | true =>
            rw [hcr] at hD20 ⊢
            simp only [if_true] at hD20 ⊢
            have hA := of_alike' (checkG_rg.1 hcr) hrt14
            obtain ⟨s1, s2, s3, s4⟩ := hA.says hD20.grf.rng.nodes hsl
            refine ⟨_, _, _, blk_cell (blk_below qw B1620 (blk_lt qw)) 0, (k_r12Of (hwas.below B1620).nodes (by omega) (hrw.below B1620) hrt14).mono ?_⟩
            rintro _ w21 ⟨pa, pn, pc, rfl, hN, B21⟩
            have e1 := hA.rest
            exact ⟨_, _, _, _, _, rfl, _, _, _, _, _, _, _, _, blk_below q5' B21 (blk_lt q5'), hD20.below B21, hN, by omega, s3, by rw [e1], by rw [e1], s1, s2, B1620.trans (B21.mono B1620.size), Nat.le_trans hw20 B21.size⟩
        · refine ⟨fun _ W => W = w18, cnd (fun _ => rfl) fun _ => rfl, ?_⟩
          rintro _ _ s79 rfl
          refine cnd (fun k1 => ?_) fun k1 => ?_
          · refine ⟨_, blk_cell qt18 0, cnd (fun k2 => ?_) fun k2 => ?_⟩
            · refine ⟨_, _, _, _, _, _, blk_cell qg18 0, blk_cell qg18 1, _, blk_cell qt18 1, _, blk_cell qt18 2, (k_gPlus hg18 hf.small hnd hid).mono ?_⟩
              rintro _ w19 ⟨oa, on, oc, osa, osn, osc, rfl, hod, hoe, B19⟩
              have hD : DG _ w19 oa on oc osa osn osc (goneG with2e H nd id true).1 := ⟨hod, hoe⟩
              refine ⟨_, _, _, _, _, _, _, _, rfl, put2 (blk_below q5 B19 hb5) fun w20 q5' f20 B20 z20 e20 => ?_⟩
              have hD20 := hD.far2 (blk_below q5 B19 hb5) e20
              have B1620 := (B18.trans (B19.mono B18.size)).trans B20
              have hw20 := Nat.le_trans B19.size (Nat.le_of_eq z20.symm)
              clear hod hoe hD e20 f20 B20
              cases right with
              | false =>
                rw [goneG_no hcr] at hD20 ⊢
                exact ⟨_, _, _, _, _, _, _, [], q5', hD20, Nodes.nil, by decide, by decide, rfl, rfl, says_nil, fun h => absurd h (by decide), B1620, hw20⟩
              | true =>
                have hA : Alike H (goneG with2e H nd id true) _ _ := go_alike (checkG_rg.1 hcr) hg.rng hid nd true
                obtain ⟨s1, s2, s3, s4⟩ := hA.says hD20.grf.rng.nodes hsl
                have qt20 := blk_below qt B1620 (blk_lt qt)
                refine ⟨_, _, _, blk_cell (blk_below qw B1620 (blk_lt qw)) 0, _, blk_cell qt20 1, _, blk_cell qt20 2, _, blk_cell qt20 0, ?_⟩
                rw [k2]
                refine (k_r12Go (hwas.below B1620).nodes hf.small.n hnd hid true).mono ?_
                rintro _ w21 ⟨pa, pn, pc, rfl, hN, B21⟩
                have e1 := hA.rest
                exact ⟨_, _, _, _, _, rfl, _, _, _, _, _, _, _, _, blk_below q5' B21 (blk_lt q5'), hD20.below B21, hN, by omega, s3, by rw [e1], by rw [e1], s1, s2, B1620.trans (B21.mono B1620.size), Nat.le_trans hw20 B21.size⟩
            · refine ⟨_, _, _, _, _, _, blk_cell qg18 0, blk_cell qg18 1, _, blk_cell qt18 1, _, blk_cell qt18 2, (k_gLess hg18 hf.small hnd hid).mono ?_⟩
              rintro _ w19 ⟨oa, on, oc, osa, osn, osc, rfl, hod, hoe, B19⟩
              have hD : DG _ w19 oa on oc osa osn osc (goneG without2e H nd id false).1 := ⟨hod, hoe⟩
              refine ⟨_, _, _, _, _, _, _, _, rfl, put2 (blk_below q5 B19 hb5) fun w20 q5' f20 B20 z20 e20 => ?_⟩
              have hD20 := hD.far2 (blk_below q5 B19 hb5) e20
              have B1620 := (B18.trans (B19.mono B18.size)).trans B20
              have hw20 := Nat.le_trans B19.size (Nat.le_of_eq z20.symm)
              clear hod hoe hD e20 f20 B20
              cases right with
              | false =>
                rw [goneG_no hcr] at hD20 ⊢
                exact ⟨_, _, _, _, _, _, _, [], q5', hD20, Nodes.nil, by decide, by decide, rfl, rfl, says_nil, fun h => absurd h (by decide), B1620, hw20⟩
              | true =>
                have hA : Alike H (goneG without2e H nd id false) _ _ := go_alike (checkG_rg.1 hcr) hg.rng hid nd false
                obtain ⟨s1, s2, s3, s4⟩ := hA.says hD20.grf.rng.nodes hsl
                have qt20 := blk_below qt B1620 (blk_lt qt)
                refine ⟨_, _, _, blk_cell (blk_below qw B1620 (blk_lt qw)) 0, _, blk_cell qt20 1, _, blk_cell qt20 2, _, blk_cell qt20 0, ?_⟩
                rw [k2]
                refine (k_r12Go (hwas.below B1620).nodes hf.small.n hnd hid false).mono ?_
                rintro _ w21 ⟨pa, pn, pc, rfl, hN, B21⟩
                have e1 := hA.rest
                exact ⟨_, _, _, _, _, rfl, _, _, _, _, _, _, _, _, blk_below q5' B21 (blk_lt q5'), hD20.below B21, hN, by omega, s3, by rw [e1], by rw [e1], s1, s2, B1620.trans (B21.mono B1620.size), Nat.le_trans hw20 B21.size⟩
          · refine ⟨_, _, _, _, _, _, blk_cell qg18 0, blk_cell qg18 1, _, blk_cell qt18 1, (k_gDrop hg18 hf.small hnd).mono ?_⟩
            rintro _ w19 ⟨oa, on, oc, osa, osn, osc, rfl, hod, hoe, B19⟩
            have hD : DG _ w19 oa on oc osa osn osc (dropG H nd).1 := ⟨hod, hoe⟩
            refine ⟨_, _, _, _, _, _, _, rfl, put2 (blk_below q5 B19 hb5) fun w20 q5' f20 B20 z20 e20 => ?_⟩
            have hD20 := hD.far2 (blk_below q5 B19 hb5) e20
            have B1620 := (B18.trans (B19.mono B18.size)).trans B20
            have hw20 := Nat.le_trans B19.size (Nat.le_of_eq z20.symm)
            clear hod hoe hD e20 f20 B20
            cases right with
            | false =>
              rw [dropG_no hcr] at hD20 ⊢
              exact ⟨_, _, _, _, _, _, _, [], q5', hD20, Nodes.nil, by decide, by decide, rfl, rfl, says_nil, fun h => absurd h (by decide), B1620, hw20⟩
            | true =>
              have hR := checkG_rg.1 hcr
              obtain ⟨s1, s2, s3, s4⟩ := drop_says hR nd hD20.grf.rng.nodes hsl
              have qt20 := blk_below qt B1620 (blk_lt qt)
              have h1u : ∀ h0 : 0 < H.nodes.length, H.nodes[0].used = true := fun h0 => (right12_ty1 hg.rng hsl (hright.1 rfl)).2.2
              refine ⟨_, _, _, blk_cell (blk_below qw B1620 (blk_lt qw)) 0, _, blk_cell qt20 1, (k_r12Drop (hwas.below B1620).nodes hf.small.n h1u hnd).mono ?_⟩
              rintro _ w21 ⟨pa, pn, pc, rfl, hN, B21⟩
              have e1 := (drop_alike hR nd).2.1
              exact ⟨_, _, _, _, rfl, _, _, _, _, _, _, _, _, blk_below q5' B21 (blk_lt q5'), hD20.below B21, hN, by omega, s3, rfl, e1, s1, s2, B1620.trans (B21.mono B1620.size), Nat.le_trans hw20 B21.size⟩
      · rintro _ w32 pa pn pc n m e no ⟨a', n', c', sa', sn', sc', H', L', q5', hD, hN, hL', hS, rfl, rfl, hsays, hok, B32, hw32⟩
        refine cnd (fun hh => absurd hh (by simp)) fun _ => cnd (fun hh => absurd hh (by simp)) fun _ => ?_
        refine ⟨_, _, _, _, _, _, blk_cell q5' 0, blk_cell q5' 1, (k_wSays hD.grf hN hS hL').mono ?_⟩
        rintro _ w33 ⟨sb, rfl, hsb, B33⟩
        obtain rfl := hsb.2 hsays
        have q33 := blk_below q5' B33 (blk_lt q5')
        refine ⟨_, rfl, _, _, _, _, _, _, blk_cell q33 0, blk_cell q33 1, (k_wOwn (hD.grf.below B33)).mono ?_⟩
        rintro _ w34 ⟨xa, xn, xc, xsa, xsn, xsc, rfl, hxd, hxe, B34⟩
        have hX : DG w33.heap.size w34 xa xn xc xsa xsn xsc (ownW H') := ⟨hxd, hxe⟩
        clear hxd hxe
        refine ⟨_, _, _, _, _, _, rfl, box_grf fun w36 q6 B36 z36 => ?_⟩
        have B3236 := (B33.trans (B34.mono B33.size)).trans (B36.mono (Nat.le_trans B33.size B34.size))
        have q36 := blk_below q5' B3236 (blk_lt q5')
        have hX := hX.below B36
        refine ⟨_, _, _, _, _, _, blk_cell q6 0, blk_cell q6 1, _, _, _, _, _, _, blk_cell q36 0, blk_cell q36 1, (k_wSame hX.grf (hD.grf.below B3236)).mono ?_⟩
        rintro _ w37 ⟨sm, rfl, hsm, B37⟩
        have B3237 := B3236.trans (B37.mono B3236.size)
        have B1637 := B32.trans (B3237.mono B32.size)
        refine ⟨_, rfl, cnd (fun hq => ⟨rfl, hB.trans (B1637.mono hB.size)⟩) fun hq => ?_⟩
        have hHH : ownW H' = H' := hsm.1 (by simpa using hq)
        have hfH : Fits H' := by rw [← hHH]; exact fits_own H'
        rw [hHH] at hX
        have q37 := blk_below q36 B37 (blk_lt q36)
        have q6 := blk_below q6 B37 (blk_lt q6)
        have hX := hX.below B37
        refine ⟨_, _, _, _, _, _, blk_cell q37 0, blk_cell q37 1, (k_wSpoil hD.1 hD.2 B3237).mono ?_⟩
        rintro _ w38 ⟨rfl, K38⟩
        have B38 : Below w18.heap.size w37 w38 := K38.below (Nat.le_trans hw32 B3237.size)
        have B1638 := B1637.trans (B38.mono B18.size)
        have h34 : w32.heap.size ≤ w34.heap.size := Nat.le_trans B33.size B34.size
        have q6 := (K38.block _ (blk_lt q6) (by omega)).trans q6
        have hX : DG w33.heap.size w38 xa xn xc xsa xsn xsc H' := ⟨hX.1.keepOut K38 B33.size, hX.2.keepOut K38 B33.size⟩
        have qg38 := blk_below qg B1638 (blk_lt qg)
        have qw38 := blk_below qw B1638 (blk_lt qw)
        refine ⟨rfl, _, _, _, _, _, _, blk_cell qg38 0, blk_cell qg38 1, _, _, _, _, _, _, blk_cell qw38 0, blk_cell qw38 1, (k_wSame (hg.below B1638) (hwas.below B1638)).mono ?_⟩
        rintro _ w39 ⟨s2, rfl, hs2, B39⟩
        obtain rfl := hs2.2 rfl
        have B1639 := B1638.trans (B39.mono B1638.size)
        have hrn := hrw.len
        have htn := hty.len
        have hrn' : rn = min ty.n 14 := by rw [hrn, List.length_take, htn]; omega
        refine ⟨_, rfl, _, _, _, blk_cell (blk_below qt B1639 (blk_lt qt)) 3, by omega, by omega, ?_⟩
        have hcut := (hty.below B1639).cut 14
        rw [← hrn'] at hcut
        refine (k_EqIds (hrw.below B1639) hcut).tells fun w40 Q40 => ⟨_, rfl, cnd (fun hh => absurd hh (by simp)) fun _ => ?_⟩
        have B40 := Q40.below w39.heap.size
        have B1640 := B1639.trans (B40.mono B1639.size)
        have B040 := hB.trans (B1640.mono hB.size)
        have qx40 := blk_below qx B1640 (blk_lt qx)
        have qg40 := blk_below qg B1640 (blk_lt qg)
        have q6 := blk_below (blk_below q6 B39 (blk_lt q6)) B40 (Nat.lt_of_lt_of_le (blk_lt q6) B39.size)
        rw [nx (by omega)]
        refine cnd (fun he => ?_) fun he => ?_
        · refine ⟨_, _, _, _, _, _, blk_cell q6 0, blk_cell q6 1, put2 qg40 fun w41 qg41 f41 B41 z41 e41 => ⟨⟨k + 1, _, _, _, _, _, _, H', rfl, by omega, ?_, B040.trans (B41.mono (Nat.le_of_lt hb2)), ?_, qg41, ?_, hfH, fun _ => hok (by simpa using he)⟩, dec hkn⟩⟩
          · have : ¬ k = 8 := fun h => by subst h; simp at g8
            omega
          · rw [f41 _ (Nat.ne_of_lt hb2)]; exact qx40
          · exact (((hX.below B39).below B40).far2 qg40 e41).grf
        · refine ⟨⟨k + 1, _, _, _, _, _, _, H, rfl, by omega, ?_, B040, qx40, qg40, hg.below B1640, hf, himp⟩, dec hkn⟩
          have : ¬ k = 8 := fun h => by subst h; simp at g8
          omega
    exact turns_end h hB qx qg hg hf himp
  · exact turns_end h hB qx qg hg hf himp
end
end Go.Eng
namespace Go.Eng
open Go Go.RowKit Go.Proofs
theorem cells_get {w : World} {a : Addr} {n : Nat} {cs : List Value} (h : w.cells? 0 a n = some cs) : cs.length = n ∧ ∀ i, i < n → w.cell? (a.add i) = cs[i]? := by
  unfold World.cells? at h
  rw [if_pos (Nat.zero_le _)] at h
  have h1 := mapM_some_length h
  rw [List.length_range] at h1
  exact ⟨h1, fun i hi => mapM_some_get h i i (by simp [hi])⟩
theorem list_of {α : Type} (p : Nat → α → Prop) : ∀ n, (∀ i, i < n → ∃ r, p i r) → ∃ rs : List α, rs.length = n ∧ ∀ i (h : i < rs.length), p i rs[i]
  | 0, _ => ⟨[], rfl, fun i h => by simp at h⟩
  | n + 1, h => by
    obtain ⟨rs, h1, h2⟩ := list_of p n fun i hi => h i (by omega)
    obtain ⟨r, hr⟩ := h n (by omega)
    refine ⟨rs ++ [r], by simp [h1], fun i hi => ?_⟩
    by_cases hin : i < rs.length
    · rw [List.getElem_append_left hin]; exact h2 i hin
    · have : i = n := by simp at hi; omega
      subst this
      rw [List.getElem_append_right (by omega)]; simpa using hr
section
variable {P : Program} {H : Type} {enc : TypeId × Value → H} {w : World} {sp : Nat → Bool} {held : Bool}
/-- What is asked of a cell's reading. -/
def Opens (P : Program) (enc : TypeId × Value → H) (w : World) (sp : Nat → Bool) (held : Bool) (t : TypeId) (G : List Value → Prop) : Prop :=
  ∀ fuel cs x, DataW.trod enc P w 0 sp held fuel t cs = some x → G cs
theorem opens_int {t : TypeId} {k : IntKind} (ht : P.underlying t = some (.int k)) : Opens P enc w sp held t (fun cs => ∃ x : Int, cs = [.int k x] ∧ (Lit.int k x).wf = true) := by
  intro fuel cs x h
  obtain ⟨n, h1, _, h2⟩ := DataW.trod_int ht h
  exact ⟨n, h1, h2⟩
theorem opens_bool {t : TypeId} (ht : P.underlying t = some .bool) : Opens P enc w sp held t (fun cs => ∃ x : Bool, cs = [.bool x]) := by
  intro fuel cs x h
  obtain ⟨n, h1, _⟩ := DataW.trod_bool ht h
  exact ⟨n, h1⟩
theorem opens_slice {ρ : Type} {en : ρ → List Value} {k : Nat} {t e : TypeId} {Good : ρ → Prop} (ht : P.underlying t = some (.slice e)) (hk : P.cellsOf e = k) (E : En en k) (he : Opens P enc w sp held e (fun cs => ∃ r, cs = en r ∧ Good r)) :
    Opens P enc w sp held t (fun cs => ∃ h : Hd, cs = [h.v] ∧ ∃ rs, Row en w h.a h.n h.c rs ∧ ∀ r ∈ rs, Good r) := by
  intro fuel cs x h
  rcases DataW.trod_slice ht h with ⟨h1, _⟩ | ⟨a, len, cap, elems, rest, n, _, h1, _, _, hl, hc, hel, hget, _⟩
  · exact ⟨⟨none, 0, 0⟩, h1, [], Row.nil', by simp⟩
  · obtain ⟨rs, hrl, hr⟩ := list_of (fun i r => w.cells? 0 (a.add (i * k)) k = some (en r) ∧ Good r) len fun i hi => by
      have := hget i hi
      rw [hk, List.getElem?_eq_getElem (by omega)] at this
      obtain ⟨cs', hc1, hc2⟩ := Option.bind_eq_some_iff.1 this
      obtain ⟨r, rfl, hg⟩ := he _ _ _ hc2
      exact ⟨r, hc1, hg⟩
    refine ⟨⟨some a, len, cap⟩, h1, rs, ⟨⟨hrl.symm, .inr ⟨a, rfl, fun j hj => ?_⟩⟩, hl, (fun h => nomatch h), hc⟩, fun r hr' => ?_⟩
    · rw [length_flat E.len] at hj
      have hk0 : 0 < k := by
        rcases Nat.eq_zero_or_pos k with h0 | h0
        · rw [h0] at hj; omega
        · exact h0
      have hd : j / k < rs.length := (Nat.div_lt_iff_lt_mul hk0).2 hj
      have hm : j % k < k := Nat.mod_lt _ hk0
      have hj' : j / k * k + j % k = j := Nat.div_add_mod' j k
      obtain ⟨g1, _⟩ := hr _ hd
      have g2 := (cells_get g1).2 _ hm
      rw [add_add, hj'] at g2
      have g3 := flat_get E.len rs (j / k) (j % k) hd hm
      rw [hj'] at g3
      rw [g2, g3]
    · obtain ⟨i, hi, rfl⟩ := List.mem_iff_getElem.1 hr'
      exact (hr i hi).2
/-- A struct's fields: types and places. -/
def flds (P : Program) (t : TypeId) : Option (List (TypeId × Nat)) := match P.underlying t with | some (.struct fs) => some (fs.toList.map fun f => (f.type, f.offset)) | _ => none
theorem opens_struct {t : TypeId} {L : List (TypeId × Nat)} (h : flds P t = some L) : Opens P enc w sp held t (fun cs => cs.length = P.cellsOf t ∧ ∀ (i : Nat) (ty : TypeId) (off : Nat), L[i]? = some (ty, off) → ∃ fuel x, DataW.trod enc P w 0 sp held fuel ty ((cs.drop off).take (P.cellsOf ty)) = some x) := by
  intro fuel cs x hx
  unfold flds at h
  split at h
  · rename_i fs hfs
    obtain ⟨xs, n, _, _, hl, hlen, hget⟩ := DataW.trod_struct hfs hx
    refine ⟨hl, fun i ty off hi => ?_⟩
    simp only [Option.some.injEq] at h
    rw [← h, List.getElem?_map] at hi
    obtain ⟨f, hf, he⟩ := Option.map_eq_some_iff.1 hi
    simp only [Prod.mk.injEq] at he
    obtain ⟨rfl, rfl⟩ := he
    have hf' : fs[i]? = some f := by simpa using hf
    have := hget i f hf'
    have hil : i < xs.length := by rw [hlen]; exact (Array.getElem?_eq_some_iff.1 hf').1
    rw [List.getElem?_eq_getElem hil] at this
    exact ⟨_, _, this⟩
  · cases h
theorem struct_agg {r : Reach} {b0 : Nat} {t : TypeId} {v : Value} {L : List (TypeId × Nat)} (h : flds P t = some L) (hv : Value.okWide P w r b0 t v) : ∃ cs, v = .agg cs := by
  unfold flds at h
  split at h
  · rename_i fs hfs
    obtain ⟨cs, h1, _⟩ := WideShapes.okWide_struct hfs hv
    exact ⟨cs, h1⟩
  · cases h
end
theorem i64_wf {n : Int} (h : (Lit.int .i64 n).wf = true) : I64 n := by
  simp [Lit.wf, IntKind.min, IntKind.max, IntKind.signed, IntKind.bits] at h
  unfold I64; omega
theorem u64_wf {n : Int} (h : (Lit.int .u64 n).wf = true) : 0 ≤ n ∧ n < 18446744073709551616 := by
  simp [Lit.wf, IntKind.min, IntKind.max, IntKind.signed, IntKind.bits] at h
  omega
theorem len1 {α : Type} {l : List α} (h : l.length = 1) : ∃ a, l = [a] := by
  match l, h with
  | [a], _ => exact ⟨a, rfl⟩
theorem len2 {α : Type} {l : List α} (h : l.length = 2) : ∃ a b, l = [a, b] := by
  match l, h with
  | [a, b], _ => exact ⟨a, b, rfl⟩
theorem len3 {α : Type} {l : List α} (h : l.length = 3) : ∃ a b c, l = [a, b, c] := by
  match l, h with
  | [a, b, c], _ => exact ⟨a, b, c, rfl⟩
theorem len4 {α : Type} {l : List α} (h : l.length = 4) : ∃ a b c d, l = [a, b, c, d] := by
  match l, h with
  | [a, b, c, d], _ => exact ⟨a, b, c, d, rfl⟩
section
variable {H : Type} {enc : TypeId × Value → H} {w : World} {sp : Nat → Bool} {held : Bool}
theorem opens_id : Opens Tryz.prog enc w sp held 32 (fun cs => ∃ x : Int, cs = encId x ∧ 0 ≤ x ∧ x < 18446744073709551616) := by
  intro fuel cs x h
  obtain ⟨n, h1, h2⟩ := opens_int (by kernel_rfl) fuel cs x h
  exact ⟨n, h1, u64_wf h2⟩
theorem opens_i64 : Opens Tryz.prog enc w sp held 3 (fun cs => ∃ x : Int, cs = encInt x ∧ I64 x) := by
  intro fuel cs x h
  obtain ⟨n, h1, h2⟩ := opens_int (by kernel_rfl) fuel cs x h
  exact ⟨n, h1, i64_wf h2⟩
theorem opens_ids : Opens Tryz.prog enc w sp held 33 (fun cs => ∃ h : Hd, cs = [h.v] ∧ ∃ l, Row encId w h.a h.n h.c l ∧ Rng l) := opens_slice (by kernel_rfl) (by kernel_rfl) enId opens_id
theorem opens_step : Opens Tryz.prog enc w sp held 71 (fun cs => ∃ x : Stp, cs = encStp x ∧ 0 ≤ x.1 ∧ x.1 < 18446744073709551616 ∧ I64 x.2) := by
  intro fuel cs x h
  obtain ⟨hl, hf⟩ := opens_struct (show flds Tryz.prog 71 = some [(32, 0), (3, 1)] by kernel_rfl) fuel cs x h
  obtain ⟨a, b, rfl⟩ := len2 (hl.trans (show Tryz.prog.cellsOf 71 = 2 by kernel_rfl))
  obtain ⟨f0, x0, h0⟩ := hf 0 _ _ rfl
  obtain ⟨f1, x1, h1⟩ := hf 1 _ _ rfl
  rw [show Tryz.prog.cellsOf 32 = 1 by kernel_rfl] at h0
  rw [show Tryz.prog.cellsOf 3 = 1 by kernel_rfl] at h1
  obtain ⟨y, e0, r0⟩ := opens_id _ _ _ h0
  obtain ⟨z, e1, r1⟩ := opens_i64 _ _ _ h1
  simp [encId] at e0
  simp [encInt] at e1
  exact ⟨(y, z), by rw [e0, e1]; rfl, r0.1, r0.2, r1⟩
theorem opens_steps : Opens Tryz.prog enc w sp held 54 (fun cs => ∃ h : Hd, cs = [h.v] ∧ ∃ l : List Stp, Row encStp w h.a h.n h.c l ∧ ∀ s ∈ l, 0 ≤ s.1 ∧ s.1 < 18446744073709551616 ∧ I64 s.2) := opens_slice (by kernel_rfl) (by kernel_rfl) enStp opens_step
theorem opens_node : Opens Tryz.prog enc w sp held 56 (fun cs => ∃ r : RNode, cs = encNode r ∧ ∃ x, IsNode w r x) := by
  intro fuel cs x h
  obtain ⟨hl, hf⟩ := opens_struct (show flds Tryz.prog 56 = some [(4, 0), (33, 1), (54, 2), (54, 3)] by kernel_rfl) fuel cs x h
  obtain ⟨a, b, c, d, rfl⟩ := len4 (hl.trans (show Tryz.prog.cellsOf 56 = 4 by kernel_rfl))
  obtain ⟨f0, x0, h0⟩ := hf 0 _ _ rfl
  obtain ⟨f1, x1, h1⟩ := hf 1 _ _ rfl
  obtain ⟨f2, x2, h2⟩ := hf 2 _ _ rfl
  obtain ⟨f3, x3, h3⟩ := hf 3 _ _ rfl
  rw [show Tryz.prog.cellsOf 4 = 1 by kernel_rfl] at h0
  rw [show Tryz.prog.cellsOf 33 = 1 by kernel_rfl] at h1
  rw [show Tryz.prog.cellsOf 54 = 1 by kernel_rfl] at h2 h3
  obtain ⟨u, e0⟩ := opens_bool (by kernel_rfl) _ _ _ h0
  obtain ⟨hd1, e1, l1, r1, g1⟩ := opens_ids _ _ _ h1
  obtain ⟨hd2, e2, l2, r2, g2⟩ := opens_steps _ _ _ h2
  obtain ⟨hd3, e3, l3, r3, g3⟩ := opens_steps _ _ _ h3
  simp at e0 e1 e2 e3
  refine ⟨⟨u, hd1, hd2, hd3⟩, by rw [e0, e1, e2, e3]; rfl, ⟨u, l1, l2, l3⟩, rfl, r1, r2, r3, g1, fun s hs => ?_⟩
  rcases List.mem_append.1 hs with hs | hs
  · exact g2 s hs
  · exact g3 s hs
theorem opens_ent : Opens Tryz.prog enc w sp held 94 (fun cs => ∃ r : REnt, cs = encEnt r ∧ ∃ x, IsEnt w r x) := by
  intro fuel cs x h
  obtain ⟨hl, hf⟩ := opens_struct (show flds Tryz.prog 94 = some [(3, 0), (33, 1), (3, 2)] by kernel_rfl) fuel cs x h
  obtain ⟨a, b, c, rfl⟩ := len3 (hl.trans (show Tryz.prog.cellsOf 94 = 3 by kernel_rfl))
  obtain ⟨f0, x0, h0⟩ := hf 0 _ _ rfl
  obtain ⟨f1, x1, h1⟩ := hf 1 _ _ rfl
  obtain ⟨f2, x2, h2⟩ := hf 2 _ _ rfl
  rw [show Tryz.prog.cellsOf 3 = 1 by kernel_rfl] at h0 h2
  rw [show Tryz.prog.cellsOf 33 = 1 by kernel_rfl] at h1
  obtain ⟨y, e0, r0⟩ := opens_i64 _ _ _ h0
  obtain ⟨hd1, e1, l1, r1, g1⟩ := opens_ids _ _ _ h1
  obtain ⟨z, e2, r2⟩ := opens_i64 _ _ _ h2
  simp [encInt] at e0 e1 e2
  exact ⟨⟨y, hd1, z⟩, by rw [e0, e1, e2]; rfl, ⟨y, l1, z⟩, rfl, rfl, r1, g1, r0, r2⟩
theorem all2_of {ρ β : Type} {R : ρ → β → Prop} {rs : List ρ} (h : ∀ r ∈ rs, ∃ x, R r x) : ∃ l, All2 R rs l := by
  obtain ⟨l, hl, hr⟩ := list_of (fun i x => ∀ h : i < rs.length, R rs[i] x) rs.length fun i hi => by
    obtain ⟨x, hx⟩ := h _ (List.getElem_mem hi)
    exact ⟨x, fun _ => hx⟩
  exact ⟨l, hl.symm, fun i h1 h2 => hr i h2 h1⟩
theorem opens_nodes : Opens Tryz.prog enc w sp held 22 (fun cs => ∃ h : Hd, cs = [h.v] ∧ ∃ l, Nodes w h.a h.n h.c l) := by
  intro fuel cs x h
  obtain ⟨hd, e, rs, hr, hg⟩ := opens_slice (by kernel_rfl) (by kernel_rfl) enNode opens_node fuel cs x h
  obtain ⟨l, hl⟩ := all2_of hg
  exact ⟨hd, e, l, rs, hr, hl⟩
theorem opens_ents : Opens Tryz.prog enc w sp held 23 (fun cs => ∃ h : Hd, cs = [h.v] ∧ ∃ l, Ents w h.a h.n h.c l) := by
  intro fuel cs x h
  obtain ⟨hd, e, rs, hr, hg⟩ := opens_slice (by kernel_rfl) (by kernel_rfl) enEnt opens_ent fuel cs x h
  obtain ⟨l, hl⟩ := all2_of hg
  exact ⟨hd, e, l, rs, hr, hl⟩
theorem opens_lookup : Opens Tryz.prog enc w sp held 25 (fun cs => ∃ h : Hd, cs = [h.v] ∧ ∃ l, Ents w h.a h.n h.c l) := by
  intro fuel cs x h
  obtain ⟨hl, hf⟩ := opens_struct (show flds Tryz.prog 25 = some [(23, 0)] by kernel_rfl) fuel cs x h
  obtain ⟨a, rfl⟩ := len1 (hl.trans (show Tryz.prog.cellsOf 25 = 1 by kernel_rfl))
  obtain ⟨f0, x0, h0⟩ := hf 0 _ _ rfl
  rw [show Tryz.prog.cellsOf 23 = 1 by kernel_rfl] at h0
  exact opens_ents _ _ _ h0
theorem opens_graph : Opens Tryz.prog enc w sp held 27 (fun cs => ∃ h s : Hd, cs = [h.v, s.v] ∧ ∃ G, Grf w h.a h.n h.c s.a s.n s.c G) := by
  intro fuel cs x h
  obtain ⟨hl, hf⟩ := opens_struct (show flds Tryz.prog 27 = some [(22, 0), (25, 1)] by kernel_rfl) fuel cs x h
  obtain ⟨a, b, rfl⟩ := len2 (hl.trans (show Tryz.prog.cellsOf 27 = 2 by kernel_rfl))
  obtain ⟨f0, x0, h0⟩ := hf 0 _ _ rfl
  obtain ⟨f1, x1, h1⟩ := hf 1 _ _ rfl
  rw [show Tryz.prog.cellsOf 22 = 1 by kernel_rfl] at h0
  rw [show Tryz.prog.cellsOf 25 = 1 by kernel_rfl] at h1
  obtain ⟨hd, e0, l, r0⟩ := opens_nodes _ _ _ h0
  obtain ⟨sd, e1, s, r1⟩ := opens_lookup _ _ _ h1
  simp at e0 e1
  exact ⟨hd, sd, by rw [e0, e1], ⟨l, s⟩, r0, r1⟩
theorem opens_turn : Opens Tryz.prog enc w sp held 35 (fun cs => ∃ r : RTurn, cs = encTurn r ∧ ∃ x, IsTurn w r x) := by
  intro fuel cs x h
  obtain ⟨hl, hf⟩ := opens_struct (show flds Tryz.prog 35 = some [(3, 0), (3, 1), (32, 2), (33, 3)] by kernel_rfl) fuel cs x h
  obtain ⟨a, b, c, d, rfl⟩ := len4 (hl.trans (show Tryz.prog.cellsOf 35 = 4 by kernel_rfl))
  obtain ⟨f0, x0, h0⟩ := hf 0 _ _ rfl
  obtain ⟨f1, x1, h1⟩ := hf 1 _ _ rfl
  obtain ⟨f2, x2, h2⟩ := hf 2 _ _ rfl
  obtain ⟨f3, x3, h3⟩ := hf 3 _ _ rfl
  rw [show Tryz.prog.cellsOf 3 = 1 by kernel_rfl] at h0 h1
  rw [show Tryz.prog.cellsOf 32 = 1 by kernel_rfl] at h2
  rw [show Tryz.prog.cellsOf 33 = 1 by kernel_rfl] at h3
  obtain ⟨u, e0, r0⟩ := opens_i64 _ _ _ h0
  obtain ⟨v, e1, r1⟩ := opens_i64 _ _ _ h1
  obtain ⟨y, e2, r2⟩ := opens_id _ _ _ h2
  obtain ⟨hd, e3, l3, r3, g3⟩ := opens_ids _ _ _ h3
  simp [encInt, encId] at e0 e1 e2 e3
  exact ⟨⟨u, v, y, hd⟩, by rw [e0, e1, e2, e3]; rfl, ⟨u, v, y, l3⟩, rfl, rfl, rfl, r3, g3, r1, r2⟩
theorem opens_turns : Opens Tryz.prog enc w sp held 28 (fun cs => ∃ h : Hd, cs = [h.v] ∧ ∃ l, Turns w h.a h.n h.c l) := by
  intro fuel cs x h
  obtain ⟨hd, e, rs, hr, hg⟩ := opens_slice (by kernel_rfl) (by kernel_rfl) enTurn opens_turn fuel cs x h
  obtain ⟨l, hl⟩ := all2_of hg
  exact ⟨hd, e, l, rs, hr, hl⟩
end
end Go.Eng
namespace Go.Proofs.YtfcnkaignjdpgaaGreat
open Go.ChangeShapes Go.WideShapes Go.ChangeAt Go.RowKit Go.Eng
theorem own : ownKnob Tryz.prog.godebug = none := by kernel_rfl
theorem laidOut : laidOutB Tryz.prog = true := by kernel_rfl
section
variable {H : Type} {enc : TypeId × Value → H}
set_option maxRecDepth 100000 in
theorem arg_graph {W : World} {r : Reach} {b0 : Nat} {sp : Nat → Bool} {held : Bool} {v : Value} {d : DataW H} {ps : List MemPlace} (hv : Value.okWide Tryz.prog W r b0 27 v) (h : DataW.Trod enc Tryz.prog W 0 sp held 27 v d ps) :
    ∃ (h s : Hd) (G : PG), v = .agg #[h.v, s.v] ∧ Grf W h.a h.n h.c s.a s.n s.c G := by
  obtain ⟨cs, rfl⟩ := struct_agg (show flds Tryz.prog 27 = some [(22, 0), (25, 1)] by kernel_rfl) hv
  obtain ⟨fuel, hf⟩ := h
  obtain ⟨hd, sd, e, G, hG⟩ := opens_graph _ _ _ hf
  refine ⟨hd, sd, G, ?_, hG⟩
  have : cs = #[hd.v, sd.v] := by
    apply Array.ext'
    simpa [Value.cells] using e
  rw [this]
set_option maxRecDepth 100000 in
theorem arg_slice {W : World} {r : Reach} {b0 : Nat} {sp : Nat → Bool} {held : Bool} {v : Value} {d : DataW H} {ps : List MemPlace} {t e : TypeId} {G : Hd → Prop} (ht : Tryz.prog.underlying t = some (.slice e)) (ho : Opens Tryz.prog enc W sp held t (fun cs => ∃ h : Hd, cs = [h.v] ∧ G h))
    (hv : Value.okWide Tryz.prog W r b0 t v) (h : DataW.Trod enc Tryz.prog W 0 sp held t v d ps) : ∃ h : Hd, v = h.v ∧ G h := by
  obtain ⟨a, n, c, rfl⟩ := okWide_slice ht hv
  obtain ⟨fuel, hf⟩ := h
  obtain ⟨hd, e, hG⟩ := ho _ _ _ hf
  refine ⟨hd, ?_, hG⟩
  simpa [Value.cells] using e
end
set_option maxRecDepth 100000 in
theorem graphTurns_lifted (os : Os) (started : os.Started) (H : Type) (enc : TypeId × Value → H) :
    ReturnsInHanded {} Tryz.checked os 3 .any (Rows.graphTurnsSpec.pre6 enc Tryz.prog Tryz.f3 Rows.graphTurnsRow.domain false) (Rows.graphTurnsSpec.post enc Tryz.prog Tryz.f3 false true false false) := by
  refine returnsInHanded_of_change (C := Tryz.checked) own started (by kernel_rfl) Tryz.func3
    (ChangeSpec.witness6 (enc := enc) (C := Tryz.checked) false ⟨#[], #[.agg #[.slice none 0 0, .slice none 0 0], .slice none 0 0], []⟩ 8 (by kernel_rfl) (by kernel_rfl) (by kernel_rfl) (by kernel_rfl)) ?_
  intro W base args ds gs before hval0 hW hcnd _
  have hval : ∀ (j : Nat) t v, Tryz.f3.params[j]? = some t → args[j]? = some v → Value.okWide Tryz.prog W .any base t v := hval0
  have hW' := hW
  obtain ⟨p, q, hA0, hV, rfl, hfz, hnd⟩ := hW
  have hA : DataW.TrodAll enc Tryz.prog W 0 (fun _ => true) true Tryz.f3.params.toList args.toList ds p := hA0
  rw [Tryz.params3] at hA hval
  obtain ⟨v0, v1, d0, d1, p0, p1, rfl, rfl, rfl, h0, h1⟩ := trodAll_two hA
  obtain ⟨rfl, rfl⟩ := trodVars_none hV
  clear hA0 hval0
  simp only [List.append_nil] at hW'
  have hlt : ∀ x ∈ p0 ++ p1, x.block < W.heap.size := fun x hx => by simpa using hW'.lt x hx
  obtain ⟨hd, sd, G, e0, hG⟩ := arg_graph (hval 0 27 v0 rfl rfl) h0
  obtain ⟨ld, e1, L, hL⟩ := arg_slice (e := 35) (by kernel_rfl) opens_turns (hval 1 28 v1 rfl rfl) h1
  subst e0; subst e1
  refine (k_GraphTurns hG hL).2.mono fun e W' ⟨v, he, hv, hB⟩ => ?_
  subst he; subst hv
  refine ⟨_, rfl, _, _, _, [], p0 ++ p1, [], hW', trodAll_mk1 (shut_bool (by kernel_rfl) true), trodAll_mk2 (Below.trod laidOut (by kernel_rfl) (of_decide_eq_true (by kernel_rfl)) h0 hB fun x hx => hlt x (List.mem_append.2 (.inl hx))) (Below.trod laidOut (by kernel_rfl) (of_decide_eq_true (by kernel_rfl)) h1 hB fun x hx => hlt x (List.mem_append.2 (.inr hx))), rfl, hB.frame _, fun h => by cases h⟩
theorem graphTurns_holds : Rows.GraphTurnsSaid :=
  OpenClaim.holds_of_wide 3 Tryz.f3 rfl rfl rfl rfl rfl rfl rfl ⟨rfl, rfl, rfl, rfl, rfl⟩ rfl rfl rfl rfl rfl (by kernel_rfl) Tryz.func3 (by kernel_rfl)
    (of_decide_eq_true (by kernel_rfl)) (by unfold Func.isWrapper; rw [if_neg (of_decide_eq_false (by kernel_rfl))]; exact ⟨rfl, rfl⟩)
    (fun os started H enc _ => graphTurns_lifted os started H enc)
end Go.Proofs.YtfcnkaignjdpgaaGreat
