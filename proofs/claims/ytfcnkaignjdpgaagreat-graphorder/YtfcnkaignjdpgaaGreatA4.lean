/- Part 4 of the proof of GraphOrderSaid. What is proved: what a call of each function leaves. Conditions: those that each theorem names. -/
import Derived.Test.YtfcnkaignjdpgaaGreatA1
import Derived.Test.YtfcnkaignjdpgaaGreatA3
import Derived.Laws.StructEq
import Derived.Shelf.SlSortCmp.WholeK
import Derived.Shelf.SlGeneric
import Derived.Ground.SlsfProg
import Derived.Test.YtfcnkaignjdpgaaGreatProg
import Derived.Lib.AppendZerosOnto
set_option linter.unusedVariables false
set_option linter.unusedSimpArgs false
set_option linter.unusedSectionVars false
namespace Go.Eng
open Go
set_option exponentiation.threshold 300
theorem u64_wrap {n : Nat} : IntKind.u64.wrap (n : Int) = ((n % 2 ^ 64 : Nat) : Int) := by
  rw [IntKind.wrap_u64]; omega
theorem bv_nat (n : Nat) : (BitVec.ofInt 64 (n : Int)) = BitVec.ofNat 64 n := by simp
theorem bxor_nat {a b : Nat} (ha : a < 2 ^ 64) (hb : b < 2 ^ 64) : bxor .u64 (a : Int) (b : Int) = ((a ^^^ b : Nat) : Int) := by
  have hx : a ^^^ b < 2 ^ 64 := Nat.xor_lt_two_pow ha hb
  have h1 : (BitVec.ofInt IntKind.u64.bits (a : Int) ^^^ BitVec.ofInt IntKind.u64.bits (b : Int)).toNat = a ^^^ b := by
    show (BitVec.ofInt 64 (a : Int) ^^^ BitVec.ofInt 64 (b : Int)).toNat = a ^^^ b
    rw [bv_nat, bv_nat, BitVec.toNat_xor, BitVec.toNat_ofNat, BitVec.toNat_ofNat, Nat.mod_eq_of_lt ha, Nat.mod_eq_of_lt hb]
  show IntKind.u64.wrap (_ : Int) = _
  rw [h1, u64_wrap, Nat.mod_eq_of_lt hx]
theorem band_nat {a b : Nat} (ha : a < 2 ^ 64) (hb : b < 2 ^ 64) : band .u64 (a : Int) (b : Int) = ((a &&& b : Nat) : Int) := by
  have hx : a &&& b < 2 ^ 64 := Nat.and_lt_two_pow a hb
  have h1 : (BitVec.ofInt IntKind.u64.bits (a : Int) &&& BitVec.ofInt IntKind.u64.bits (b : Int)).toNat = a &&& b := by
    show (BitVec.ofInt 64 (a : Int) &&& BitVec.ofInt 64 (b : Int)).toNat = a &&& b
    rw [bv_nat, bv_nat, BitVec.toNat_and, BitVec.toNat_ofNat, BitVec.toNat_ofNat, Nat.mod_eq_of_lt ha, Nat.mod_eq_of_lt hb]
  show IntKind.u64.wrap (_ : Int) = _
  rw [h1, u64_wrap, Nat.mod_eq_of_lt hx]
theorem bor_nat {a b : Nat} (ha : a < 2 ^ 64) (hb : b < 2 ^ 64) : bor .u64 (a : Int) (b : Int) = ((a ||| b : Nat) : Int) := by
  have hx : a ||| b < 2 ^ 64 := Nat.or_lt_two_pow ha hb
  have h1 : (BitVec.ofInt IntKind.u64.bits (a : Int) ||| BitVec.ofInt IntKind.u64.bits (b : Int)).toNat = a ||| b := by
    show (BitVec.ofInt 64 (a : Int) ||| BitVec.ofInt 64 (b : Int)).toNat = a ||| b
    rw [bv_nat, bv_nat, BitVec.toNat_or, BitVec.toNat_ofNat, BitVec.toNat_ofNat, Nat.mod_eq_of_lt ha, Nat.mod_eq_of_lt hb]
  show IntKind.u64.wrap (_ : Int) = _
  rw [h1, u64_wrap, Nat.mod_eq_of_lt hx]
theorem bshr_nat {a i : Nat} (hi : i ≤ 64) : bshr .u64 (a : Int) (i : Int) = ((a / 2 ^ i : Nat) : Int) := by
  show Int.fdiv (a : Int) (2 ^ (min (i : Int).toNat 64)) = _
  rw [Int.toNat_natCast, Nat.min_eq_left hi, Int.fdiv_eq_ediv_of_nonneg _ (by exact Int.le_of_lt (Int.pow_pos (by decide)))]
  norm_cast
theorem bshl_nat {a i : Nat} (hi : i ≤ 64) : bshl .u64 (a : Int) (i : Int) = ((a * 2 ^ i % 2 ^ 64 : Nat) : Int) := by
  show IntKind.u64.wrap ((a : Int) * 2 ^ (min (i : Int).toNat 64)) = _
  rw [Int.toNat_natCast, Nat.min_eq_left hi, ← u64_wrap]
  norm_cast
theorem and_255 (a : Nat) : a &&& 255 = a % 256 := Nat.and_two_pow_sub_one_eq_mod a 8
def hbyte (h b : Nat) : Nat := ((h ^^^ b) * 1099511628211) % 2 ^ 64
def byteAt (id i : Nat) : Nat := id / 2 ^ (8 * i) % 256
def hadd (h id : Nat) : Nat := (List.range 8).foldl (fun h i => hbyte h (byteAt id i)) h
def hof (l : List Nat) : Nat := l.foldl hadd 14695981039346656037
theorem hof_nil : hof [] = 14695981039346656037 := by unfold hof; rw [List.foldl_nil]
theorem hof_snoc (l : List Nat) (x : Nat) : hof (l ++ [x]) = hadd (hof l) x := by unfold hof; rw [List.foldl_append, List.foldl_cons, List.foldl_nil]
theorem hbyte_lt (h b : Nat) : hbyte h b < 2 ^ 64 := Nat.mod_lt _ (by decide)
theorem foldl_lt : ∀ (is : List Nat) (h id : Nat), h < 2 ^ 64 → is.foldl (fun h i => hbyte h (byteAt id i)) h < 2 ^ 64
  | [], h, id, hh => hh
  | i :: is, h, id, hh => foldl_lt is _ id (hbyte_lt _ _)
theorem hadd_lt {h : Nat} (hh : h < 2 ^ 64) (id : Nat) : hadd h id < 2 ^ 64 := foldl_lt _ _ _ hh
theorem hof_lt' : ∀ (l : List Nat) (h : Nat), h < 2 ^ 64 → l.foldl hadd h < 2 ^ 64
  | [], h, hh => hh
  | x :: l, h, hh => hof_lt' l _ (hadd_lt hh x)
theorem hof_lt (l : List Nat) : hof l < 2 ^ 64 := hof_lt' l _ (by decide)
end Go.Eng
namespace Go.Eng
open Go Go.RowKit Go.Proofs
set_option maxRecDepth 10000
theorem tmodN (a b : Nat) : Int.tmod (a : Int) (b : Int) = ((a % b : Nat) : Int) := rfl
section
variable {w : World} {a b : Option Addr} {n c m d : Nat} {l l' : List Int}
theorem range_foldl (h id k : Nat) : (List.range (k + 1)).foldl (fun h i => hbyte h (byteAt id i)) h = hbyte ((List.range k).foldl (fun h i => hbyte h (byteAt id i)) h) (byteAt id k) := by
  rw [List.range_succ, List.foldl_append, List.foldl_cons, List.foldl_nil]
theorem byteAt_lt (id i : Nat) : byteAt id i < 256 := Nat.mod_lt _ (by decide)
end
end Go.Eng
namespace Go.Eng
open Go Go.RowKit Go.Proofs
set_option maxRecDepth 10000
section
variable {w : World} {a b : Option Addr} {n c m d : Nat} {l l' : List Int}
/-- Ids are numbers of 64 bits. -/
def Rng (l : List Int) : Prop := ∀ x ∈ l, 0 ≤ x ∧ x < 18446744073709551616
def nats (l : List Int) : List Nat := l.map Int.toNat
theorem nats_snoc (l : List Int) (x : Int) : nats (l ++ [x]) = nats l ++ [x.toNat] := by simp [nats]
theorem k_hAdd1 {h b : Nat} (hh : h < 2 ^ 64) (hb : b < 2 ^ 64) : Cl Tryz.prog 174 #[.int .u64 (h : Int), .int .u64 (b : Int)] w (Is (.int .u64 (hbyte h b : Nat)) w) := by
  refine c174 _ _ ⟨?_, rfl⟩
  rw [bxor_nat hh hb, show ((h ^^^ b : Nat) : Int) * 1099511628211 = (((h ^^^ b) * 1099511628211 : Nat) : Int) by omega, u64_wrap]
  rfl
end
end Go.Eng
namespace Go.Eng
open Go Go.RowKit Go.Proofs
set_option maxRecDepth 10000
def encN (x : Nat) : List Value := [.int .u64 (x : Int)]
section
variable {w : World} {a b : Option Addr} {n c m d : Nat} {l l' : List Int}
theorem byte_of (id k : Nat) (hid : id < 2 ^ 64) (hk : k < 8) : band .u64 (bshr .u64 (id : Int) (IntKind.i64.wrap (8 * (k : Int)))) 255 = ((byteAt id k : Nat) : Int) := by
  rw [wrap64 (by omega) (by omega), show 8 * (k : Int) = ((8 * k : Nat) : Int) by omega, bshr_nat (by omega)]
  have hd : id / 2 ^ (8 * k) ≤ id := Nat.div_le_self _ _
  rw [show (255 : Int) = ((255 : Nat) : Int) from rfl, band_nat (by omega) (by decide), and_255]
  rfl
theorem seqs_hbytes1 {c0 c1 : Addr} {id : Nat} (hid : id < 2 ^ 64) (h0 : w.cell? c0 = some (.bool true)) (h1 : w.cell? c1 = some (.int .u64 (id : Int))) {S : Nat → Prop} (s0 : S c0.block) (s1 : S c1.block) (hS : ∀ k, S k → k < w.heap.size) :
    Seqs Tryz.prog 187 [.pointer (some c0), .pointer (some c1)] ((List.range 8).map fun i => encN (byteAt id i)) (KS S) w := by
  refine seqs_of fun k J Jx W hW hJ hJx hy hJ0 => ?_
  refine c187 _ _ _ ⟨fun i W' => KS S w W' ∧ ∃ k : Nat, i = k ∧ k ≤ 8 ∧ J ((List.range k).map fun i => encN (byteAt id i)) W', fun i _ => 8 - i.toNat, ⟨KS.of_below hW hS, 0, rfl, by omega, by simpa using hJ0⟩, ?_⟩
  rintro _ w2 _ ⟨hB2, k, rfl, hk, hj⟩
  refine cnd (fun hc => ?_) fun hc => ?_
  · have hk8 : k < 8 := by simp at hc; omega
    refine ⟨_, hB2.cell s0 h0, cnd (fun hc => by cases hc) fun _ => ⟨_, hB2.cell s1 h1, cnd (fun hc => ?_) fun _ => ?_⟩⟩
    · exact absurd (of_decide_eq_true hc) (by rw [wrap64 (by omega) (by omega)]; omega)
    rw [byte_of id k hid hk8]
    have hnext : ((List.range (k + 1)).map fun i => encN (byteAt id i)) = ((List.range k).map fun i => encN (byteAt id i)) ++ [encN (byteAt id k)] := by
      rw [List.range_succ, List.map_append, List.map_cons, List.map_nil]
    refine (hy _ (encN (byteAt id k)) w2 ?_ hj ?_).mono fun y W' hyy => ?_
    · exact List.mem_map.2 ⟨k, List.mem_range.2 hk8, rfl⟩
    · simpa using hk8
    · refine cnd (fun h5 => .inr ?_) fun h5 => ?_
      · have : y = false := by simpa using h5
        subst this
        refine ⟨_, ?_, hyy⟩
        rw [← hnext]
        refine ⟨((List.range 8).drop (k + 1)).map fun i => encN (byteAt id i), ?_⟩
        rw [← List.map_append]
        congr 1
        have := List.take_append_drop (k + 1) (List.range 8)
        rw [List.take_range, Nat.min_eq_left (by omega)] at this
        exact this
      · have : y = true := by simpa using h5
        subst this
        rw [nx (by omega)]
        exact ⟨⟨hB2.trans hyy.2, k + 1, rfl, by omega, by rw [hnext]; exact hyy.1⟩, dec hk8⟩
  · have hk8 : k = 8 := by simp at hc; omega
    subst hk8
    exact .inl hj
/-- A loop over bytes: what h becomes. -/
def foldB (g : Nat → Nat → Nat) (h : Nat) (pre : List (List Value)) : Nat := pre.foldl (fun h v => match v with | [.int _ x] => g h x.toNat | _ => h) h
theorem foldB_snoc (g : Nat → Nat → Nat) (h : Nat) (pre : List (List Value)) (x : Nat) : foldB g h (pre ++ [encN x]) = g (foldB g h pre) x := by
  unfold foldB; rw [List.foldl_append, List.foldl_cons, List.foldl_nil]; simp [encN]
theorem foldB_bytes (id : Nat) : ∀ (k h : Nat), foldB hbyte h ((List.range k).map fun i => encN (byteAt id i)) = (List.range k).foldl (fun h i => hbyte h (byteAt id i)) h
  | 0, h => by simp [foldB]
  | k + 1, h => by rw [range_foldl, List.range_succ, List.map_append, List.map_cons, List.map_nil, foldB_snoc, foldB_bytes id k h]
theorem k_hover {h id : Nat} (hh : h < 2 ^ 64) (hid : id < 2 ^ 64) : Cl Tryz.prog 173 #[.int .u64 (h : Int), .int .u64 (id : Int), .bool true, .func (.func 174) #[] #[]] w (Gives w (.int .u64 (hadd h id : Nat))) := by
  refine c173 _ _ _ 174 [] ?_
  rintro _ w1 rfl h1 _ w2 rfl h2
  have q1 : w2.heap[w.heap.size]? = some (.cells #[.int .u64 (h : Int)] 31) := by rw [h2, h1]; exact blk_alloc (blk_new _)
  obtain ⟨t2, q2⟩ : ∃ t, w2.heap[w1.heap.size]? = some (.cells #[.func (.func 174) #[] ([] : List Value).toArray] t (0, 0)) := by rw [h2]; exact ⟨_, blk_new _⟩
  have hB2 : Below w.heap.size w w2 := by rw [h2, h1]; exact (alloc_below w _).alloc (by rw [size_alloc]; omega) _
  refine c183 _ _ ?_
  rintro _ w3 rfl h3 _ w4 rfl h4
  have q3 : w4.heap[w2.heap.size]? = some (.cells #[.int .u64 (id : Int)] 32) := by rw [h4, h3]; exact blk_alloc (blk_new _)
  have q4 : w4.heap[w3.heap.size]? = some (.cells #[.bool true] 4) := by rw [h4]; exact blk_new _
  have hB4 : Below w2.heap.size w2 w4 := by rw [h4, h3]; exact (alloc_below w2 _).alloc (by rw [size_alloc]; omega) _
  have q1' := blk_below q1 hB4 (blk_lt q1)
  have q2' := blk_below q2 hB4 (blk_lt q2)
  have hBB := hB2.trans (hB4.mono hB2.size)
  have hs1 : w1.heap.size = w.heap.size + 1 := by rw [h1, size_alloc]
  have hlt := blk_lt q2'
  have hs2 : w2.heap.size = w1.heap.size + 1 := by rw [h2, size_alloc]
  have hs3 : w3.heap.size = w2.heap.size + 1 := by rw [h3, size_alloc]
  have hs4 : w4.heap.size = w3.heap.size + 1 := by rw [h4, size_alloc]
  have hseq := seqs_hbytes1 (S := fun k => w1.heap.size ≤ k ∧ k < w4.heap.size) hid (blk_cell q4 0) (blk_cell q3 0) ⟨by show w1.heap.size ≤ w3.heap.size; omega, by show w3.heap.size < w4.heap.size; omega⟩ ⟨by show w1.heap.size ≤ w2.heap.size; omega, by show w2.heap.size < w4.heap.size; omega⟩ (fun k hk => hk.2)
  have hty : ∀ vs ∈ (List.range 8).map (fun i => encN (byteAt id i)), hasT Tryz.prog [31] vs := by
    intro vs hvs
    obtain ⟨y, _, rfl⟩ := List.mem_map.1 hvs
    exact ⟨_, rfl⟩
  have hlast : foldB hbyte h ((List.range 8).map fun i => encN (byteAt id i)) = hadd h id := foldB_bytes id 8 h
  generalize hxs : (List.range 8).map (fun i => encN (byteAt id i)) = xs at hseq hty hlast
  refine ⟨_, [_, _], rfl, xs, KS fun k => w1.heap.size ≤ k ∧ k < w4.heap.size,
    fun pre W => (foldB hbyte h pre < 2 ^ 64 ∧ W.heap[w.heap.size]? = some (.cells #[.int .u64 (foldB hbyte h pre : Nat)] 31)) ∧ (Below w.heap.size w W ∧ W.heap[w1.heap.size]? = some (.cells #[.func (.func 174) #[] ([] : List Value).toArray] t2 (0, 0))),
    fun _ _ _ => False, ⟨?_, hseq, hty, keepOk_ks (fun k hk => hk.2), ?_, fun _ => ?_, ⟨hh, q1'⟩, hBB, q2'⟩, ?_, ?_, ?_, trivial⟩
  · exact ent_of Tryz.func187 (by kernel_rfl) rfl
  · intro s W W' row hI hg hr
    obtain ⟨⟨i1, i2⟩, i3, i4⟩ := hI
    exact ⟨⟨i1, ownFrom_blk (β := Unit) () W W' row i2 hg hr⟩, ownFrom_below (β := Unit) (by omega) (Nat.le_refl _) () W W' row i3 hg hr, ownFrom_blk (β := Unit) () W W' row i4 hg hr⟩
  · intro s W W' row hI; exact hI.elim
  · rintro pre W e he hlen ⟨⟨hlt64, hb⟩, hB, hf⟩
    refine ⟨_, [], blk_cell hf 0, _, blk_cell hb 0, ?_⟩
    rw [← hxs] at he
    obtain ⟨i, _, hi⟩ := List.mem_map.1 he
    simp only [encN, List.cons.injEq, Value.int.injEq, true_and, and_true] at hi
    subst hi
    have hb64 : byteAt id i < 2 ^ 64 := Nat.lt_trans (byteAt_lt id i) (by decide)
    refine (k_hAdd1 (w := W) hlt64 hb64).is ⟨_, rfl, blk_some hb (by simp), blk_free hb _, ?_⟩
    rintro _ rfl
    have hfold : foldB hbyte h (pre ++ [[.int .u64 ((byteAt id i : Nat) : Int)]]) = hbyte (foldB hbyte h pre) (byteAt id i) := foldB_snoc hbyte h pre (byteAt id i)
    refine ⟨keepsFrom_set hb _, ⟨by simp, fun k hk => Below.heap_setCell _ _ _ _ (by show k ≠ w.heap.size; omega)⟩, ⟨?_, ?_⟩, hB.setCell (Nat.le_refl _) _, blk_far hf (by show w1.heap.size ≠ w.heap.size; omega) _⟩
    · rw [hfold]; exact hbyte_lt _ _
    · rw [hfold]; exact blk_set hb 0 _
  · rintro D W hD ⟨⟨_, hb⟩, hB, _⟩ hd
    refine ⟨_, blk_cell hb 0, hd, ?_⟩
    rintro _ rfl
    exact ⟨by rw [hlast], hB.trans ((Below.refl _ _).grown (grownBy_putObj' _ D _) hB.size (fun k e => by cases e; omega))⟩
  · intro D pre W _ _ hx; exact hx.elim
theorem k_hAdd {h id : Nat} (hh : h < 2 ^ 64) (hid : id < 2 ^ 64) : Cl Tryz.prog 170 #[.int .u64 (h : Int), .int .u64 (id : Int)] w (Gives w (.int .u64 (hadd h id : Nat))) :=
  c170 _ _ ((k_hover hh hid).gives fun w' hB => ⟨_, rfl, rfl, hB⟩)
theorem k_hOf (h : Row encId w a n c l) (hr : Rng l) : Cl Tryz.prog 163 #[.slice a n c] w (Gives w (.int .u64 (hof (nats l) : Nat))) := by
  have e1 := h.len; have e3 := h.n63
  refine c163 _ _ _ ⟨fun h2 i w' => Below w.heap.size w w' ∧ ∃ k : Nat, i = k ∧ k ≤ n ∧ h2 = ((hof (nats (l.take k)) : Nat) : Int), fun _ i _ => n - i.toNat, ⟨Below.refl _ _, 0, rfl, by omega, by rw [List.take_zero, show nats [] = [] from rfl, hof_nil]; rfl⟩, ?_⟩
  rintro _ w1 _ _ ⟨hB, k, rfl, hk, rfl⟩
  refine cnd (fun hc => ?_) fun hc => ?_
  · have hkn : k < n := by simpa using hc
    refine (h.below hB).idN hkn fun hl => ?_
    obtain ⟨r1, r2⟩ := hr _ (List.getElem_mem hl)
    have ex : l[k] = ((l[k].toNat : Nat) : Int) := by omega
    rw [ex]
    refine (k_hAdd (w := w1) (hof_lt _) (by omega)).gives fun w2 hB2 => ⟨_, rfl, ?_⟩
    rw [nx (by omega)]
    refine ⟨⟨hB.trans (hB2.mono hB.size), k + 1, rfl, by omega, ?_⟩, dec hkn⟩
    rw [take_one hl, nats_snoc, hof_snoc]
  · have hkn : ¬ k < n := by simpa using hc
    exact ⟨by rw [take_all (by omega)], hB⟩
/-- The slot so many turns from a hash's. -/
def probe (h many turn : Nat) : Nat := (h % many + turn % many) % many
theorem k_hSlot {h many : Nat} (hh : h < 2 ^ 64) (hm : 0 < many) (hmx : many ≤ 1099511627776) : Cl Tryz.prog 171 #[.int .u64 (h : Int), .int .i64 (many : Int)] w (Is (.tuple #[.int .i64 ((h % many : Nat) : Int), .int .i64 0]) w) := by
  have e0 : IntKind.u64.wrap (many : Int) = (many : Int) := wrapu (by omega) (by omega)
  have h1 : h % many < many := Nat.mod_lt _ hm
  refine c171 _ _ (cnd (fun hc => ?_) fun _ => cnd (fun hc => ?_) fun _ => ⟨?_, rfl⟩)
  · exact absurd (of_decide_eq_true hc) (by omega)
  · exact absurd (of_decide_eq_true hc) (by rw [e0]; omega)
  · rw [e0, tmodN, wrap64 (by omega) (by omega)]
theorem k_hProbe {h many turn : Nat} (hh : h < 2 ^ 64) (hm : 0 < many) (hmx : many ≤ 1099511627776) : Cl Tryz.prog 164 #[.int .u64 (h : Int), .int .i64 (many : Int), .int .i64 (turn : Int)] w (Is (.tuple #[.int .i64 ((probe h many turn : Nat) : Int), .int .i64 0]) w) := by
  have h1 : h % many < many := Nat.mod_lt _ hm
  have h2 : turn % many < many := Nat.mod_lt _ hm
  refine c164 _ _ _ ((k_hSlot hh hm hmx).is ⟨_, _, rfl, ?_⟩)
  refine cnd (fun hc => by cases hc) fun _ => cnd (fun hc => ?_) fun _ => cnd (fun hc => ?_) fun _ => cnd (fun hc => ?_) fun _ => cnd (fun hc => ?_) fun _ => ⟨?_, rfl⟩
  · exact absurd (of_decide_eq_true hc) (by omega)
  · exact absurd (of_decide_eq_true hc) (by omega)
  · exact absurd (of_decide_eq_true hc) (by omega)
  · exact absurd (of_decide_eq_true hc) (by omega)
  · rw [tmodN, ← Int.natCast_add, wrap64 (by omega) (by omega), tmodN]; rfl
end
end Go.Eng
namespace Go.Eng
open Go Go.RowKit
theorem Row.atK {α : Type} {enc : α → List Value} {k : Nat} (E : En enc k) {w : World} {a : Option Addr} {n c : Nat} {l : List α} (h : Row enc w a n c l) {i : Nat} (hi : i < n) :
    ∃ (hl : i < l.length) (p : Addr), a = some p ∧ ∀ j, j < k → w.cell? ((p.add ((i : Int).toNat * k)).add j) = (enc l[i])[j]? := by
  have hl : i < l.length := by have := h.len; omega
  obtain ⟨p, hp, hc⟩ := h.rd.get E.len hl
  exact ⟨hl, p, hp, by simpa using hc⟩
section
variable {w : World} {a : Option Addr} {n c : Nat}
theorem Row.entN {l : List REnt} (h : Row encEnt w a n c l) {i : Nat} {K : Int → Option Addr → Nat → Nat → Int → Prop} (hi : i < n) (hK : ∀ hl : i < l.length, K l[i].st l[i].ty.a l[i].ty.n l[i].ty.c l[i].num) :
    ∃ p : Addr, a = some p ∧ 0 ≤ (i : Int) ∧ (i : Int) < (n : Int) ∧ ∃ (x : Int) (ya : Option Addr) (yn yc : Nat) (z : Int),
      w.cell? (p.add ((i : Int).toNat * 3)) = some (.int .i64 x) ∧ w.cell? ((p.add ((i : Int).toNat * 3)).add 1) = some (.slice ya yn yc) ∧ w.cell? ((p.add ((i : Int).toNat * 3)).add 2) = some (.int .i64 z) ∧ K x ya yn yc z := by
  obtain ⟨hl, p, hp, hc⟩ := h.atK enEnt hi
  exact ⟨p, hp, by omega, by omega, _, _, _, _, _, hc 0 (by decide), hc 1 (by decide), hc 2 (by decide), hK hl⟩
theorem Row.entSt {l : List REnt} (h : Row encEnt w a n c l) {i : Nat} {K : Int → Prop} (hi : i < n) (hK : ∀ hl : i < l.length, K l[i].st) :
    ∃ p : Addr, a = some p ∧ 0 ≤ (i : Int) ∧ (i : Int) < (n : Int) ∧ ∃ x : Int, w.cell? (p.add ((i : Int).toNat * 3)) = some (.int .i64 x) ∧ K x := by
  obtain ⟨hl, p, hp, hc⟩ := h.atK enEnt hi
  exact ⟨p, hp, by omega, by omega, _, hc 0 (by decide), hK hl⟩
theorem Row.entTy {l : List REnt} (h : Row encEnt w a n c l) {i : Nat} {K : Option Addr → Nat → Nat → Prop} (hi : i < n) (hK : ∀ hl : i < l.length, K l[i].ty.a l[i].ty.n l[i].ty.c) :
    ∃ p : Addr, a = some p ∧ 0 ≤ (i : Int) ∧ (i : Int) < (n : Int) ∧ ∃ (ya : Option Addr) (yn yc : Nat), w.cell? ((p.add ((i : Int).toNat * 3)).add 1) = some (.slice ya yn yc) ∧ K ya yn yc := by
  obtain ⟨hl, p, hp, hc⟩ := h.atK enEnt hi
  exact ⟨p, hp, by omega, by omega, _, _, _, hc 1 (by decide), hK hl⟩
theorem Row.entNum {l : List REnt} (h : Row encEnt w a n c l) {i : Nat} {K : Int → Prop} (hi : i < n) (hK : ∀ hl : i < l.length, K l[i].num) :
    ∃ p : Addr, a = some p ∧ 0 ≤ (i : Int) ∧ (i : Int) < (n : Int) ∧ ∃ x : Int, w.cell? ((p.add ((i : Int).toNat * 3)).add 2) = some (.int .i64 x) ∧ K x := by
  obtain ⟨hl, p, hp, hc⟩ := h.atK enEnt hi
  exact ⟨p, hp, by omega, by omega, _, hc 2 (by decide), hK hl⟩
theorem Row.stpN {l : List Stp} (h : Row encStp w a n c l) {i : Nat} {K : Int → Int → Prop} (hi : i < n) (hK : ∀ hl : i < l.length, K l[i].1 l[i].2) :
    ∃ p : Addr, a = some p ∧ 0 ≤ (i : Int) ∧ (i : Int) < (n : Int) ∧ ∃ (x y : Int), w.cell? (p.add ((i : Int).toNat * 2)) = some (.int .u64 x) ∧ w.cell? ((p.add ((i : Int).toNat * 2)).add 1) = some (.int .i64 y) ∧ K x y := by
  obtain ⟨hl, p, hp, hc⟩ := h.atK enStp hi
  exact ⟨p, hp, by omega, by omega, _, _, hc 0 (by decide), hc 1 (by decide), hK hl⟩
theorem Row.nodeUsed {l : List RNode} (h : Row encNode w a n c l) {i : Nat} {K : Bool → Prop} (hi : i < n) (hK : ∀ hl : i < l.length, K l[i].used) :
    ∃ p : Addr, a = some p ∧ 0 ≤ (i : Int) ∧ (i : Int) < (n : Int) ∧ ∃ x : Bool, w.cell? (p.add ((i : Int).toNat * 4)) = some (.bool x) ∧ K x := by
  obtain ⟨hl, p, hp, hc⟩ := h.atK enNode hi
  exact ⟨p, hp, by omega, by omega, _, hc 0 (by decide), hK hl⟩
theorem Row.nodeTy {l : List RNode} (h : Row encNode w a n c l) {i : Nat} {K : Option Addr → Nat → Nat → Prop} (hi : i < n) (hK : ∀ hl : i < l.length, K l[i].ty.a l[i].ty.n l[i].ty.c) :
    ∃ p : Addr, a = some p ∧ 0 ≤ (i : Int) ∧ (i : Int) < (n : Int) ∧ ∃ (ya : Option Addr) (yn yc : Nat), w.cell? ((p.add ((i : Int).toNat * 4)).add 1) = some (.slice ya yn yc) ∧ K ya yn yc := by
  obtain ⟨hl, p, hp, hc⟩ := h.atK enNode hi
  exact ⟨p, hp, by omega, by omega, _, _, _, hc 1 (by decide), hK hl⟩
theorem Row.nodeN {l : List RNode} (h : Row encNode w a n c l) {i : Nat} {K : Bool → Option Addr → Nat → Nat → Option Addr → Nat → Nat → Option Addr → Nat → Nat → Prop} (hi : i < n)
    (hK : ∀ hl : i < l.length, K l[i].used l[i].ty.a l[i].ty.n l[i].ty.c l[i].plus.a l[i].plus.n l[i].plus.c l[i].less.a l[i].less.n l[i].less.c) :
    ∃ p : Addr, a = some p ∧ 0 ≤ (i : Int) ∧ (i : Int) < (n : Int) ∧ ∃ (x : Bool) (ya : Option Addr) (yn yc : Nat) (ua : Option Addr) (un uc : Nat) (va : Option Addr) (vn vc : Nat),
      w.cell? (p.add ((i : Int).toNat * 4)) = some (.bool x) ∧ w.cell? ((p.add ((i : Int).toNat * 4)).add 1) = some (.slice ya yn yc) ∧ w.cell? ((p.add ((i : Int).toNat * 4)).add 2) = some (.slice ua un uc) ∧ w.cell? ((p.add ((i : Int).toNat * 4)).add 3) = some (.slice va vn vc) ∧
      K x ya yn yc ua un uc va vn vc := by
  obtain ⟨hl, p, hp, hc⟩ := h.atK enNode hi
  exact ⟨p, hp, by omega, by omega, _, _, _, _, _, _, _, _, _, _, hc 0 (by decide), hc 1 (by decide), hc 2 (by decide), hc 3 (by decide), hK hl⟩
end
/-- A number of 64 bits, signed. -/
def I64 (x : Int) : Prop := -9223372036854775808 ≤ x ∧ x < 9223372036854775808
/-- Element by element. -/
def All2 {α β : Type} (R : α → β → Prop) (l : List α) (l' : List β) : Prop := l.length = l'.length ∧ ∀ i (h : i < l.length) (h' : i < l'.length), R l[i] l'[i]
theorem All2.mono {α β : Type} {R R' : α → β → Prop} {l : List α} {l' : List β} (h : All2 R l l') (hr : ∀ x y, R x y → R' x y) : All2 R' l l' := ⟨h.1, fun i h1 h2 => hr _ _ (h.2 i h1 h2)⟩
theorem All2.nil {α β : Type} {R : α → β → Prop} : All2 R ([] : List α) ([] : List β) := ⟨rfl, fun i h => by simp at h⟩
theorem All2.take {α β : Type} {R : α → β → Prop} {l : List α} {l' : List β} (h : All2 R l l') (k : Nat) : All2 R (l.take k) (l'.take k) :=
  ⟨by simp [h.1], fun i h1 h2 => by simp at h1 h2; simpa using h.2 i (by omega) (by omega)⟩
structure IsEnt (w : World) (r : REnt) (e : Entry) : Prop where
  st : r.st = e.st
  num : r.num = e.num
  ty : Row encId w r.ty.a r.ty.n r.ty.c e.ty
  rng : Rng e.ty ∧ I64 e.st ∧ I64 e.num
structure IsNode (w : World) (r : RNode) (x : Node) : Prop where
  used : r.used = x.used
  ty : Row encId w r.ty.a r.ty.n r.ty.c x.ty
  plus : Row encStp w r.plus.a r.plus.n r.plus.c x.plus
  less : Row encStp w r.less.a r.less.n r.less.c x.less
  rng : Rng x.ty ∧ (∀ s ∈ x.plus ++ x.less, 0 ≤ s.1 ∧ s.1 < 18446744073709551616 ∧ I64 s.2)
def Ents (w : World) (a : Option Addr) (n c : Nat) (l : List Entry) : Prop := ∃ rs, Row encEnt w a n c rs ∧ All2 (IsEnt w) rs l
def Nodes (w : World) (a : Option Addr) (n c : Nat) (l : List Node) : Prop := ∃ rs, Row encNode w a n c rs ∧ All2 (IsNode w) rs l
theorem IsEnt.below {w w' : World} {r : REnt} {e : Entry} (h : IsEnt w r e) (hB : Below w.heap.size w w') : IsEnt w' r e := ⟨h.st, h.num, h.ty.below hB, h.rng⟩
theorem IsNode.below {w w' : World} {r : RNode} {e : Node} (h : IsNode w r e) (hB : Below w.heap.size w w') : IsNode w' r e := ⟨h.used, h.ty.below hB, h.plus.below hB, h.less.below hB, h.rng⟩
theorem Ents.below {w w' : World} {a : Option Addr} {n c : Nat} {l : List Entry} (h : Ents w a n c l) (hB : Below w.heap.size w w') : Ents w' a n c l := by
  obtain ⟨rs, h1, h2⟩ := h; exact ⟨rs, h1.below hB, h2.mono fun _ _ h => h.below hB⟩
theorem Nodes.below {w w' : World} {a : Option Addr} {n c : Nat} {l : List Node} (h : Nodes w a n c l) (hB : Below w.heap.size w w') : Nodes w' a n c l := by
  obtain ⟨rs, h1, h2⟩ := h; exact ⟨rs, h1.below hB, h2.mono fun _ _ h => h.below hB⟩
end Go.Eng
namespace Go.Eng
open Go Go.RowKit Go.Proofs
set_option maxRecDepth 10000
theorem probe_lt {h many turn : Nat} (hm : 0 < many) : probe h many turn < many := Nat.mod_lt _ hm
/-- A slot. -/
def slot (l : List Entry) (k : Nat) : Entry := l.getD k default
theorem slot_eq {l : List Entry} {k : Nat} (h : k < l.length) : slot l k = l[k] := by simp [slot, h]
/-- A type's hash. -/
def hashT (t : List Int) : Nat := hof (nats t)
/-- A type stands in a slot, all those ahead of it, from its hash's slot on, being not free. -/
def FoundP (l : List Entry) (t : List Int) (at_ : Int) : Prop :=
  ∃ k, k < l.length ∧ ((probe (hashT t) l.length k : Nat) : Int) = at_ ∧ (∀ u, u < k → ((probe (hashT t) l.length u : Nat) : Int) ≠ at_ ∧ (slot l (probe (hashT t) l.length u)).st ≠ 0) ∧
    (slot l (probe (hashT t) l.length k)).st = 1 ∧ (slot l (probe (hashT t) l.length k)).ty = t
end Go.Eng
namespace Go.Eng
open Go Go.RowKit Go.Proofs
set_option maxRecDepth 10000
theorem Row.ks {α : Type} {enc : α → List Value} {w w' : World} {a : Option Addr} {n c : Nat} {l : List α} {S : Nat → Prop} (h : Row enc w a n c l) (hk : KS S w w') (hs : l ≠ [] → ∀ p, a = some p → S p.block) : Row enc w' a n c l := by
  by_cases hl : l = []
  · subst hl; exact ⟨⟨h.rd.1, .inl rfl⟩, h.le, h.nil, h.max⟩
  · exact ⟨h.rd.keep fun p hp _ => hk.2 _ (hs hl p hp), h.le, h.nil, h.max⟩
theorem Row.block_lt {α : Type} {enc : α → List Value} {k : Nat} (E : En enc k) (hk : 0 < k) {w : World} {a : Option Addr} {n c : Nat} {l : List α} (h : Row enc w a n c l) (hl : l ≠ []) : ∀ p, a = some p → p.block < w.heap.size := by
  intro p hp
  have h0 : 0 < l.length := List.length_pos_iff.2 hl
  obtain ⟨hl', q, hq, hc⟩ := h.atK E (i := 0) (by have := h.len; omega)
  rw [hp] at hq; cases hq
  have h1 := hc 0 hk
  rw [List.getElem?_eq_getElem (by rw [E.len]; exact hk)] at h1
  have := World.block_lt_of_cell? w _ h1
  simpa [add_block] using this
def rslot (rs : List REnt) (k : Nat) : REnt := rs.getD k default
theorem rslot_eq {l : List REnt} {k : Nat} (h : k < l.length) : rslot l k = l[k] := by simp [rslot, h]
/-- What a turn yields. -/
def turnV (rs : List REnt) (i : Nat) : List Value := [.int .i64 (i : Int), .agg (encEnt (rslot rs i)).toArray]
def turnsV (rs : List REnt) (H : Nat) : List (List Value) := (List.range rs.length).map fun k => turnV rs (probe H rs.length k)
section
variable {w : World} {a b : Option Addr} {n c m d : Nat} {l : List Entry} {t : List Int} {rs : List REnt}
theorem seqs_lturns1 {c0 c1 : Addr} (h0 : w.cell? c0 = some (.slice b m d)) (ht : Row encId w b m d t) (hr : Rng t) (h1 : w.cell? c1 = some (.slice a n c)) (h : Row encEnt w a n c rs) (hn : n ≤ 1048576)
    {S : Nat → Prop} (s1 : S c1.block) (s2 : rs ≠ [] → ∀ p, a = some p → S p.block) (hS : ∀ k, S k → k < w.heap.size) :
    Seqs Tryz.prog 162 [.pointer (some c0), .pointer (some c1)] (turnsV rs (hashT t)) (KS S) w := by
  obtain rfl : n = rs.length := h.len
  have hlen : (turnsV rs (hashT t)).length = rs.length := by simp [turnsV]
  refine seqs_of fun k J Jx W hW hJ hJx hy hJ0 => ?_
  have hO : Cl Tryz.prog 163 #[.slice b m d] W (Gives W (.int .u64 (hashT t : Nat))) := k_hOf (ht.below hW) hr
  have hh : hashT t < 2 ^ 64 := hof_lt (nats t)
  refine c162 _ _ _ ⟨_, _, _, cell_below h0 hW, hO.gives fun w1 hB1 => ⟨_, rfl, _, _, _, cell_below h1 (hW.trans (hB1.mono hW.size)), ?_⟩⟩
  refine ⟨fun i W' => KS S w W' ∧ ∃ k : Nat, i = k ∧ k ≤ rs.length ∧ J ((turnsV rs (hashT t)).take k) W', fun i _ => rs.length - i.toNat, ⟨KS.of_below (hW.trans (hB1.mono hW.size)) hS, 0, rfl, by omega, by simpa using hJ _ _ _ hJ0 hB1⟩, ?_⟩
  rintro _ w2 _ ⟨hB2, k, rfl, hk, hj⟩
  refine cnd (fun hc => ?_) fun hc => ?_
  · have hkn : k < rs.length := by simpa using hc
    have hpl := probe_lt (h := hashT t) (turn := k) (show 0 < rs.length by omega)
    refine ⟨_, _, _, hB2.cell s1 h1, (k_hProbe hh (by omega) (by omega)).is ⟨_, _, rfl, cnd (fun hc => by cases hc) fun _ => ⟨_, _, _, hB2.cell s1 h1, (h.ks hB2 s2).entN hpl fun hl => ?_⟩⟩⟩
    have hk' : k < (turnsV rs (hashT t)).length := by omega
    have hget : (turnsV rs (hashT t))[k] = turnV rs (probe (hashT t) rs.length k) := by simp [turnsV]
    have hnext : (turnsV rs (hashT t)).take (k + 1) = (turnsV rs (hashT t)).take k ++ [turnV rs (probe (hashT t) rs.length k)] := by rw [take_one hk', hget]
    have hval : turnV rs (probe (hashT t) rs.length k) = [.int .i64 ((probe (hashT t) rs.length k : Nat) : Int), .agg #[.int .i64 (rs[probe (hashT t) rs.length k]).st, .slice (rs[probe (hashT t) rs.length k]).ty.a (rs[probe (hashT t) rs.length k]).ty.n (rs[probe (hashT t) rs.length k]).ty.c, .int .i64 (rs[probe (hashT t) rs.length k]).num]] := by
      simp only [turnV, rslot_eq hl]; rfl
    rw [← hval]
    refine (hy _ _ w2 ?_ hj ?_).mono fun y W' hyy => ?_
    · rw [← hget]; exact List.getElem_mem _
    · simp [hlen]; omega
    · refine cnd (fun h5 => .inr ?_) fun h5 => ?_
      · have : y = false := by simpa using h5
        subst this
        exact ⟨_, by rw [← hnext]; exact List.take_prefix _ _, hyy⟩
      · have : y = true := by simpa using h5
        subst this
        rw [nx (by have := h.n63; omega)]
        exact ⟨⟨hB2.trans hyy.2, k + 1, rfl, by omega, by rw [hnext]; exact hyy.1⟩, dec hkn⟩
  · have hkn : ¬ k < rs.length := by simpa using hc
    rw [take_all (by omega)] at hj
    exact .inl hj
end
end Go.Eng
namespace Go.Eng
open Go Go.RowKit Go.Proofs
set_option maxRecDepth 10000
/-- Where the turns of a type end. -/
def stops (t : List Int) (e : Entry) : Bool := e.st == 0 || (e.st == 1 && e.ty == t)
def stopAt (l : List Entry) (t : List Int) (k : Nat) : Bool := stops t (slot l (probe (hashT t) l.length k))
/-- The slot of a type; -1: it has none. -/
def place (l : List Entry) (t : List Int) : Int :=
  match (List.range l.length).find? (stopAt l t) with
  | none => -1
  | some k => if (slot l (probe (hashT t) l.length k)).st = 1 then ((probe (hashT t) l.length k : Nat) : Int) else -1
theorem turnV_inj {rs : List REnt} {i j : Nat} (h : turnV rs i = turnV rs j) : i = j := by
  simp only [turnV, List.cons.injEq, Value.int.injEq, true_and, and_true] at h
  omega
theorem turnV_eq {rs : List REnt} {i : Nat} (hi : i < rs.length) : turnV rs i = [.int .i64 (i : Int), .agg #[.int .i64 rs[i].st, .slice rs[i].ty.a rs[i].ty.n rs[i].ty.c, .int .i64 rs[i].num]] := by
  simp only [turnV, rslot_eq hi]; rfl
section
variable {w : World} {a b : Option Addr} {n c m d : Nat} {l : List Entry} {t : List Int}
theorem k_lplace (h : Ents w a n c l) (ht : Row encId w b m d t) (hr : Rng t) (hn : n ≤ 1048576) :
    Cl Tryz.prog 107 #[.agg #[.slice a n c], .slice b m d] w (Gives w (.int .i64 (place l t))) := by
  refine c107 _ _ _ _ _ _ ?_
  obtain ⟨rs, hrow, hall⟩ := h
  have el := hall.1
  obtain rfl : n = rs.length := hrow.len
  rintro _ w1 rfl h1 _ w2 rfl h2 _ w3 rfl h3
  have z1 : w1.heap.size = w.heap.size + 1 := by rw [h1, size_alloc]
  have z2 : w2.heap.size = w1.heap.size + 1 := by rw [h2, size_alloc]
  have z3 : w3.heap.size = w2.heap.size + 1 := by rw [h3, size_alloc]
  have p1 : w3.heap[w.heap.size]? = some (.cells #[.slice a rs.length c] 25) := by rw [h3, h2, h1]; exact blk_alloc (blk_alloc (blk_new _))
  have p2 : w3.heap[w1.heap.size]? = some (.cells #[.slice b m d] 33) := by rw [h3, h2]; exact blk_alloc (blk_new _)
  have p3 : w3.heap[w2.heap.size]? = some (.cells #[.int .i64 0] 3) := by rw [h3]; exact blk_new _
  have B3 : Below w.heap.size w w3 := by rw [h3, h2, h1]; exact ((alloc_below w _).alloc (by rw [size_alloc]; omega) _).alloc (by rw [size_alloc, size_alloc]; omega) _
  refine ⟨blk_some p3 (by decide), blk_free p3 _, ?_⟩
  rintro w4 h4
  have q1 : w4.heap[w.heap.size]? = some (.cells #[.slice a rs.length c] 25) := by rw [h4]; exact blk_far p1 (by show w.heap.size ≠ w2.heap.size; omega) _
  have q2 : w4.heap[w1.heap.size]? = some (.cells #[.slice b m d] 33) := by rw [h4]; exact blk_far p2 (by show w1.heap.size ≠ w2.heap.size; omega) _
  have q3 : w4.heap[w2.heap.size]? = some (.cells #[.int .i64 (-1)] 3) := by rw [h4]; exact blk_set p3 0 _
  have B4 : Below w.heap.size w w4 := by rw [h4]; exact B3.setCell (by show w.heap.size ≤ w2.heap.size; omega) _
  have z4 : w4.heap.size = w3.heap.size := by rw [h4, size_set]
  clear h4 p1 p2 p3 h3 h2 h1
  refine ⟨_, _, _, blk_cell q1 0, _, _, _, blk_cell q2 0, ?_⟩
  refine c143 _ _ _ _ _ _ ?_
  rintro _ w5 rfl h5 _ w6 rfl h6
  have z5 : w5.heap.size = w4.heap.size + 1 := by rw [h5, size_alloc]
  have z6 : w6.heap.size = w5.heap.size + 1 := by rw [h6, size_alloc]
  have r4 : w6.heap[w4.heap.size]? = some (.cells #[.slice a rs.length c] 25) := by rw [h6, h5]; exact blk_alloc (blk_new _)
  have r5 : w6.heap[w5.heap.size]? = some (.cells #[.slice b m d] 33) := by rw [h6]; exact blk_new _
  have B46 : Below w4.heap.size w4 w6 := by rw [h6, h5]; exact (alloc_below w4 _).alloc (by rw [size_alloc]; omega) _
  have r2 := blk_below q2 B46 (blk_lt q2)
  have r3 := blk_below q3 B46 (blk_lt q3)
  have B6 : Below w.heap.size w w6 := B4.trans (B46.mono B4.size)
  clear h5 h6 B46 q1 q2 q3
  have hseq := seqs_lturns1 (S := fun k => k < w.heap.size ∨ k = w4.heap.size) (blk_cell r5 0) (ht.below B6) hr (blk_cell r4 0) (hrow.below B6) hn (.inr rfl) (fun hne p hp => .inl (hrow.block_lt enEnt (by decide) hne p hp)) (fun k hk => by omega)
  have hxl : (turnsV rs (hashT t)).length = rs.length := by simp [turnsV]
  have hxg : ∀ k (hk : k < (turnsV rs (hashT t)).length), (turnsV rs (hashT t))[k] = turnV rs (probe (hashT t) rs.length k) := by intro k hk; simp [turnsV]
  refine ⟨_, [_, _], rfl, turnsV rs (hashT t), KS fun k => k < w.heap.size ∨ k = w4.heap.size,
    fun pre W => (((∀ v ∈ pre, ∀ i, i < rs.length → v = turnV rs i → stops t (slot l i) = false) ∧ W.heap[w2.heap.size]? = some (.cells #[.int .i64 (-1)] 3)) ∧ W.heap[w1.heap.size]? = some (.cells #[.slice b m d] 33)) ∧ Below w.heap.size w6 W,
    fun e pre W => match e with
      | none => False
      | some _ => ∃ q i, (((pre = q ++ [turnV rs i] ∧ i < rs.length ∧ (∀ v ∈ q, ∀ j, j < rs.length → v = turnV rs j → stops t (slot l j) = false) ∧ stops t (slot l i) = true) ∧
          W.heap[w2.heap.size]? = some (.cells #[.int .i64 (if (slot l i).st = 1 then (i : Int) else -1)] 3)) ∧ Below w.heap.size w6 W),
    ⟨?_, hseq, ?_, keepOk_ks (fun k hk => by omega), ?_, ?_, ⟨⟨by simp, r3⟩, r2⟩, Below.refl _ _⟩, ?_, ?_, ?_, ?_⟩
  · exact ent_of Tryz.func162 (by kernel_rfl) rfl
  · intro vs hvs
    obtain ⟨k, _, rfl⟩ := List.mem_map.1 hvs
    exact ⟨_, _, _, _, _, _, rfl⟩
  · exact ((ownFrom_const.and ownFrom_blk).and ownFrom_blk).and (ownFrom_below (by omega) (by omega))
  · intro e s W W' row hI hg hrw
    cases e with
    | none => exact hI
    | some x =>
      obtain ⟨q, i, ⟨i1, i2⟩, i3⟩ := hI
      exact ⟨q, i, ⟨i1, ownFrom_blk (β := Unit) () W W' row i2 hg hrw⟩, ownFrom_below (β := Unit) (by omega) (by omega) () W W' row i3 hg hrw⟩
  · -- a round
    rintro pre W e e2 e3a e3n e3c e4 he ⟨⟨⟨hpass, hfd⟩, htb⟩, hB⟩
    obtain ⟨k, hk, hek⟩ := List.mem_iff_getElem.1 he
    rw [hxg k hk] at hek
    have hi : probe (hashT t) rs.length k < rs.length := probe_lt (by omega)
    generalize hI : probe (hashT t) rs.length k = i at hek hi
    have hent := hall.2 i hi (by omega)
    have hsl : slot l i = l[i]'(by omega) := slot_eq _
    rw [turnV_eq hi] at hek
    have hek' : (i : Int) = e ∧ rs[i].st = e2 ∧ (rs[i].ty.a = e3a ∧ rs[i].ty.n = e3n ∧ rs[i].ty.c = e3c) ∧ rs[i].num = e4 := by simpa using hek
    obtain ⟨rfl, rfl, ⟨rfl, rfl, rfl⟩, rfl⟩ := hek'
    have hval : ([.int .i64 (i : Int), .agg #[.int .i64 rs[i].st, .slice rs[i].ty.a rs[i].ty.n rs[i].ty.c, .int .i64 rs[i].num]] : List Value) = turnV rs i := (turnV_eq hi).symm
    rw [hval]
    rintro b4 w7 hb4 h7
    have s7 : w7.heap[b4]? = some (.cells #[.int .i64 0, .slice none 0 0, .int .i64 0] 94) := by rw [h7, hb4]; exact blk_new _
    refine ⟨blk_some s7 (by decide), blk_free s7 _, blk_some s7 (j := 1) (by decide), blk_free s7 1, blk_some s7 (j := 2) (by decide), blk_free s7 2, ?_⟩
    rintro w8 h8
    have s8 : w8.heap[b4]? = some (.cells #[.int .i64 rs[i].st, .slice rs[i].ty.a rs[i].ty.n rs[i].ty.c, .int .i64 rs[i].num] 94) := by
      rw [h8]; exact blk_set (blk_set (blk_set s7 0 _) 1 _) 2 _
    have B8 : Below W.heap.size W w8 := by
      subst h8; subst h7; subst hb4
      exact (((alloc_below W _).setCell (Nat.le_refl _) _).setCell (Nat.le_refl _) _).setCell (Nat.le_refl _) _
    have hWs : w6.heap.size ≤ W.heap.size := hB.size
    refine ⟨keepsFrom_below B8, KS.of_below B8 (fun k hk => by omega), ⟨⟨⟨hpass, blk_below hfd B8 (blk_lt hfd)⟩, blk_below htb B8 (blk_lt htb)⟩, hB.trans (B8.mono (by have := hB.size; omega))⟩, ?_⟩
    rintro pre2 w9 hnc hlen ⟨⟨⟨hpass2, hfd2⟩, htb2⟩, hB9⟩
    have s9 := hnc.blk s8
    have Bw9 : Below w.heap.size w w9 := B6.trans hB9
    refine ⟨_, blk_cell s9 0, cnd (fun hc => ?_) fun hc => ⟨_, blk_cell s9 0, cnd (fun hc2 => ?_) fun hc2 => ?_⟩⟩
    · have hst : (slot l i).st = 0 := by rw [hsl, ← hent.st]; simpa using hc
      exact ⟨KeepsFrom.refl _ _, pre2, i, ⟨⟨rfl, hi, hpass2, by simp [stops, hst]⟩, by simpa [hst] using hfd2⟩, hB9⟩
    · have hst : (slot l i).st = 1 := by rw [hsl, ← hent.st]; simpa using hc2
      refine ⟨_, _, _, blk_cell s9 1, _, _, _, blk_cell htb2 0, (k_EqIds (hent.ty.below Bw9) (ht.below Bw9)).tells fun w10 hq => ⟨_, rfl, cnd (fun hc3 => ?_) fun hc3 => ?_⟩⟩
      · have hty : (slot l i).ty = t := by rw [hsl]; simpa using hc3
        have f10 := blk_below hfd2 (hq.below _) (blk_lt hfd2)
        refine ⟨blk_some f10 (by decide), blk_free f10 _, ?_⟩
        rintro _ rfl
        exact ⟨(keepsFrom_below (hq.below _)).trans (keepsFrom_set f10 _), pre2, i, ⟨⟨rfl, hi, hpass2, by simp [stops, hst, hty]⟩, by simpa [hst] using blk_set f10 0 (.int .i64 (i : Int))⟩, (hB9.trans (hq.below _)).setCell (by show w.heap.size ≤ w2.heap.size; omega) _⟩
      · have hty : (slot l i).ty ≠ t := by rw [hsl]; simpa using hc3
        refine ⟨keepsFrom_below (hq.below _), KS.of_below (hq.below w9.heap.size) (fun k hk => by have := hB9.size; omega), ⟨⟨⟨?_, blk_below hfd2 (hq.below _) (blk_lt hfd2)⟩, blk_below htb2 (hq.below _) (blk_lt htb2)⟩, hB9.trans (hq.below _)⟩⟩
        intro v hv j hj hvj
        rcases List.mem_append.1 hv with hv | hv
        · exact hpass2 v hv j hj hvj
        · simp only [List.mem_singleton] at hv
          subst hv
          obtain rfl := turnV_inj hvj
          simp [stops, hst, hty]
    · refine ⟨KeepsFrom.refl _ _, KS.refl _ _, ⟨⟨⟨?_, hfd2⟩, htb2⟩, hB9⟩⟩
      intro v hv j hj hvj
      rcases List.mem_append.1 hv with hv | hv
      · exact hpass2 v hv j hj hvj
      · simp only [List.mem_singleton] at hv
        subst hv
        obtain rfl := turnV_inj hvj
        have g1 : (slot l i).st ≠ 0 := by rw [hsl, ← hent.st]; simpa using hc
        have g2 : (slot l i).st ≠ 1 := by rw [hsl, ← hent.st]; simpa using hc2
        simp [stops, g1, g2]
  · -- the end
    rintro D W hD ⟨⟨⟨hpass, hfd⟩, htb⟩, hB⟩ hd
    refine ⟨_, blk_cell hfd 0, hd, ?_⟩
    rintro _ rfl
    refine ⟨?_, (B6.trans hB).trans ((Below.refl _ _).grown (grownBy_putObj' _ D _) (by have := hB.size; omega) (fun k e => by cases e; omega))⟩
    have : (List.range l.length).find? (stopAt l t) = none := by
      rw [List.find?_eq_none]
      intro k hk
      have hk' : k < rs.length := by have := List.mem_range.1 hk; omega
      have := hpass (turnV rs (probe (hashT t) rs.length k)) (by rw [← hxg k (by omega)]; exact List.getElem_mem _) _ (probe_lt (by omega)) rfl
      simp [stopAt, ← el, this]
    simp [place, this]
  · intro D pre W _ _ hx; exact hx.elim
  · -- the way out
    rintro D pre W hD hpre ⟨q, i, ⟨⟨rfl, hi, hpass, hstop⟩, hfd⟩, hB⟩ hd
    refine ⟨_, blk_cell hfd 0, hd, ?_⟩
    rintro _ rfl
    refine ⟨?_, (B6.trans hB).trans ((Below.refl _ _).grown (grownBy_putObj' _ D _) (by have := hB.size; omega) (fun k e => by cases e; omega))⟩
    have hql : q.length < (turnsV rs (hashT t)).length := by have := hpre.length_le; simp at this; omega
    have hqi : probe (hashT t) rs.length q.length = i := by
      have h1 := hpre.getElem (i := q.length) (by simp)
      rw [hxg _ hql] at h1
      simp only [List.getElem_append_right (Nat.le_refl _), Nat.sub_self, List.getElem_cons_zero] at h1
      exact (turnV_inj h1).symm
    have : (List.range l.length).find? (stopAt l t) = some q.length := by
      rw [List.find?_range_eq_some]
      refine ⟨by simp only [stopAt, ← el, hqi]; exact hstop, by simp; omega, fun j hj => ?_⟩
      have hjq : q[j] = turnV rs (probe (hashT t) rs.length j) := by
        have h1 := hpre.getElem (i := j) (by simp; omega)
        rw [hxg _ (by omega), List.getElem_append_left hj] at h1
        exact h1
      have := hpass q[j] (List.getElem_mem _) _ (probe_lt (by omega)) hjq
      simp [stopAt, ← el, this]
    rw [← el] at this
    simp only [place, ← el, this, hqi]
end
end Go.Eng
namespace Go.Eng
open Go Go.RowKit Go.Proofs
set_option maxRecDepth 10000
def cnt (l : List Entry) (s : Int) : Nat := (l.filter fun e => e.st == s).length
theorem cnt_snoc (l : List Entry) (x : Entry) (s : Int) : cnt (l ++ [x]) s = cnt l s + (if x.st = s then 1 else 0) := by
  simp only [cnt, List.filter_append, List.length_append]
  by_cases h : x.st = s <;> simp [h]
theorem cnt_le (l : List Entry) (s : Int) : cnt l s ≤ l.length := List.length_filter_le _ _
def StatesAre (l : List Entry) (w : World) (v : Value) (w' : World) : Prop :=
  ∃ (c0 c1 c2 : Int) (ok : Bool), v = .tuple #[.agg #[.int .i64 c0, .int .i64 c1, .int .i64 c2], .bool ok] ∧ (ok = true ↔ ∀ e ∈ l, 0 ≤ e.st ∧ e.st ≤ 2) ∧ (ok = true → c1 = cnt l 1 ∧ c2 = cnt l 2) ∧ Below w.heap.size w w'
section
variable {w : World} {a b : Option Addr} {n c m d : Nat} {l : List Entry} {t : List Int}
theorem k_lstates (h : Ents w a n c l) (hn : n ≤ 1048576) : Cl Tryz.prog 115 #[.agg #[.slice a n c]] w (StatesAre l w) := by
  refine c115 _ _ _ ?_
  obtain ⟨rs, hrow, hall⟩ := h
  have el := hall.1
  have e1 := hrow.len
  obtain rfl : n = l.length := by omega
  rintro _ w1 rfl h1 _ w2 rfl h2 _ w3 rfl h3
  have z1 : w1.heap.size = w.heap.size + 1 := by rw [h1, size_alloc]
  have z2 : w2.heap.size = w1.heap.size + 1 := by rw [h2, size_alloc]
  have p1 : w3.heap[w.heap.size]? = some (.cells #[.slice a l.length c] 25) := by rw [h3, h2, h1]; exact blk_alloc (blk_alloc (blk_new _))
  obtain ⟨t2, p2⟩ : ∃ t, w3.heap[w1.heap.size]? = some (.cells #[.int .i64 0, .int .i64 0, .int .i64 0] t (0, 0)) := by rw [h3, h2]; exact ⟨_, blk_alloc (blk_new _)⟩
  obtain ⟨t3, p3⟩ : ∃ t, w3.heap[w2.heap.size]? = some (.cells #[.int .i64 0, .int .i64 0, .int .i64 0] t (0, 0)) := by rw [h3]; exact ⟨_, blk_new _⟩
  have B3 : Below w.heap.size w w3 := by rw [h3, h2, h1]; exact ((alloc_below w _).alloc (by rw [size_alloc]; omega) _).alloc (by rw [size_alloc, size_alloc]; omega) _
  clear h1 h2 h3
  -- the ways out
  have out : ∀ (W : World) (x y z : Int) (ok : Bool), Below w.heap.size w W → W.heap[w1.heap.size]? = some (.cells #[.int .i64 0, .int .i64 0, .int .i64 0] t2 (0, 0)) → W.heap[w2.heap.size]? = some (.cells #[.int .i64 x, .int .i64 y, .int .i64 z] t3 (0, 0)) →
      (ok = true ↔ ∀ e ∈ l, 0 ≤ e.st ∧ e.st ≤ 2) → (ok = true → y = cnt l 1 ∧ z = cnt l 2) →
      ∃ (x7 x8 x9 : Int), W.cell? (Addr.mk w2.heap.size 0 none) = some (.int .i64 x7) ∧ W.cell? ((Addr.mk w2.heap.size 0 none).add 1) = some (.int .i64 x8) ∧ W.cell? ((Addr.mk w2.heap.size 0 none).add 2) = some (.int .i64 x9) ∧ ((W.cell? (Addr.mk w1.heap.size 0 none)).isSome = true ∧ W.frozen? (Addr.mk w1.heap.size 0 none) = false ∧ ((W.cell? ((Addr.mk w1.heap.size 0 none).add 1)).isSome = true ∧ W.frozen? ((Addr.mk w1.heap.size 0 none).add 1) = false ∧ ((W.cell? ((Addr.mk w1.heap.size 0 none).add 2)).isSome = true ∧ W.frozen? ((Addr.mk w1.heap.size 0 none).add 2) = false ∧
      (∀ w6 : World, w6 = ((W.setCell (Addr.mk w1.heap.size 0 none) (.int .i64 x7)).setCell ((Addr.mk w1.heap.size 0 none).add 1) (.int .i64 x8)).setCell ((Addr.mk w1.heap.size 0 none).add 2) (.int .i64 x9) →
      (∃ (r4 r5 r6 : Int), w6.cell? (Addr.mk w1.heap.size 0 none) = some (.int .i64 r4) ∧ w6.cell? ((Addr.mk w1.heap.size 0 none).add 1) = some (.int .i64 r5) ∧ w6.cell? ((Addr.mk w1.heap.size 0 none).add 2) = some (.int .i64 r6) ∧ (StatesAre l w (.tuple #[.agg #[.int .i64 r4, .int .i64 r5, .int .i64 r6], .bool ok]) w6)))))) := by
    intro W x y z ok hB q2 q3 hok hc
    refine ⟨x, y, z, blk_cell q3 0, blk_cell q3 1, blk_cell q3 2, blk_some q2 (by decide), blk_free q2 _, blk_some q2 (j := 1) (by decide), blk_free q2 1, blk_some q2 (j := 2) (by decide), blk_free q2 2, ?_⟩
    rintro w6 h6
    have q6 : w6.heap[w1.heap.size]? = some (.cells #[.int .i64 x, .int .i64 y, .int .i64 z] t2 (0, 0)) := by rw [h6]; exact blk_set (blk_set (blk_set q2 0 _) 1 _) 2 _
    have B6 : Below w.heap.size w w6 := by
      rw [h6]; exact ((hB.setCell (by show w.heap.size ≤ w1.heap.size; omega) _).setCell (by show w.heap.size ≤ w1.heap.size; omega) _).setCell (by show w.heap.size ≤ w1.heap.size; omega) _
    exact ⟨x, y, z, blk_cell q6 0, blk_cell q6 1, blk_cell q6 2, x, y, z, ok, rfl, hok, hc, B6⟩
  refine ⟨_, _, _, blk_cell p1 0, fun _ i W => Below w.heap.size w W ∧ W.heap[w.heap.size]? = some (.cells #[.slice a l.length c] 25) ∧ W.heap[w1.heap.size]? = some (.cells #[.int .i64 0, .int .i64 0, .int .i64 0] t2 (0, 0)) ∧
      ∃ k : Nat, i = k ∧ k ≤ l.length ∧ (∀ e ∈ l.take k, 0 ≤ e.st ∧ e.st ≤ 2) ∧ W.heap[w2.heap.size]? = some (.cells #[.int .i64 (cnt (l.take k) 0 : Nat), .int .i64 (cnt (l.take k) 1 : Nat), .int .i64 (cnt (l.take k) 2 : Nat)] t3 (0, 0)),
    fun _ i _ => l.length - i.toNat, ⟨B3, p1, p2, 0, rfl, by omega, by simp, p3⟩, ?_⟩
  rintro _ W _ _ ⟨hB, q1, q2, k, rfl, hk, hst, q3⟩
  refine cnd (fun hc => ?_) fun hc => ?_
  · have hkn : k < l.length := by simpa using hc
    refine ⟨_, _, _, blk_cell q1 0, (hrow.below hB).entSt (by omega) fun hl => ?_⟩
    have hent := hall.2 k hl hkn
    have hmem : l[k] ∈ l := List.getElem_mem hkn
    rw [hent.st]
    refine cnd (fun hc => ?_) fun hc => cnd (fun hc2 => ?_) fun hc2 => ?_
    · have : l[k].st < 0 := by simpa using hc
      exact out W _ _ _ false hB q2 q3 ⟨fun h => (by cases h), fun h => by have := (h _ hmem).1; omega⟩ (fun h => by cases h)
    · have : 2 < l[k].st := by simpa using hc2
      exact out W _ _ _ false hB q2 q3 ⟨fun h => (by cases h), fun h => by have := (h _ hmem).2; omega⟩ (fun h => by cases h)
    · have g1 : ¬ l[k].st < 0 := by simpa using hc
      have g2 : ¬ 2 < l[k].st := by simpa using hc2
      have hc0 := cnt_le (l.take k) 0; have hc1 := cnt_le (l.take k) 1; have hc2' := cnt_le (l.take k) 2
      have hlt : (l.take k).length ≤ 1048576 := by simp; omega
      have hnew : ∀ e ∈ l.take (k + 1), 0 ≤ e.st ∧ e.st ≤ 2 := by
        intro e he
        rw [take_one hkn] at he
        rcases List.mem_append.1 he with he | he
        · exact hst e he
        · simp only [List.mem_singleton] at he; subst he; omega
      have s0 := cnt_snoc (l.take k) l[k] 0; have s1 := cnt_snoc (l.take k) l[k] 1; have s2 := cnt_snoc (l.take k) l[k] 2
      rw [← take_one hkn] at s0 s1 s2
      have h3 : l[k].st = 0 ∨ l[k].st = 1 ∨ l[k].st = 2 := by omega
      have step : ∀ (j : Nat), j < 3 → ∀ (v : Value), Below w.heap.size w (W.setCell ⟨w2.heap.size, j, none⟩ v) ∧ (W.setCell ⟨w2.heap.size, j, none⟩ v).heap[w.heap.size]? = some (.cells #[.slice a l.length c] 25) ∧ (W.setCell ⟨w2.heap.size, j, none⟩ v).heap[w1.heap.size]? = some (.cells #[.int .i64 0, .int .i64 0, .int .i64 0] t2 (0, 0)) :=
        fun j hj v => ⟨hB.setCell (by show w.heap.size ≤ w2.heap.size; omega) v, blk_far q1 (by show w.heap.size ≠ w2.heap.size; omega) v, blk_far q2 (by show w1.heap.size ≠ w2.heap.size; omega) v⟩
      rcases h3 with h3 | h3 | h3
      · rw [h3] at s0 s1 s2 ⊢
        refine ⟨by decide, by decide, _, blk_cell q3 0, by decide, by decide, blk_some q3 (j := 0) (by simp), blk_free q3 0, ?_⟩
        rintro _ rfl
        rw [nx (by omega), nx (by omega)]
        obtain ⟨t1, t2', t3'⟩ := step 0 (by decide) (.int .i64 ((cnt (l.take k) 0 + 1 : Nat) : Int))
        refine ⟨⟨t1, t2', t3', k + 1, rfl, by omega, hnew, ?_⟩, dec hkn⟩
        rw [s0, s1, s2]
        exact blk_set q3 0 _
      · rw [h3] at s0 s1 s2 ⊢
        refine ⟨by decide, by decide, _, blk_cell q3 1, by decide, by decide, blk_some q3 (j := 1) (by simp), blk_free q3 1, ?_⟩
        rintro _ rfl
        rw [nx (by omega), nx (by omega)]
        obtain ⟨t1, t2', t3'⟩ := step 1 (by decide) (.int .i64 ((cnt (l.take k) 1 + 1 : Nat) : Int))
        refine ⟨⟨t1, t2', t3', k + 1, rfl, by omega, hnew, ?_⟩, dec hkn⟩
        rw [s0, s1, s2]
        exact blk_set q3 1 _
      · rw [h3] at s0 s1 s2 ⊢
        refine ⟨by decide, by decide, _, blk_cell q3 2, by decide, by decide, blk_some q3 (j := 2) (by simp), blk_free q3 2, ?_⟩
        rintro _ rfl
        rw [nx (by omega), nx (by omega)]
        obtain ⟨t1, t2', t3'⟩ := step 2 (by decide) (.int .i64 ((cnt (l.take k) 2 + 1 : Nat) : Int))
        refine ⟨⟨t1, t2', t3', k + 1, rfl, by omega, hnew, ?_⟩, dec hkn⟩
        rw [s0, s1, s2]
        exact blk_set q3 2 _
  · have hkn : ¬ k < l.length := by simpa using hc
    rw [take_all (by omega)] at hst q3
    exact out W _ _ _ true hB q2 q3 ⟨fun _ => hst, fun _ => rfl⟩ (fun _ => ⟨rfl, rfl⟩)
end
end Go.Eng
namespace Go.Eng
open Go Go.RowKit Go.Proofs
set_option maxRecDepth 10000
/-- An entry is put into a block of its own. -/
theorem box_ent {W : World} {x z : Int} {ya : Option Addr} {yn yc : Nat} {e : TypeId} {K : Nat → World → Prop}
    (hK : ∀ w8 : World, w8.heap[W.heap.size]? = some (.cells #[.int .i64 x, .slice ya yn yc, .int .i64 z] e (0, 0)) → Below W.heap.size W w8 → K W.heap.size w8) :
    ∀ (b3 : Nat) (w6 : World), b3 = W.heap.size → w6 = W.alloc (.cells #[.int .i64 0, .slice none 0 0, .int .i64 0] e) → ((w6.cell? (Addr.mk b3 0 none)).isSome = true ∧ w6.frozen? (Addr.mk b3 0 none) = false ∧ ((w6.cell? ((Addr.mk b3 0 none).add 1)).isSome = true ∧ w6.frozen? ((Addr.mk b3 0 none).add 1) = false ∧ ((w6.cell? ((Addr.mk b3 0 none).add 2)).isSome = true ∧ w6.frozen? ((Addr.mk b3 0 none).add 2) = false ∧
    (∀ w7 : World, w7 = ((w6.setCell (Addr.mk b3 0 none) (.int .i64 x)).setCell ((Addr.mk b3 0 none).add 1) (.slice ya yn yc)).setCell ((Addr.mk b3 0 none).add 2) (.int .i64 z) → K b3 w7)))) := by
  rintro b3 w6 hb h6
  have s7 : w6.heap[b3]? = some (.cells #[.int .i64 0, .slice none 0 0, .int .i64 0] e) := by rw [h6, hb]; exact blk_new _
  refine ⟨blk_some s7 (by simp), blk_free s7 _, blk_some s7 (j := 1) (by simp), blk_free s7 1, blk_some s7 (j := 2) (by simp), blk_free s7 2, ?_⟩
  rintro w7 h7
  have s8 : w7.heap[b3]? = some (.cells #[.int .i64 x, .slice ya yn yc, .int .i64 z] e) := by rw [h7]; exact blk_set (blk_set (blk_set s7 0 _) 1 _) 2 _
  have B8 : Below W.heap.size W w7 := by
    subst h7; subst h6; subst hb
    exact (((alloc_below W _).setCell (Nat.le_refl _) _).setCell (Nat.le_refl _) _).setCell (Nat.le_refl _) _
  rw [hb]
  rw [hb] at s8
  exact hK w7 s8 B8
def slotOk (l : List Entry) (i : Nat) : Bool :=
  if (slot l i).st = 1 then right2 (slot l i).ty && decide (0 ≤ (slot l i).num) && (place l (slot l i).ty == (i : Int)) else decide ((slot l i).ty.length = 0) && ((slot l i).num == 0)
def pow2 (n : Nat) : Bool := band .i64 (n : Int) ((n : Int) - 1) == 0
def taken (l : List Entry) : Nat := cnt l 1 + cnt l 2
def preL (l : List Entry) : Bool := (l.all fun e => decide (0 ≤ e.st ∧ e.st ≤ 2)) && decide (8 ≤ l.length) && pow2 l.length && decide (4 * taken l ≤ 3 * l.length) && decide (taken l ≤ 4000)
def checkL (l : List Entry) : Bool := preL l && (List.range l.length).all (slotOk l)
section
variable {w : World} {a b : Option Addr} {n c m d : Nat} {l : List Entry} {t : List Int}
theorem k_lCheck (h : Ents w a n c l) (hn : n ≤ 1048576) : Cl Tryz.prog 73 #[.agg #[.slice a n c]] w (Gives w (.int .i64 (if checkL l then 0 else 170))) := by
  refine c73 _ _ _ ?_
  obtain ⟨rs, hrow, hall⟩ := h
  have el := hall.1
  have e1 := hrow.len
  obtain rfl : n = l.length := by omega
  rintro _ w1 rfl h1
  have q1 : w1.heap[w.heap.size]? = some (.cells #[.slice a l.length c] 25) := by rw [h1]; exact blk_new _
  have B1 : Below w.heap.size w w1 := by rw [h1]; exact alloc_below _ _
  clear h1
  have hents : Ents w1 a l.length c l := (show Ents w a l.length c l from ⟨rs, hrow, hall⟩).below B1
  refine ⟨_, _, _, blk_cell q1 0, _, _, _, blk_cell q1 0, (k_lstates hents hn).mono ?_⟩
  rintro _ w2 ⟨c0, c1, c2, ok, rfl, hok, hcs, B2⟩
  refine ⟨_, _, _, _, rfl, ?_⟩
  rintro _ w3 rfl h3
  obtain ⟨t3, p3⟩ : ∃ t, w3.heap[w2.heap.size]? = some (.cells #[.int .i64 0, .int .i64 0, .int .i64 0] t (0, 0)) := by rw [h3]; exact ⟨_, blk_new _⟩
  have B3 : Below w2.heap.size w2 w3 := by rw [h3]; exact alloc_below _ _
  clear h3
  refine ⟨blk_some p3 (by decide), blk_free p3 _, blk_some p3 (j := 1) (by decide), blk_free p3 1, blk_some p3 (j := 2) (by decide), blk_free p3 2, ?_⟩
  rintro w4 h4
  have p4 : w4.heap[w2.heap.size]? = some (.cells #[.int .i64 c0, .int .i64 c1, .int .i64 c2] t3 (0, 0)) := by rw [h4]; exact blk_set (blk_set (blk_set p3 0 _) 1 _) 2 _
  have B4' : Below w2.heap.size w2 w4 := by rw [h4]; exact ((B3.setCell (Nat.le_refl _) _).setCell (Nat.le_refl _) _).setCell (Nat.le_refl _) _
  clear h4
  have B12 := B1.trans (B2.mono B1.size)
  have B4 : Below w.heap.size w w4 := B12.trans (B4'.mono B12.size)
  have q4 := blk_below (blk_below q1 B2 (blk_lt q1)) B4' (Nat.lt_of_lt_of_le (blk_lt q1) B2.size)
  refine ⟨by decide, by decide, _, blk_cell p4 1, by decide, by decide, _, blk_cell p4 2, ?_⟩
  have fail : preL l = false → Gives w (.int .i64 (if checkL l then 0 else 170)) (.int .i64 170) w4 := fun h => ⟨by simp [checkL, h], B4⟩
  refine cnd (fun g1 => ?_) fun g1 => ?_
  rotate_left
  · refine fail ?_
    have hh : (l.all fun e => decide (0 ≤ e.st ∧ e.st ≤ 2)) = false := by
      cases hb : l.all fun e => decide (0 ≤ e.st ∧ e.st ≤ 2) with
      | false => rfl
      | true =>
        have : ok = true := hok.2 (by intro e he; have := List.all_eq_true.1 hb e he; simpa using this)
        rw [this] at g1; cases g1
    simp only [preL, hh, Bool.false_and]
  have hst := hok.1 g1
  obtain ⟨rfl, rfl⟩ := hcs g1
  have hc1 := cnt_le l 1; have hc2 := cnt_le l 2
  have ht : IntKind.i64.wrap (((cnt l 1 : Nat) : Int) + (cnt l 2 : Nat)) = ((taken l : Nat) : Int) := by rw [wrap64 (by omega) (by omega)]; simp [taken]
  have ht1 : taken l = cnt l 1 + cnt l 2 := rfl
  have hall2 : (l.all fun e => decide (0 ≤ e.st ∧ e.st ≤ 2)) = true := by rw [List.all_eq_true]; intro e he; simpa using hst e he
  rw [ht, wrap64 (i := 4 * ((taken l : Nat) : Int)) (by omega) (by omega), wrap64 (i := 3 * (l.length : Int)) (by omega) (by omega)]
  refine cnd (fun g2 => ?_) fun g2 => ?_
  rotate_left
  · have : ¬ 8 ≤ l.length := by simp at g2; omega
    exact fail (by simp [preL, this])
  have h8 : 8 ≤ l.length := by simp at g2; omega
  rw [wrap64 (i := (l.length : Int) - 1) (by omega) (by omega)]
  refine cnd (fun g3 => ?_) fun g3 => ?_
  rotate_left
  · have : pow2 l.length = false := g3
    exact fail (by simp [preL, this])
  refine cnd (fun g4 => ?_) fun g4 => ?_
  rotate_left
  · have : ¬ 4 * taken l ≤ 3 * l.length := by simp at g4; omega
    exact fail (by simp [preL, this])
  refine cnd (fun g5 => ?_) fun g5 => ?_
  · have : ¬ taken l ≤ 4000 := by simp at g5; omega
    exact fail (by simp [preL, this])
  have h4 : 4 * taken l ≤ 3 * l.length := by simp at g4; omega
  have h5 : taken l ≤ 4000 := by simp at g5; omega
  have hpre : preL l = true := by
    have : pow2 l.length = true := g3
    simp only [preL, hall2, this, h8, h4, h5, decide_true, Bool.and_self]
  have hck : checkL l = (List.range l.length).all (slotOk l) := by simp [checkL, hpre]
  have h5' : decide (((taken l : Nat) : Int) ≤ 4000) = true := by simp; omega
  rw [h5', hck]
  refine ⟨_, _, _, blk_cell q4 0, fun ok i W => Below w.heap.size w W ∧ W.heap[w.heap.size]? = some (.cells #[.slice a l.length c] 25) ∧ ∃ k : Nat, i = k ∧ k ≤ l.length ∧ ok = (List.range k).all (slotOk l), fun _ i _ => l.length - i.toNat, ⟨B4, q4, 0, rfl, by omega, rfl⟩, ?_⟩
  rintro _ W ok' _ ⟨hB, q, k, rfl, hk, rfl⟩
  refine cnd (fun hc => ?_) fun hc => ?_
  · have hkn : k < l.length := by simpa using hc
    refine (hrow.below hB).entN (by omega) fun hl => ?_
    have hent := hall.2 k hl hkn
    have hsl : slot l k = l[k] := slot_eq hkn
    rw [nx (by omega)]
    have hnext : (List.range (k + 1)).all (slotOk l) = ((List.range k).all (slotOk l) && slotOk l k) := by rw [List.range_succ, List.all_append]; simp
    refine box_ent fun w7 s7 B7 => ?_
    have hB7 := hB.trans (B7.mono hB.size)
    have q7 := blk_below q B7 (blk_lt q)
    refine ⟨_, blk_cell s7 0, cnd (fun g => ?_) fun g => ?_⟩
    · have hst1 : (slot l k).st = 1 := by rw [hsl, ← hent.st]; simpa using g
      refine cnd (fun g6 => ?_) fun g6 => ⟨⟨hB7, q7, k + 1, rfl, by omega, by rw [hnext, g6]; rfl⟩, dec hkn⟩
      refine ⟨_, _, _, blk_cell s7 1, (k_tCheck (hent.ty.below hB7)).gives fun w8 B8 => ⟨_, rfl, cnd (fun g7 => ?_) fun g7 => ?_⟩⟩
      · have hr2 : right2 (slot l k).ty = true := by rw [hsl]; cases hr : right2 l[k].ty <;> simp [check2, hr] at g7 ⊢
        have hB8 := hB7.trans (B8.mono hB7.size)
        have s8 := blk_below s7 B8 (blk_lt s7)
        have q8 := blk_below q7 B8 (blk_lt q7)
        refine ⟨_, blk_cell s8 2, cnd (fun g8 => ?_) fun g8 => ?_⟩
        · have hn0 : 0 ≤ (slot l k).num := by rw [hsl, ← hent.num]; simpa using g8
          refine ⟨_, _, _, blk_cell q8 0, _, _, _, blk_cell s8 1, (k_lplace ((show Ents w a l.length c l from ⟨rs, hrow, hall⟩).below hB8) (hent.ty.below hB8) hent.rng.1 hn).gives fun w9 B9 => ⟨_, rfl, ?_⟩⟩
          refine ⟨⟨hB8.trans (B9.mono hB8.size), blk_below q8 B9 (blk_lt q8), k + 1, rfl, by omega, ?_⟩, dec hkn⟩
          rw [hnext, g6, slotOk, if_pos hst1, hr2, hsl]
          rw [hsl] at hn0
          simp [hn0]
        · have hn0 : ¬ 0 ≤ (slot l k).num := by rw [hsl, ← hent.num]; simpa using g8
          exact ⟨⟨hB8, q8, k + 1, rfl, by omega, by rw [hnext, slotOk, if_pos hst1]; simp [hn0]⟩, dec hkn⟩
      · have hr2 : right2 (slot l k).ty = false := by rw [hsl]; cases hr : right2 l[k].ty <;> simp [check2, hr] at g7 ⊢
        exact ⟨⟨hB7.trans (B8.mono hB7.size), blk_below q7 B8 (blk_lt q7), k + 1, rfl, by omega, by rw [hnext, slotOk, if_pos hst1, hr2]; simp⟩, dec hkn⟩
    · have hst1 : ¬ (slot l k).st = 1 := by rw [hsl, ← hent.st]; simpa using g
      refine cnd (fun g6 => ?_) fun g6 => ⟨⟨hB7, q7, k + 1, rfl, by omega, by rw [hnext, g6]; rfl⟩, dec hkn⟩
      have hlen := hent.ty.len
      refine ⟨_, _, _, blk_cell s7 1, cnd (fun g7 => ⟨_, blk_cell s7 2, ⟨hB7, q7, k + 1, rfl, by omega, ?_⟩, dec hkn⟩) fun g7 => ⟨⟨hB7, q7, k + 1, rfl, by omega, ?_⟩, dec hkn⟩⟩
      · have : (slot l k).ty.length = 0 := by rw [hsl, ← hlen]; simp at g7; omega
        rw [hnext, g6, slotOk, if_neg hst1, hent.num, ← hsl]; simp [this]
      · have : (slot l k).ty.length ≠ 0 := by rw [hsl, ← hlen]; simp at g7; omega
        rw [hnext, slotOk, if_neg hst1]; simp [this]
  · have hkn : ¬ k < l.length := by simpa using hc
    obtain rfl : k = l.length := by omega
    refine cnd (fun g => ⟨?_, hB⟩) fun g => ⟨?_, hB⟩
    · have : (List.range l.length).all (slotOk l) = false := by simpa using g
      rw [this]; rfl
    · have : (List.range l.length).all (slotOk l) = true := by simpa using g
      rw [this]; rfl
end
end Go.Eng
namespace Go.Eng
open Go Go.RowKit Go.Proofs
set_option maxRecDepth 10000
theorem place_lt {l : List Entry} {t : List Int} : place l t < 0 ∨ ∃ k, k < l.length ∧ place l t = ((k : Nat) : Int) ∧ (slot l k).st = 1 ∧ (slot l k).ty = t := by
  unfold place
  split
  · exact .inl (by decide)
  · rename_i k hk
    have h1 := List.find?_some hk
    have h2 := List.mem_of_find?_eq_some hk
    rw [List.mem_range] at h2
    by_cases hst : (slot l (probe (hashT t) l.length k)).st = 1
    · rw [if_pos hst]
      refine .inr ⟨_, probe_lt (by omega), rfl, hst, ?_⟩
      simp only [stopAt, stops, hst] at h1
      simpa using h1
    · rw [if_neg hst]; exact .inl (by decide)
def findL (l : List Entry) (t : List Int) : Int × Bool :=
  if checkL l = false then (0, false) else if place l t < 0 then (0, false) else ((slot l (place l t).toNat).num, true)
section
variable {w : World} {a b : Option Addr} {n c m d : Nat} {l : List Entry} {t : List Int}
theorem k_lFind (h : Ents w a n c l) (ht : Row encId w b m d t) (hr : Rng t) (hn : n ≤ 1048576) :
    Cl Tryz.prog 74 #[.agg #[.slice a n c], .slice b m d] w (Gives w (.tuple #[.int .i64 (findL l t).1, .bool (findL l t).2])) := by
  refine c74 _ _ _ _ _ _ ?_
  have hE := h
  obtain ⟨rs, hrow, hall⟩ := h
  have el := hall.1
  have e1 := hrow.len
  rintro _ w1 rfl h1
  have q1 : w1.heap[w.heap.size]? = some (.cells #[.slice a n c] 25) := by rw [h1]; exact blk_new _
  have B1 : Below w.heap.size w w1 := by rw [h1]; exact alloc_below _ _
  clear h1
  refine ⟨_, _, _, blk_cell q1 0, (k_lCheck (hE.below B1) hn).gives fun w2 B2' => ⟨_, rfl, cnd (fun g => ?_) fun g => ?_⟩⟩
  · have B2 := B1.trans (B2'.mono B1.size)
    have : checkL l = false := by cases hc : checkL l <;> simp [hc] at g ⊢
    exact ⟨by simp [findL, this], B2⟩
  · have B2 := B1.trans (B2'.mono B1.size)
    have q2 := blk_below q1 B2' (blk_lt q1)
    have hc : checkL l = true := by cases hc : checkL l <;> simp [hc] at g ⊢
    refine ⟨_, _, _, blk_cell q2 0, (k_lplace (hE.below B2) (ht.below B2) hr hn).gives fun w3 B3' => ⟨_, rfl, cnd (fun g2 => ?_) fun g2 => ?_⟩⟩
    · have : place l t < 0 := by simpa using g2
      exact ⟨by simp [findL, hc, this], B2.trans (B3'.mono B2.size)⟩
    · have B3 := B2.trans (B3'.mono B2.size)
      have q3 := blk_below q2 B3' (blk_lt q2)
      have hp : ¬ place l t < 0 := by simpa using g2
      rcases place_lt (l := l) (t := t) with h0 | ⟨k, hk, hpk, _, _⟩
      · exact absurd h0 hp
      · refine ⟨_, _, _, blk_cell q3 0, ?_⟩
        rw [hpk]
        refine (hrow.below B3).entNum (by omega) fun hl => ⟨?_, B3⟩
        have hent := hall.2 k hl hk
        have hne : ¬ ((k : Nat) : Int) < 0 := by omega
        simp [findL, hc, hpk, hne, hent.num, slot_eq hk]
end
end Go.Eng
namespace Go.Eng
open Go Go.RowKit Go.Proofs
set_option maxRecDepth 10000
/-- A node is put into a block of its own. -/
theorem box_node {W : World} {x : Bool} {ya ua va : Option Addr} {yn yc un uc vn vc : Nat} {e : TypeId} {K : Nat → World → Prop}
    (hK : ∀ w8 : World, w8.heap[W.heap.size]? = some (.cells #[.bool x, .slice ya yn yc, .slice ua un uc, .slice va vn vc] e (0, 0)) → Below W.heap.size W w8 → K W.heap.size w8) :
    ∀ (b : Nat) (w2 : World), b = W.heap.size → w2 = W.alloc (.cells #[.bool false, .slice none 0 0, .slice none 0 0, .slice none 0 0] e) → ((w2.cell? (Addr.mk b 0 none)).isSome = true ∧ w2.frozen? (Addr.mk b 0 none) = false ∧ ((w2.cell? ((Addr.mk b 0 none).add 1)).isSome = true ∧ w2.frozen? ((Addr.mk b 0 none).add 1) = false ∧ ((w2.cell? ((Addr.mk b 0 none).add 2)).isSome = true ∧ w2.frozen? ((Addr.mk b 0 none).add 2) = false ∧ ((w2.cell? ((Addr.mk b 0 none).add 3)).isSome = true ∧ w2.frozen? ((Addr.mk b 0 none).add 3) = false ∧
    (∀ w3 : World, w3 = (((w2.setCell (Addr.mk b 0 none) (.bool x)).setCell ((Addr.mk b 0 none).add 1) (.slice ya yn yc)).setCell ((Addr.mk b 0 none).add 2) (.slice ua un uc)).setCell ((Addr.mk b 0 none).add 3) (.slice va vn vc) → K b w3))))) := by
  rintro b3 w6 hb h6
  have s7 : w6.heap[b3]? = some (.cells #[.bool false, .slice none 0 0, .slice none 0 0, .slice none 0 0] e) := by rw [h6, hb]; exact blk_new _
  refine ⟨blk_some s7 (by simp), blk_free s7 _, blk_some s7 (j := 1) (by simp), blk_free s7 1, blk_some s7 (j := 2) (by simp), blk_free s7 2, blk_some s7 (j := 3) (by simp), blk_free s7 3, ?_⟩
  rintro w7 h7
  have s8 : w7.heap[b3]? = some (.cells #[.bool x, .slice ya yn yc, .slice ua un uc, .slice va vn vc] e) := by rw [h7]; exact blk_set (blk_set (blk_set (blk_set s7 0 _) 1 _) 2 _) 3 _
  have B8 : Below W.heap.size W w7 := by
    subst h7; subst h6; subst hb
    exact ((((alloc_below W _).setCell (Nat.le_refl _) _).setCell (Nat.le_refl _) _).setCell (Nat.le_refl _) _).setCell (Nat.le_refl _) _
  rw [hb]
  rw [hb] at s8
  exact hK w7 s8 B8
/-- The node of a number. -/
def node (l : List Node) (n : Int) : Node := l.getD (n - 1).toNat default
theorem node_eq {l : List Node} {k : Nat} (h : k < l.length) : node l ((k : Int) + 1) = l[k] := by
  have : ((k : Int) + 1 - 1).toNat = k := by omega
  simp [node, this, h]
def isN (l : List Node) (n : Int) : Bool := decide (1 ≤ n) && decide (n ≤ (l.length : Int)) && (node l n).used
/-- The first used node of a type; 0: none. -/
def findN (l : List Node) (t : List Int) : Int := match l.findIdx? (fun x => x.used && x.ty == t) with | some i => (i : Int) + 1 | none => 0
def usedN (l : List Node) : List Int := ((List.range l.length).filter fun i : Nat => (node l ((i : Int) + 1)).used).map fun i : Nat => (i : Int) + 1
section
variable {w : World} {a b : Option Addr} {n c m d : Nat} {l : List Node} {t : List Int}
theorem k_gis {ga : Option Addr} {gn gc : Nat} (h : Nodes w a n c l) (i : Int) (h64 : I64 i) : Cl Tryz.prog 60 #[.agg #[.slice a n c, .slice ga gn gc], .int .i64 i] w (Gives w (.bool (isN l i))) := by
  obtain ⟨rs, hrow, hall⟩ := h
  have el := hall.1
  obtain rfl : n = l.length := by have := hrow.len; omega
  refine c60 _ _ _ _ _ _ _ ?_
  rintro _ w1 rfl h1
  have q1 : w1.heap[w.heap.size]? = some (.cells #[.slice a l.length c, .slice ga gn gc] 27) := by rw [h1]; exact blk_new _
  have B1 : Below w.heap.size w w1 := by rw [h1]; exact alloc_below _ _
  clear h1
  refine cnd (fun h1 => ⟨_, _, _, blk_cell q1 0, cnd (fun h2 => ⟨_, _, _, blk_cell q1 0, ?_⟩) fun h2 => ⟨by simp only [isN, h1, h2, Bool.true_and, Bool.false_and], B1⟩⟩) fun h1 => ⟨by simp only [isN, h1, Bool.false_and], B1⟩
  have g1 : 1 ≤ i := of_decide_eq_true h1
  have g2 : i ≤ (l.length : Int) := of_decide_eq_true h2
  obtain ⟨k, rfl⟩ : ∃ k : Nat, i = (k : Int) + 1 := ⟨(i - 1).toNat, by omega⟩
  obtain ⟨h6, h7⟩ := h64
  have hk : k < l.length := by omega
  rw [show IntKind.i64.wrap ((k : Int) + 1 - 1) = (k : Int) by rw [wrap64 (by omega) (by omega)]; omega]
  refine (hrow.below B1).nodeUsed hk fun hl => ⟨?_, B1⟩
  have hn := hall.2 k hl hk
  simp only [isN, h1, h2, Bool.true_and, node_eq hk, hn.used]
end
end Go.Eng
namespace Go.Eng
open Go Go.RowKit Go.Proofs
set_option maxRecDepth 10000
theorem stp_eq {w : World} {ox oy : Operand} {a b c d : Int} : binRun Tryz.prog .eql 71 ox oy (.agg #[.int .u64 a, .int .i64 b]) (.agg #[.int .u64 c, .int .i64 d]) (.bool (a == c && b == d)) w := by
  unfold binRun
  rw [Sem.run_bind, run_eqGuard_agg w _ _ _ _ _ _ (by kernel_rfl), Result.andThen_ok]
  have u3 := Tryz.underlying3
  have a3 := Tryz.isAgg3
  have z3 := Tryz.sizeOf3
  have u32 := Tryz.underlying32
  have a32 := Tryz.isAgg32
  have z32 := Tryz.sizeOf32
  have hS : Tryz.prog.underlying 71 = some (.struct (Tryz.prog.fieldsOf 71)) := by kernel_rfl
  have hp : Tryz.prog.stoodInHeld 71 = false := by kernel_rfl
  rw [run_eql_struct, show (10000 : Nat) = 9999 + 1 from rfl, run_equalIn_agg w 9999 71 _ _ hS hp]
  simp only [Program.fieldsOf, Tryz.underlying71]
  go_simp
  by_cases h1 : a = c <;> by_cases h2 : b = d <;> simp [h1, h2]
theorem box_stp {W : World} {x y : Int} {e : TypeId} {K : Nat → World → Prop}
    (hK : ∀ w8 : World, w8.heap[W.heap.size]? = some (.cells #[.int .u64 x, .int .i64 y] e (0, 0)) → Below W.heap.size W w8 → K W.heap.size w8) :
    ∀ (b : Nat) (w2 : World), b = W.heap.size → w2 = W.alloc (.cells #[.int .u64 0, .int .i64 0] e) → ((w2.cell? (Addr.mk b 0 none)).isSome = true ∧ w2.frozen? (Addr.mk b 0 none) = false ∧ ((w2.cell? ((Addr.mk b 0 none).add 1)).isSome = true ∧ w2.frozen? ((Addr.mk b 0 none).add 1) = false ∧
    (∀ w3 : World, w3 = (w2.setCell (Addr.mk b 0 none) (.int .u64 x)).setCell ((Addr.mk b 0 none).add 1) (.int .i64 y) → K b w3))) := by
  rintro b3 w6 hb h6
  have s7 : w6.heap[b3]? = some (.cells #[.int .u64 0, .int .i64 0] e) := by rw [h6, hb]; exact blk_new _
  refine ⟨blk_some s7 (by simp), blk_free s7 _, blk_some s7 (j := 1) (by simp), blk_free s7 1, ?_⟩
  rintro w7 h7
  have s8 : w7.heap[b3]? = some (.cells #[.int .u64 x, .int .i64 y] e) := by rw [h7]; exact blk_set (blk_set s7 0 _) 1 _
  have B8 : Below W.heap.size W w7 := by
    subst h7; subst h6; subst hb
    exact ((alloc_below W _).setCell (Nat.le_refl _) _).setCell (Nat.le_refl _) _
  rw [hb]
  rw [hb] at s8
  exact hK w7 s8 B8
end Go.Eng
namespace Go.Eng
open Go Go.RowKit Go.Proofs
set_option maxRecDepth 10000
end Go.Eng
namespace Go.Eng
open Go Go.RowKit Go.Proofs
set_option maxRecDepth 10000
def awayS (l : List Stp) (n : Int) : List Stp := l.filter fun s => s.2 != n
def withS (l : List Stp) (s : Stp) : List Stp := l.filter (fun x => decide (x.1 < s.1)) ++ s :: l.filter (fun x => decide (s.1 < x.1))
end Go.Eng
namespace Go.Eng
open Go Go.RowKit Go.Proofs
set_option maxRecDepth 10000
end Go.Eng
namespace Go.Proofs
open Go.Shelf
def Tryz.sortEnt_ren : Go.Shelf.Ren := ⟨fun | 6 => 165 | 15 => 91 | 14 => 172 | 28 => 129 | 29 => 130 | 20 => 175 | 21 => 176 | 22 => 177 | 23 => 178 | 24 => 179 | 25 => 180 | 26 => 181 | 27 => 182 | 46 => 184 | 47 => 156 | 48 => 157 | 49 => 185 | 50 => 186 | 57 => 188 | n => n, fun | 22 => 23 | 24 => 94 | 25 => 182 | 3 => 3 | 39 => 84 | 0 => 0 | 53 => 166 | 55 => 31 | 4 => 4 | 46 => 160 | 45 => 159 | 50 => 67 | 5 => 5 | 9 => 9 | 66 => 186 | 70 => 190 | 76 => 199 | 77 => 172 | n => n, fun | n => n⟩
theorem Tryz.sortEnt : Go.Proofs.SlLaysF0.n6 Tryz.prog Tryz.sortEnt_ren := {
  mixed := by kernel_rfl,
  f6 := ⟨Tryz.f165.name, by decide, Tryz.func165.trans (congrArg some (by kernel_rfl))⟩,
  f14 := ⟨Tryz.f172.name, by decide, Tryz.func172.trans (congrArg some (by kernel_rfl))⟩,
  f15 := Tryz.func91.trans (congrArg some (by kernel_rfl)),
  f20 := ⟨Tryz.f175.name, by decide, Tryz.func175.trans (congrArg some (by kernel_rfl))⟩,
  f21 := ⟨Tryz.f176.name, by decide, Tryz.func176.trans (congrArg some (by kernel_rfl))⟩,
  f22 := ⟨Tryz.f177.name, by decide, Tryz.func177.trans (congrArg some (by kernel_rfl))⟩,
  f23 := ⟨Tryz.f178.name, by decide, Tryz.func178.trans (congrArg some (by kernel_rfl))⟩,
  f24 := ⟨Tryz.f179.name, by decide, Tryz.func179.trans (congrArg some (by kernel_rfl))⟩,
  f25 := ⟨Tryz.f180.name, by decide, Tryz.func180.trans (congrArg some (by kernel_rfl))⟩,
  f26 := ⟨Tryz.f181.name, by decide, Tryz.func181.trans (congrArg some (by kernel_rfl))⟩,
  f27 := ⟨Tryz.f182.name, by decide, Tryz.func182.trans (congrArg some (by kernel_rfl))⟩,
  f28 := Tryz.func129.trans (congrArg some (by kernel_rfl)),
  f29 := Tryz.func130.trans (congrArg some (by kernel_rfl)),
  f46 := ⟨Tryz.f184.name, by decide, Tryz.func184.trans (congrArg some (by kernel_rfl))⟩,
  f47 := Tryz.func156.trans (congrArg some (by kernel_rfl)),
  f48 := Tryz.func157.trans (congrArg some (by kernel_rfl)),
  f49 := ⟨Tryz.f185.name, by decide, Tryz.func185.trans (congrArg some (by kernel_rfl))⟩,
  f50 := ⟨Tryz.f186.name, by decide, Tryz.func186.trans (congrArg some (by kernel_rfl))⟩,
  f57 := ⟨Tryz.f188.name, by decide, Tryz.func188.trans (congrArg some (by kernel_rfl))⟩,
  t0 := Tryz.underlying0,
  a0 := Tryz.isAgg0,
  z0 := Tryz.sizeOf0,
  v0 := Tryz.zeroValue0,
  t3 := Tryz.underlying3,
  a3 := Tryz.isAgg3,
  z3 := Tryz.sizeOf3,
  v3 := Tryz.zeroValue3,
  t4 := Tryz.underlying4,
  a4 := Tryz.isAgg4,
  z4 := Tryz.sizeOf4,
  v4 := Tryz.zeroValue4,
  t5 := Tryz.underlying5,
  a5 := Tryz.isAgg5,
  z5 := Tryz.sizeOf5,
  v5 := Tryz.zeroValue5,
  t9 := Tryz.underlying9,
  a9 := Tryz.isAgg9,
  z9 := Tryz.sizeOf9,
  v9 := Tryz.zeroValue9,
  t22 := Tryz.underlying23,
  a22 := Tryz.isAgg23,
  z22 := Tryz.sizeOf23,
  v22 := Tryz.zeroValue23,
  t25 := Tryz.underlying182,
  a25 := Tryz.isAgg182,
  z25 := Tryz.sizeOf182,
  v25 := Tryz.zeroValue182,
  t39 := Tryz.underlying84,
  a39 := Tryz.isAgg84,
  z39 := Tryz.sizeOf84,
  v39 := Tryz.zeroValue84,
  t45 := Tryz.underlying159,
  a45 := Tryz.isAgg159,
  z45 := Tryz.sizeOf159,
  v45 := Tryz.zeroValue159,
  t46 := Tryz.underlying160,
  a46 := Tryz.isAgg160,
  z46 := Tryz.sizeOf160,
  v46 := Tryz.zeroValue160,
  t50 := Tryz.underlying67,
  a50 := Tryz.isAgg67,
  z50 := Tryz.sizeOf67,
  v50 := Tryz.zeroValue67,
  t53 := Tryz.underlying166,
  a53 := Tryz.isAgg166,
  z53 := Tryz.sizeOf166,
  v53 := Tryz.zeroValue166,
  t55 := Tryz.underlying31,
  a55 := Tryz.isAgg31,
  z55 := Tryz.sizeOf31,
  v55 := Tryz.zeroValue31,
  t66 := Tryz.underlying186,
  a66 := Tryz.isAgg186,
  z66 := Tryz.sizeOf186,
  v66 := Tryz.zeroValue186,
  t70 := Tryz.underlying190,
  a70 := Tryz.isAgg190,
  z70 := Tryz.sizeOf190,
  v70 := Tryz.zeroValue190,
  t76 := Tryz.underlying199,
  a76 := Tryz.isAgg199,
  z76 := Tryz.sizeOf199,
  v76 := Tryz.zeroValue199,
  t77 := Tryz.underlying172,
  a77 := Tryz.isAgg172,
  z77 := Tryz.sizeOf172,
  v77 := Tryz.zeroValue172 }
end Go.Proofs
namespace Go.Eng
open Go Go.RowKit Go.Proofs
set_option maxRecDepth 10000
section
variable {w : World} {a b : Option Addr} {n c m d : Nat} {l l' : List Entry}
theorem k_lused1 {r r' : REnt} {t t' : List Int} (h : Row encId w r.ty.a r.ty.n r.ty.c t) (h' : Row encId w r'.ty.a r'.ty.n r'.ty.c t') :
    Cl Tryz.prog 151 #[.agg (encEnt r).toArray, .agg (encEnt r').toArray] w (fun v w' => v = .int .i64 (cmpL t t') ∧ ∃ o1 o2, w' = (w.alloc o1).alloc o2) := by
  refine c151 r.st r.ty.a r.ty.n r.ty.c r.num r'.st r'.ty.a r'.ty.n r'.ty.c r'.num ?_
  rintro _ w1 rfl h1 _ w2 rfl h2
  have q1 : w2.heap[w.heap.size]? = some (.cells #[.int .i64 r.st, .slice r.ty.a r.ty.n r.ty.c, .int .i64 r.num] 94) := by rw [h2, h1]; exact blk_alloc (blk_new _)
  have q2 : w2.heap[w1.heap.size]? = some (.cells #[.int .i64 r'.st, .slice r'.ty.a r'.ty.n r'.ty.c, .int .i64 r'.num] 94) := by rw [h2]; exact blk_new _
  have B : Below w.heap.size w w2 := by rw [h2, h1]; exact (alloc_below w _).alloc (by rw [size_alloc]; omega) _
  exact ⟨_, _, _, blk_cell q1 1, _, _, _, blk_cell q2 1, (k_tCompare (h.below B) (h'.below B)).is ⟨_, rfl, rfl, _, _, by rw [h2, h1]⟩⟩
/-- Which slots are not used. -/
theorem k_lused2 {r : REnt} : Cl Tryz.prog 153 #[.agg (encEnt r).toArray] w (Gives w (.bool (r.st != 1))) := by
  refine c153 r.st r.ty.a r.ty.n r.ty.c r.num ?_
  rintro _ w1 rfl h1
  have q1 : w1.heap[w.heap.size]? = some (.cells #[.int .i64 r.st, .slice r.ty.a r.ty.n r.ty.c, .int .i64 r.num] 94) := by rw [h1]; exact blk_new _
  exact ⟨_, blk_cell q1 0, rfl, by rw [h1]; exact alloc_below _ _⟩
end
end Go.Eng
namespace Go.Eng
open Go Go.RowKit
variable {α : Type} {P : Program}
def setL (cs : Array Value) : Nat → List Value → Array Value
  | _, [] => cs
  | o, v :: vs => setL (cs.setIfInBounds o v) (o + 1) vs
theorem setL_toList : ∀ (vs : List Value) (cs : Array Value) (o : Nat), o + vs.length ≤ cs.size → (setL cs o vs).toList = cs.toList.take o ++ vs ++ cs.toList.drop (o + vs.length)
  | [], cs, o, h => by simp [setL]
  | v :: vs, cs, o, h => by
    rw [setL, setL_toList vs _ _ (by simp at h ⊢; omega), Array.toList_setIfInBounds, list_seg_step cs.toList o v vs (by simp at h ⊢; omega)]
    simp
theorem setL_size : ∀ (vs : List Value) (cs : Array Value) (o : Nat), (setL cs o vs).size = cs.size
  | [], cs, o => rfl
  | v :: vs, cs, o => by rw [setL, setL_size]; simp
theorem wrs_heap {g : Nat} {t : TypeId} {fr : Nat × Nat} : ∀ (vs : List Value) (w : World) (cs : Array Value) (o s : Nat), w.heap[g]? = some (.cells cs t fr) → (wrs w ⟨g, o, none⟩ s vs).heap[g]? = some (.cells (setL cs (o + s) vs) t fr)
  | [], w, cs, o, s, h => h
  | v :: vs, w, cs, o, s, h => by
    have ha : adr ⟨g, o, none⟩ s = ⟨g, o + s, none⟩ := by
      cases s with
      | zero => rfl
      | succ s => exact Addr.add_lit g o (s + 1)
    rw [wrs, ha, setL]
    have := wrs_heap (g := g) (t := t) (fr := fr) vs _ _ o (s + 1) (blk_set h (o + s) v)
    rw [← Nat.add_assoc] at this
    exact this
theorem wrs_grown {g : Nat} : ∀ (vs : List Value) (w : World) (o s : Nat), w.grownBy (wrs w ⟨g, o, none⟩ s vs) (some g)
  | [], w, o, s => ⟨rfl, rfl, rfl, Nat.le_refl _, fun _ _ _ => rfl⟩
  | v :: vs, w, o, s => by
    have ha : (adr ⟨g, o, none⟩ s).block = g := by
      cases s with
      | zero => rfl
      | succ s => exact add_block _ _
    have h := wrs_grown (g := g) vs (w.setCell (adr ⟨g, o, none⟩ s) v) o (s + 1)
    refine ⟨h.os, h.tape, h.output, by have := h.size; simpa [wrs] using this, fun k hk hne => ?_⟩
    rw [wrs, h.block k (by simpa using hk) hne]
    exact Below.heap_setCell _ _ _ _ (by rw [ha]; rintro rfl; exact hne rfl)
theorem flat_set {enc : α → List Value} {k : Nat} (hk : ∀ x, (enc x).length = k) {l : List α} {i : Nat} (hi : i < l.length) (x : α) :
    (l.set i x).flatMap enc = (l.flatMap enc).take (i * k) ++ enc x ++ (l.flatMap enc).drop (i * k + k) := by
  have h1 : l.flatMap enc = (l.take i).flatMap enc ++ (l.drop i).flatMap enc := by rw [← List.flatMap_append, List.take_append_drop]
  have h2 : ((l.take i).flatMap enc).length = i * k := by rw [length_flat hk, List.length_take, Nat.min_eq_left (by omega)]
  have h3 : (l.drop i).flatMap enc = enc l[i] ++ (l.drop (i + 1)).flatMap enc := by rw [List.drop_eq_getElem_cons hi, List.flatMap_cons]
  rw [List.set_eq_take_append_cons_drop, if_pos hi, List.flatMap_append, List.flatMap_cons, h1, List.take_left' h2, h3, ← List.append_assoc, ← List.append_assoc]
  congr 1
  rw [List.drop_left' (by rw [List.length_append, h2, hk])]
section
variable {enc : α → List Value} {k : Nat} {e : TypeId} {lo : Nat} {w : World} {a : Option Addr} {n c : Nat} {l : List α}
/-- An element is put into a row of one's own. -/
theorem Own.put (E : En enc k) (h : Own enc k e lo w a n c l) {i : Nat} (hi : i < n) (x : α) :
    ∃ g, a = some ⟨g, 0, none⟩ ∧ lo ≤ g ∧ (∀ j, j < k → (w.cell? ((Addr.add ⟨g, 0, none⟩ (i * k)).add j)).isSome = true ∧ w.frozen? ((Addr.add ⟨g, 0, none⟩ (i * k)).add j) = false) ∧
      Own enc k e lo (wrs w (Addr.add ⟨g, 0, none⟩ (i * k)) 0 (enc x)) a n c (l.set i x) ∧ w.grownBy (wrs w (Addr.add ⟨g, 0, none⟩ (i * k)) 0 (enc x)) (some g) := by
  have hnl := h.1
  rcases h.2.2.2 with ⟨ha, hc⟩ | ⟨g, cs, ha, hlo, hg, hsz, ht⟩
  · have := h.2.1; omega
  · have hle : i * k + k ≤ n * k := by
      have : (i + 1) * k ≤ n * k := Nat.mul_le_mul_right _ hi
      rw [Nat.add_mul] at this; omega
    have hnc : n * k ≤ c * k := Nat.mul_le_mul_right _ h.2.1
    refine ⟨g, ha, hlo, ?_⟩
    rw [Addr.add_lit, Nat.zero_add]
    refine ⟨fun j hj => ?_, ⟨by simp [hnl], h.2.1, h.2.2.1, .inr ⟨g, _, ha, hlo, wrs_heap (enc x) w cs (i * k) 0 hg, by rw [setL_size]; exact hsz, ?_⟩⟩, wrs_grown _ _ _ _⟩
    · rw [Addr.add_lit]; exact ⟨blk_some hg (by omega), blk_free hg _⟩
    · rw [Nat.add_zero, setL_toList _ _ _ (by rw [E.len]; omega), flat_set E.len (by omega) x, ← ht, E.len, List.take_take, Nat.min_eq_left (by omega), List.drop_take]
      rw [List.take_append, List.take_of_length_le (by simp [E.len]; omega)]
      congr 2
      simp [E.len]
      omega
end
end Go.Eng
namespace Go.Eng
open Go Go.RowKit Go.Proofs
set_option maxRecDepth 10000
section
variable {w : World} {a b : Option Addr} {n c m d lo : Nat} {rs : List REnt} {p : REnt → Bool} {f : FuncId} {cf : List Value}
def idxOf {α : Type} (p : α → Bool) (l : List α) : Int := match l.findIdx? p with | some i => (i : Int) | none => -1
theorem k_IdxEnts (h : Row encEnt w a n c rs) (hp : ∀ W r, Below w.heap.size w W → Cl Tryz.prog f (([.agg (encEnt r).toArray] : List Value) ++ cf).toArray W (Gives W (.bool (p r)))) :
    Cl Tryz.prog 166 #[.slice a n c, .func (.func f) #[] cf.toArray] w (Gives w (.int .i64 (idxOf p rs))) := by
  obtain rfl : n = rs.length := h.len
  have e3 := h.n63
  refine c166 _ _ _ f cf ⟨fun _ i W => Below w.heap.size w W ∧ ∃ k : Nat, i = k ∧ k ≤ rs.length ∧ ∀ j (hj : j < rs.length), j < k → p rs[j] = false, fun _ i _ => rs.length - i.toNat, ⟨Below.refl _ _, 0, rfl, by omega, by intros; omega⟩, ?_⟩
  rintro _ W s _ ⟨hB, k, rfl, hk, hno⟩
  refine cnd (fun hc => ?_) fun hc => ?_
  · have hkn : k < rs.length := by simpa using hc
    refine (h.below hB).entN hkn fun hl => (hp W rs[k] hB).gives fun w2 hB2 => ⟨_, rfl, cnd (fun g => ⟨?_, hB.trans (hB2.mono hB.size)⟩) fun g => ?_⟩
    · have : rs.findIdx? p = some k := by
        rw [List.findIdx?_eq_some_iff_getElem]
        exact ⟨hkn, g, fun j hj => by rw [hno j (by omega) hj]; simp⟩
      simp [idxOf, this]
    · rw [nx (by omega)]
      refine ⟨⟨hB.trans (hB2.mono hB.size), k + 1, rfl, by omega, fun j hj hjk => ?_⟩, dec hkn⟩
      by_cases hjk' : j = k
      · subst hjk'; exact g
      · exact hno j hj (by omega)
  · have hkn : ¬ k < rs.length := by simpa using hc
    have : rs.findIdx? p = none := by
      rw [List.findIdx?_eq_none_iff]
      intro x hx
      obtain ⟨j, hj, rfl⟩ := List.mem_iff_getElem.1 hx
      exact hno j hj (by omega)
    exact ⟨by simp [idxOf, this], hB⟩
theorem k_DelEnts (h : Own encEnt 3 94 lo w a n c rs) (hlo : lo ≤ w.heap.size) (hn : n ≤ 1048576) (hp : ∀ W r, Cl Tryz.prog f (([.agg (encEnt r).toArray] : List Value) ++ cf).toArray W (Gives W (.bool (p r)))) :
    Cl Tryz.prog 152 #[.slice a n c, .func (.func f) #[] cf.toArray] w (fun v w' => ∃ m, v = .slice a m c ∧ Own encEnt 3 94 lo w' a m c (rs.filter fun r => !p r) ∧ Below lo w w') := by
  obtain rfl : n = rs.length := h.len
  have hle := h.2.1
  refine c152 _ _ _ f cf ((k_IdxEnts h.row (fun W r _ => hp W r)).gives fun w1 B1 => ⟨_, rfl, ?_⟩)
  cases hidx : rs.findIdx? p with
  | none =>
    rw [show idxOf p rs = -1 by simp [idxOf, hidx]]
    refine cnd (fun _ => ⟨_, rfl, ?_, B1.mono hlo⟩) fun h0 => by cases h0
    have : (rs.filter fun r => !p r) = rs := by
      rw [List.filter_eq_self]
      intro r hr
      have := List.findIdx?_eq_none_iff.1 hidx r hr
      simp [this]
    rw [this]; exact h.below B1
  | some i0 =>
    rw [show idxOf p rs = (i0 : Int) by simp [idxOf, hidx]]
    obtain ⟨hi0, hpi, hnot⟩ := List.findIdx?_eq_some_iff_getElem.1 hidx
    refine cnd (fun h0 => by simp at h0) fun _ => ?_
    rw [nx (by omega)]
    refine ⟨fun i j W => Below lo w W ∧ ∃ (i' j' : Nat) (L : List REnt), i = i' ∧ j = j' ∧ i' ≤ j' ∧ j' ≤ rs.length ∧ L.length = rs.length ∧ Own encEnt 3 94 lo W a rs.length c L ∧ L.take i' = (rs.take j').filter (fun r => !p r) ∧ L.drop j' = rs.drop j',
      fun _ j _ => rs.length - j.toNat, ⟨B1.mono hlo, i0, i0 + 1, rs, rfl, rfl, by omega, by omega, rfl, h.below B1, ?_, rfl⟩, ?_⟩
    · rw [take_one hi0, List.filter_append]
      have h1 : (rs.take i0).filter (fun r => !p r) = rs.take i0 := by
        rw [List.filter_eq_self]
        intro r hr
        obtain ⟨j, hj, rfl⟩ := List.mem_iff_getElem.1 hr
        have hj' : j < i0 := by simp at hj; omega
        have := hnot j hj'
        simpa using this
      rw [h1]; simp [-List.take_append_getElem, hpi]
    · rintro _ W _ _ ⟨hB, i, j, L, rfl, rfl, hij, hj, hL, ho, htk, hdr⟩
      refine cnd (fun hc => ?_) fun hc => ?_
      · have hjn : j < rs.length := by simpa using hc
        have hget : ∀ hl : j < L.length, L[j] = rs[j] := by
          intro hl
          have h1 := List.drop_eq_getElem_cons hl
          have h2 := List.drop_eq_getElem_cons hjn
          rw [hdr, h2] at h1
          exact (List.cons.inj h1).1.symm
        refine ho.row.entN hjn fun hl => box_ent fun w4 s4 B4 => ⟨_, _, _, _, _, blk_cell s4 0, blk_cell s4 1, blk_cell s4 2, (hp w4 L[j]).gives fun w5 B5 => ⟨_, rfl, ?_⟩⟩
        have hlW : lo ≤ W.heap.size := Nat.le_trans hlo hB.size
        have B45 := B4.trans (B5.mono B4.size)
        have hB5 := hB.trans (B45.mono hlW)
        have ho5 := ho.below B45
        have s5 := blk_below s4 B5 (blk_lt s4)
        have hd1 : L.drop (j + 1) = rs.drop (j + 1) := by
          have := congrArg (List.drop 1) hdr
          simpa [List.drop_drop, Nat.add_comm] using this
        have hstep : (rs.take (j + 1)).filter (fun r => !p r) = (rs.take j).filter (fun r => !p r) ++ (if (!p L[j]) = true then [L[j]] else []) := by
          rw [take_one hjn, List.filter_append, hget hl]; simp only [List.filter_cons, List.filter_nil]
        refine cnd (fun g => ?_) fun g => ?_
        · refine ⟨_, _, _, _, _, blk_cell s5 0, blk_cell s5 1, blk_cell s5 2, ?_⟩
          obtain ⟨gb, ha, hgl, hcells, hput, hgr⟩ := ho5.put enEnt (i := i) (by omega) L[j]
          have c0 := hcells 0 (by decide)
          rw [Addr.add_zero'] at c0
          refine ⟨⟨gb, 0, none⟩, ha, by omega, by omega, ?_⟩
          rw [Int.toNat_natCast]
          refine ⟨c0.1, c0.2, (hcells 1 (by decide)).1, (hcells 1 (by decide)).2, (hcells 2 (by decide)).1, (hcells 2 (by decide)).2, ?_⟩
          rintro w6 h6
          rw [nx (k := i) (by omega), nx (k := j) (by omega)]
          have h6' : w6 = wrs w5 (Addr.add ⟨gb, 0, none⟩ (i * 3)) 0 (encEnt L[j]) := h6
          subst h6'
          refine ⟨⟨hB5.grown hgr (Nat.le_trans hlo hB5.size) (fun k e => by cases e; exact hgl), i + 1, j + 1, L.set i L[j], rfl, rfl, by omega, by omega, by simp [hL], hput, ?_, ?_⟩, dec hjn⟩
          · rw [hstep, if_pos g, ← htk, take_one (by simp; omega)]
            simp [-List.take_append_getElem, List.take_set_of_le]
          · rw [List.drop_set_of_lt (by omega)]; exact hd1
        · rw [nx (k := j) (by omega)]
          refine ⟨⟨hB5, i, j + 1, L, rfl, rfl, by omega, by omega, hL, ho5, ?_, hd1⟩, dec hjn⟩
          rw [hstep, if_neg (by rw [g]; simp), List.append_nil]; exact htk
      · have hjn : j = rs.length := by have : ¬ j < rs.length := by simpa using hc
                                       omega
        subst hjn
        rw [take_all (Nat.le_refl _)] at htk
        simp only [Int.toNat_natCast]
        refine ⟨by omega, by omega, ?_⟩
        have ht := ho.take enEnt.len i c hij (by omega) (Nat.le_refl _)
        obtain ⟨w7, hrun, ho7, hg7⟩ := clear_own (ty := 0) (m := rs.length - i) (c1 := c) (c2 := c - i) tyEnts enEnt (by simp [Value.cells, Value.oneCell']) ht (by omega) (Nat.le_refl _)
        refine ⟨w7, hrun, by omega, by omega, i, rfl, ?_, hB.trans (ht.belowOf hg7 (Nat.le_trans hlo hB.size))⟩
        rw [← htk]; exact ho7
end
end Go.Eng
namespace Go.Eng
open Go Go.RowKit Go.Proofs
set_option maxRecDepth 10000
/-- Nodes, entries in memory of one's own (what they hold may lie elsewhere). -/
def OwnNodes (lo : Nat) (w : World) (a : Option Addr) (n c : Nat) (l : List Node) : Prop := ∃ rs, Own encNode 4 56 lo w a n c rs ∧ All2 (IsNode w) rs l
def OwnEnts (lo : Nat) (w : World) (a : Option Addr) (n c : Nat) (l : List Entry) : Prop := ∃ rs, Own encEnt 3 94 lo w a n c rs ∧ All2 (IsEnt w) rs l
theorem OwnNodes.nodes {lo : Nat} {w : World} {a : Option Addr} {n c : Nat} {l : List Node} (h : OwnNodes lo w a n c l) : Nodes w a n c l := by obtain ⟨rs, h1, h2⟩ := h; exact ⟨rs, h1.row, h2⟩
theorem OwnEnts.ents {lo : Nat} {w : World} {a : Option Addr} {n c : Nat} {l : List Entry} (h : OwnEnts lo w a n c l) : Ents w a n c l := by obtain ⟨rs, h1, h2⟩ := h; exact ⟨rs, h1.row, h2⟩
def node1 : Node := ⟨true, [], [], []⟩
end Go.Eng
namespace Go.Eng
open Go Go.RowKit Go.Proofs
set_option maxRecDepth 10000
theorem grown_trans {w w' w'' : World} {r : Option Nat} (h : w.grownBy w' r) (h' : w'.grownBy w'' r) : w.grownBy w'' r :=
  ⟨h'.os.trans h.os, h'.tape.trans h.tape, h'.output.trans h.output, Nat.le_trans h.size h'.size, fun b hb hne => (h'.block b (by have := h.size; omega) hne).trans (h.block b hb hne)⟩
theorem grown_of_below {w w' : World} {r : Option Nat} (h : Below w.heap.size w w') : w.grownBy w' r := ⟨h.os, h.tape, h.output, h.size, fun k hk _ => h.block k hk⟩
theorem grown_from {w w0 w' : World} {r : Option Nat} (hB : Below w.heap.size w w0) (h : w0.grownBy w' r) : w.grownBy w' r := grown_trans (grown_of_below hB) h
section
variable {w : World} {a b : Option Addr} {n c m d lo : Nat} {rs : List Stp} {p : Stp → Bool} {f : FuncId} {cf : List Value}
theorem k_IdxSteps (h : Row encStp w a n c rs) (hp : ∀ W r, Below w.heap.size w W → Cl Tryz.prog f (([.agg (encStp r).toArray] : List Value) ++ cf).toArray W (Gives W (.bool (p r)))) :
    Cl Tryz.prog 112 #[.slice a n c, .func (.func f) #[] cf.toArray] w (Gives w (.int .i64 (idxOf p rs))) := by
  obtain rfl : n = rs.length := h.len
  have e3 := h.n63
  refine c112 _ _ _ f cf ⟨fun _ i W => Below w.heap.size w W ∧ ∃ k : Nat, i = k ∧ k ≤ rs.length ∧ ∀ j (hj : j < rs.length), j < k → p rs[j] = false, fun _ i _ => rs.length - i.toNat, ⟨Below.refl _ _, 0, rfl, by omega, by intros; omega⟩, ?_⟩
  rintro _ W s _ ⟨hB, k, rfl, hk, hno⟩
  refine cnd (fun hc => ?_) fun hc => ?_
  · have hkn : k < rs.length := by simpa using hc
    refine (h.below hB).stpN hkn fun hl => (hp W rs[k] hB).gives fun w2 hB2 => ⟨_, rfl, cnd (fun g => ⟨?_, hB.trans (hB2.mono hB.size)⟩) fun g => ?_⟩
    · have : rs.findIdx? p = some k := by
        rw [List.findIdx?_eq_some_iff_getElem]
        exact ⟨hkn, g, fun j hj => by rw [hno j (by omega) hj]; simp⟩
      simp [idxOf, this]
    · rw [nx (by omega)]
      refine ⟨⟨hB.trans (hB2.mono hB.size), k + 1, rfl, by omega, fun j hj hjk => ?_⟩, dec hkn⟩
      by_cases hjk' : j = k
      · subst hjk'; exact g
      · exact hno j hj (by omega)
  · have hkn : ¬ k < rs.length := by simpa using hc
    have : rs.findIdx? p = none := by
      rw [List.findIdx?_eq_none_iff]
      intro x hx
      obtain ⟨j, hj, rfl⟩ := List.mem_iff_getElem.1 hx
      exact hno j hj (by omega)
    exact ⟨by simp [idxOf, this], hB⟩
theorem k_DelSteps (h : Own encStp 2 71 lo w a n c rs) (hlo : lo ≤ w.heap.size) (hn : n ≤ 1048576) (hp : ∀ W r, w.grownBy W (a.map (·.block)) → Cl Tryz.prog f (([.agg (encStp r).toArray] : List Value) ++ cf).toArray W (Gives W (.bool (p r)))) :
    Cl Tryz.prog 64 #[.slice a n c, .func (.func f) #[] cf.toArray] w (fun v w' => ∃ m, v = .slice a m c ∧ Own encStp 2 71 lo w' a m c (rs.filter fun r => !p r) ∧ w.grownBy w' (a.map (·.block))) := by
  obtain rfl : n = rs.length := h.len
  have hle := h.2.1
  refine c64 _ _ _ f cf ((k_IdxSteps h.row (fun W r hW => hp W r (grown_of_below hW))).gives fun w1 B1 => ⟨_, rfl, ?_⟩)
  cases hidx : rs.findIdx? p with
  | none =>
    rw [show idxOf p rs = -1 by simp [idxOf, hidx]]
    refine cnd (fun _ => ⟨_, rfl, ?_, grown_of_below B1⟩) fun h0 => by cases h0
    have : (rs.filter fun r => !p r) = rs := by
      rw [List.filter_eq_self]
      intro r hr
      have := List.findIdx?_eq_none_iff.1 hidx r hr
      simp [this]
    rw [this]; exact h.below B1
  | some i0 =>
    rw [show idxOf p rs = (i0 : Int) by simp [idxOf, hidx]]
    obtain ⟨hi0, hpi, hnot⟩ := List.findIdx?_eq_some_iff_getElem.1 hidx
    refine cnd (fun h0 => by simp at h0) fun _ => ?_
    rw [nx (by omega)]
    refine ⟨fun i j W => w.grownBy W (a.map (·.block)) ∧ ∃ (i' j' : Nat) (L : List Stp), i = i' ∧ j = j' ∧ i' ≤ j' ∧ j' ≤ rs.length ∧ L.length = rs.length ∧ Own encStp 2 71 lo W a rs.length c L ∧ L.take i' = (rs.take j').filter (fun r => !p r) ∧ L.drop j' = rs.drop j',
      fun _ j _ => rs.length - j.toNat, ⟨grown_of_below B1, i0, i0 + 1, rs, rfl, rfl, by omega, by omega, rfl, h.below B1, ?_, rfl⟩, ?_⟩
    · rw [take_one hi0, List.filter_append]
      have h1 : (rs.take i0).filter (fun r => !p r) = rs.take i0 := by
        rw [List.filter_eq_self]
        intro r hr
        obtain ⟨j, hj, rfl⟩ := List.mem_iff_getElem.1 hr
        have hj' : j < i0 := by simp at hj; omega
        have := hnot j hj'
        simpa using this
      rw [h1]; simp [-List.take_append_getElem, hpi]
    · rintro _ W _ _ ⟨hB, i, j, L, rfl, rfl, hij, hj, hL, ho, htk, hdr⟩
      refine cnd (fun hc => ?_) fun hc => ?_
      · have hjn : j < rs.length := by simpa using hc
        have hget : ∀ hl : j < L.length, L[j] = rs[j] := by
          intro hl
          have h1 := List.drop_eq_getElem_cons hl
          have h2 := List.drop_eq_getElem_cons hjn
          rw [hdr, h2] at h1
          exact (List.cons.inj h1).1.symm
        refine ho.row.stpN hjn fun hl => box_stp fun w4 s4 B4 => ⟨_, _, blk_cell s4 0, blk_cell s4 1, (hp w4 L[j] (grown_trans hB (grown_of_below B4))).gives fun w5 B5 => ⟨_, rfl, ?_⟩⟩
        have hlW : lo ≤ W.heap.size := Nat.le_trans hlo hB.size
        have B45 := B4.trans (B5.mono B4.size)
        have hB5 : w.grownBy w5 (a.map (·.block)) := grown_trans hB (grown_of_below B45)
        have ho5 := ho.below B45
        have s5 := blk_below s4 B5 (blk_lt s4)
        have hd1 : L.drop (j + 1) = rs.drop (j + 1) := by
          have := congrArg (List.drop 1) hdr
          simpa [List.drop_drop, Nat.add_comm] using this
        have hstep : (rs.take (j + 1)).filter (fun r => !p r) = (rs.take j).filter (fun r => !p r) ++ (if (!p L[j]) = true then [L[j]] else []) := by
          rw [take_one hjn, List.filter_append, hget hl]; simp only [List.filter_cons, List.filter_nil]
        refine cnd (fun g => ?_) fun g => ?_
        · refine ⟨_, _, blk_cell s5 0, blk_cell s5 1, ?_⟩
          obtain ⟨gb, ha, hgl, hcells, hput, hgr⟩ := ho5.put enStp (i := i) (by omega) L[j]
          have c0 := hcells 0 (by decide)
          rw [Addr.add_zero'] at c0
          refine ⟨⟨gb, 0, none⟩, ha, by omega, by omega, ?_⟩
          rw [Int.toNat_natCast]
          refine ⟨c0.1, c0.2, (hcells 1 (by decide)).1, (hcells 1 (by decide)).2, ?_⟩
          rintro w6 h6
          rw [nx (k := i) (by omega), nx (k := j) (by omega)]
          have h6' : w6 = wrs w5 (Addr.add ⟨gb, 0, none⟩ (i * 2)) 0 (encStp L[j]) := h6
          subst h6'
          refine ⟨⟨grown_trans hB5 (by rw [ha]; exact hgr), i + 1, j + 1, L.set i L[j], rfl, rfl, by omega, by omega, by simp [hL], hput, ?_, ?_⟩, dec hjn⟩
          · rw [hstep, if_pos g, ← htk, take_one (by simp; omega)]
            simp [-List.take_append_getElem, List.take_set_of_le]
          · rw [List.drop_set_of_lt (by omega)]; exact hd1
        · rw [nx (k := j) (by omega)]
          refine ⟨⟨hB5, i, j + 1, L, rfl, rfl, by omega, by omega, hL, ho5, ?_, hd1⟩, dec hjn⟩
          rw [hstep, if_neg (by rw [g]; simp), List.append_nil]; exact htk
      · have hjn : j = rs.length := by have : ¬ j < rs.length := by simpa using hc
                                       omega
        subst hjn
        rw [take_all (Nat.le_refl _)] at htk
        simp only [Int.toNat_natCast]
        refine ⟨by omega, by omega, ?_⟩
        have ht := ho.take enStp.len i c hij (by omega) (Nat.le_refl _)
        obtain ⟨w7, hrun, ho7, hg7⟩ := clear_own (ty := 0) (m := rs.length - i) (c1 := c) (c2 := c - i) tySteps enStp (by simp [Value.cells, Value.oneCell']) ht (by omega) (Nat.le_refl _)
        refine ⟨w7, hrun, by omega, by omega, i, rfl, ?_, grown_trans hB hg7⟩
        rw [← htk]; exact ho7
end
end Go.Eng
namespace Go.Eng
open Go Go.RowKit Go.Proofs
set_option maxRecDepth 10000
section
variable {w : World} {a b : Option Addr} {n c m d lo : Nat} {l : List Stp} {li : List Int}
theorem k_IndexSteps (h : Row encStp w a n c l) (x y : Int) : Cl Tryz.prog 149 #[.slice a n c, .agg #[.int .u64 x, .int .i64 y]] w (fun v w' => (∃ i : Int, v = .int .i64 i ∧ (0 ≤ i ↔ (x, y) ∈ l)) ∧ Below w.heap.size w w') := by
  have e1 := h.len; have e3 := h.n63
  refine c149 _ _ _ _ _ ?_
  rintro _ w1 rfl h1
  have q1 : w1.heap[w.heap.size]? = some (.cells #[.int .u64 x, .int .i64 y] 71) := by rw [h1]; exact blk_new _
  have B1 : Below w.heap.size w w1 := by rw [h1]; exact alloc_below _ _
  clear h1
  refine ⟨fun _ i W => (Below w.heap.size w W ∧ W.heap[w.heap.size]? = some (.cells #[.int .u64 x, .int .i64 y] 71)) ∧ ∃ k : Nat, i = k ∧ k ≤ n ∧ (x, y) ∉ l.take k, fun _ i _ => n - i.toNat, ⟨⟨B1, q1⟩, 0, rfl, by omega, by simp⟩, ?_⟩
  rintro _ W s _ ⟨⟨hB, q⟩, k, rfl, hk, ht⟩
  refine cnd (fun hc => ?_) fun hc => ?_
  · have hkn : k < n := by simpa using hc
    rintro w3 rfl
    have q3 := blk_drew q
    refine ⟨_, _, blk_cell q3 0, blk_cell q3 1, (h.below hB.drew).stpN hkn fun hl => ⟨_, stp_eq, cnd (fun hc => ⟨⟨_, rfl, ?_⟩, hB.drew⟩) fun hc => ?_⟩⟩
    · have hx : l[k] = (x, y) := by
        have h1 := (Bool.and_eq_true _ _).mp hc
        exact (Prod.ext (by simpa using h1.1) (by simpa using h1.2) : (x, y) = l[k]).symm
      have : (x, y) ∈ l := by rw [← hx]; exact List.getElem_mem _
      simp [this]
    · have hx : ¬ (x, y) = l[k] := by
        intro h0; rw [← h0] at hc; simp at hc
      rw [nx (by omega)]
      refine ⟨⟨⟨hB.drew, q3⟩, k + 1, rfl, by omega, ?_⟩, dec hkn⟩
      rw [take_one hl, List.mem_append, List.mem_singleton]
      exact fun h0 => h0.elim ht hx
  · have hkn : ¬ k < n := by simpa using hc
    rw [take_all (by omega)] at ht
    exact ⟨⟨_, rfl, by simp [ht]⟩, hB⟩
theorem k_ContainsSteps (h : Row encStp w a n c l) (x y : Int) : Cl Tryz.prog 116 #[.slice a n c, .agg #[.int .u64 x, .int .i64 y]] w (Gives w (.bool (decide ((x, y) ∈ l)))) := by
  refine c116 _ _ _ _ _ ?_
  rintro _ w1 rfl h1
  have q1 : w1.heap[w.heap.size]? = some (.cells #[.int .u64 x, .int .i64 y] 71) := by rw [h1]; exact blk_new _
  have B1 : Below w.heap.size w w1 := by rw [h1]; exact alloc_below _ _
  refine ⟨_, _, blk_cell q1 0, blk_cell q1 1, (k_IndexSteps (h.below B1) x y).mono ?_⟩
  rintro _ w2 ⟨⟨i, rfl, hi⟩, B2⟩
  exact ⟨_, rfl, by simp only [hi], B1.trans (B2.mono B1.size)⟩
theorem k_gDrop1 {c0 : Addr} {x y z : Int} (h : w.cell? c0 = some (.int .i64 z)) : Cl Tryz.prog 63 #[.agg #[.int .u64 x, .int .i64 y], .pointer (some c0)] w (Gives w (.bool (y == z))) := by
  refine c63 _ _ _ ?_
  rintro _ w1 rfl h1
  have q1 : w1.heap[w.heap.size]? = some (.cells #[.int .u64 x, .int .i64 y] 71) := by rw [h1]; exact blk_new _
  have B1 : Below w.heap.size w w1 := by rw [h1]; exact alloc_below _ _
  exact ⟨_, blk_cell q1 1, _, cell_below h B1, rfl, B1⟩
theorem k_gcompare {x y x' y' : Int} : Cl Tryz.prog 102 #[.agg #[.int .u64 x, .int .i64 y], .agg #[.int .u64 x', .int .i64 y']] w (Gives w (.int .i64 (cmpI x x'))) := by
  refine c102 _ _ _ _ ?_
  rintro _ w1 rfl h1 _ w2 rfl h2
  have q1 : w2.heap[w.heap.size]? = some (.cells #[.int .u64 x, .int .i64 y] 71) := by rw [h2, h1]; exact blk_alloc (blk_new _)
  have q2 : w2.heap[w1.heap.size]? = some (.cells #[.int .u64 x', .int .i64 y'] 71) := by rw [h2]; exact blk_new _
  have B : Below w.heap.size w w2 := by rw [h2, h1]; exact (alloc_below w _).alloc (by rw [size_alloc]; omega) _
  exact ⟨_, blk_cell q1 0, _, blk_cell q2 0, (k_cmpCompareId x x').is ⟨_, rfl, rfl, B⟩⟩
end
end Go.Eng
namespace Go.Eng
open Go Go.RowKit Go.Proofs
set_option maxRecDepth 10000
def keys (l : List Stp) : List Int := l.map (·.1)
theorem keys_get {l : List Stp} {k : Nat} (h : k < l.length) : (keys l)[k]'(by simpa [keys] using h) = l[k].1 := by simp [keys]
theorem cmpI_lt {x y : Int} : cmpI x y < 0 ↔ x < y := by
  unfold cmpI; split
  · simp [*]
  · split <;> simp [*]
theorem cmpI_eq {x y : Int} : cmpI x y = 0 ↔ x = y := by
  unfold cmpI; split
  · simp; omega
  · split
    · simp; omega
    · simp; omega
section
variable {w : World} {a b : Option Addr} {n c m d lo : Nat} {l : List Stp}
theorem k_BinSearchSteps (h : Row encStp w a n c l) (hsort : (keys l).Pairwise (· < ·)) (hs : n ≤ 1048576) (x y : Int) :
    Cl Tryz.prog 101 #[.slice a n c, .agg #[.int .u64 x, .int .i64 y], .func (.func 102) #[] #[]] w (Gives w (.tuple #[.int .i64 (at2 (keys l) x), .bool (decide (x ∈ keys l))])) := by
  refine c101 _ _ _ _ _ 102 [] ?_
  obtain rfl : n = l.length := h.len
  have kl : (keys l).length = l.length := by simp [keys]
  have up : ∀ (i j : Nat) (hi : i < l.length) (hj : j < l.length), i < j → l[i].1 < l[j].1 := fun i j hi hj hij => by
    have := List.pairwise_iff_getElem.1 hsort i j (by omega) (by omega) hij
    rwa [keys_get hi, keys_get hj] at this
  rintro _ w1 rfl h1
  have q1 : w1.heap[w.heap.size]? = some (.cells #[.int .u64 x, .int .i64 y] 71) := by rw [h1]; exact blk_new _
  have B1 : Below w.heap.size w w1 := by rw [h1]; exact alloc_below _ _
  clear h1
  refine ⟨fun i j W => (Below w.heap.size w W ∧ W.heap[w.heap.size]? = some (.cells #[.int .u64 x, .int .i64 y] 71)) ∧ ∃ i' j' : Nat, i = i' ∧ j = j' ∧ i' ≤ j' ∧ j' ≤ l.length ∧ (∀ k (h : k < l.length), k < i' → l[k].1 < x) ∧ (∀ k (h : k < l.length), j' ≤ k → ¬ l[k].1 < x), fun i j _ => (j - i).toNat,
    ⟨⟨B1, q1⟩, 0, l.length, rfl, rfl, by omega, by omega, by intros; omega, by intros; omega⟩, ?_⟩
  rintro _ W _ _ ⟨⟨hB, q⟩, i, j, rfl, rfl, hij, hj, hlo, hhi⟩
  refine cnd (fun hc => ?_) fun hc => ?_
  · have hlt : i < j := by simpa using hc
    rintro w3 rfl
    have q3 := blk_drew q
    rw [mid_eq (by omega)]
    refine (h.below hB.drew).stpN (i := (i + j) / 2) (by omega) fun hl => ⟨_, _, blk_cell q3 0, blk_cell q3 1, k_gcompare.gives fun w4 B4 => ⟨_, rfl, ?_⟩⟩
    have hB4 := hB.drew.trans (B4.mono hB.drew.size)
    have q4 := blk_below q3 B4 (blk_lt q3)
    refine cnd (fun h2 => ?_) fun h2 => ?_
    · have h2' : l[(i + j) / 2].1 < x := cmpI_lt.1 (by simpa using h2)
      rw [nx (by omega)]
      refine ⟨⟨⟨hB4, q4⟩, (i + j) / 2 + 1, j, rfl, rfl, by omega, hj, fun k hk hki => ?_, hhi⟩, by dsimp only; omega⟩
      by_cases hkm : k = (i + j) / 2
      · subst hkm; exact h2'
      · have := up k ((i + j) / 2) hk hl (by omega); omega
    · have h2' : ¬ l[(i + j) / 2].1 < x := fun h0 => by
        have := cmpI_lt.2 h0
        simp at h2; omega
      refine ⟨⟨⟨hB4, q4⟩, i, (i + j) / 2, rfl, rfl, by omega, by omega, hlo, fun k hk hki => ?_⟩, by dsimp only; omega⟩
      by_cases hkm : k = (i + j) / 2
      · subst hkm; exact h2'
      · have := up ((i + j) / 2) k hl hk (by omega); omega
  · have : i = j := by simp at hc; omega
    subst this
    have hat : at2 (keys l) x = i := at2_eq (by omega) (fun k hk hki => by rw [keys_get (by omega)]; exact hlo k (by omega) hki) (fun hi => by rw [keys_get (by omega)]; exact hhi i (by omega) (Nat.le_refl _))
    have hmem : ∀ (hl : i < l.length), l[i].1 ≠ x → x ∉ keys l := by
      intro hl hne hm
      obtain ⟨k, hk, hkx⟩ := List.mem_iff_getElem.1 hm
      have hk' : k < l.length := by omega
      rw [keys_get hk'] at hkx
      have h3 := hhi i hl (Nat.le_refl _)
      rcases Nat.lt_trichotomy k i with hki | hki | hki
      · have := hlo k hk' hki; omega
      · subst hki; exact hne hkx
      · have := up i k hl hk' hki; omega
    rintro w5 rfl
    have q5 := blk_drew q
    refine cnd (fun hc => ?_) fun hc => ?_
    · have hin : i < l.length := by simpa using hc
      refine (h.below hB.drew).stpN hin fun hl => ⟨_, _, blk_cell q5 0, blk_cell q5 1, k_gcompare.gives fun w6 B6 => ⟨_, rfl, ?_, hB.drew.trans (B6.mono hB.drew.size)⟩⟩
      rw [hat]
      by_cases hx : l[i].1 = x
      · have h1 : x ∈ keys l := List.mem_map.2 ⟨l[i], List.getElem_mem _, hx⟩
        have h2 := cmpI_eq.2 hx
        simp [h1, h2]
      · have h1 := hmem hl hx
        have h2 : cmpI l[i].1 x ≠ 0 := fun h0 => hx (cmpI_eq.1 h0)
        simp [h1, h2]
    · have hin : ¬ i < l.length := by simpa using hc
      have h1 : x ∉ keys l := by
        intro hm
        obtain ⟨k, hk, hkx⟩ := List.mem_iff_getElem.1 hm
        have hk' : k < l.length := by omega
        rw [keys_get hk'] at hkx
        have := hlo k hk' (by omega); omega
      exact ⟨by rw [hat]; simp [h1], hB.drew⟩
end
end Go.Eng
namespace Go.Eng
open Go Go.RowKit Go.Proofs
set_option maxRecDepth 10000
theorem cap_run {P : Program} {w : World} {t e ty : TypeId} (ht : P.underlying t = some (.slice e)) {a : Option Addr} {n c : Nat} : Sem.run P (Builtin.cap_ #[t] ty #[.slice a n c]) w = .ok (.int .i64 c) w := by
  simp [Builtin.cap_, run_underlying ht, goInt]
section
variable {w : World} {a b : Option Addr} {n c m d lo : Nat} {l : List Stp} {x : Stp}
theorem k_InsertSteps (h : Row encStp w a n n l) (hv : Row encStp w b 1 c [x]) {i : Nat} (hi : i ≤ n) (hs : n ≤ 1048570) :
    Cl Tryz.prog 103 #[.slice a n n, .int .i64 (i : Int), .slice b 1 c] w (Made encStp 2 71 w (l.take i ++ x :: l.drop i)) := by
  obtain rfl : n = l.length := h.len
  refine c103 _ _ _ _ _ _ _ ⟨by omega, by omega, cnd (fun hc => by simp at hc) fun _ => cnd (fun hc => ?_) fun hc => ?_⟩
  · have hil : i = l.length := by simp at hc; omega
    obtain ⟨a', n', c', w', hrun, ho, hB⟩ := app_new (c := l.length) (ty := 54) (lo := w.heap.size) tySteps enStp h.rd h.nil (Nat.le_refl _) hv.rd (by omega) (by omega) (c' := c) (by simp only [maxLen]; omega) (by omega)
    refine ⟨a', n', c', w', hrun, _, _, _, rfl, ?_, hB⟩
    rw [hil, List.take_length, List.drop_length]; exact ho
  · have hil : i < l.length := by
      have : ¬ i = l.length := by intro h0; subst h0; simp at hc
      omega
    refine ⟨_, cap_run tySteps.ht, ?_⟩
    rw [wrap64 (i := ((l.length : Nat) : Int) + ((1 : Nat) : Int)) (by omega) (by omega)]
    refine cnd (fun _ => ?_) fun hc => by simp at hc; omega
    obtain ⟨ti, hti, hsz, hby, hz⟩ := tySteps.hi
    have e1 : IntKind.i64.wrap (((l.length : Nat) : Int) + ((1 : Nat) : Int) - (i : Int)) = ((l.length + 1 - i : Nat) : Int) := by rw [wrap64 (by omega) (by omega)]; omega
    have e2 : IntKind.i64.wrap ((i : Int) + ((1 : Nat) : Int)) = ((i + 1 : Nat) : Int) := by rw [wrap64 (by omega) (by omega)]; omega
    rw [e1, e2]
    simp only [Int.toNat_natCast]
    have htk := h.rd.take i (by omega)
    cases a with
    | none => have := h.nil rfl; omega
    | some p =>
      have hold := run_firstCells_some (P := Tryz.prog) w.drew ti.size i p i l.length ((l.take i).flatMap encStp) (by rw [length_flat enStp.len, hsz, List.length_take, Nat.min_eq_left (by omega)]) htk.cells
      have hrun := Lib.run_append_grow_zeros (P := Tryz.prog) w 54 3 54 71 ti _ .i64 .i64 tySteps.ht (by kernel_rfl) hti hz (some p) i l.length _ hold (l.length + 1 - i) (by omega) (by omega) (by omega) (by omega) (by rw [hby]; omega) (growslice_fits (by omega) (by rw [hby]; omega))
      have hik : i + (l.length + 1 - i) = l.length + 1 := by omega
      rw [hik] at hrun
      have hge := grownCap_ge w (l.length + 1) l.length 71
      have hcm := grownCap_le_maxLen w (l.length + 1) l.length 71 (by simp only [maxLen]; omega)
      generalize grownCap w (l.length + 1) l.length 71 = cap at hrun hge hcm
      refine ⟨by omega, by omega, _, _, _, _, hrun, by omega, by omega, ?_⟩
      have hB2 : Below w.heap.size w (w.drew.alloc (.cells ((((l.take i).flatMap encStp).toArray ++ Builtin.zeroCells (Value.agg #[.int .u64 0, .int .i64 0]).cells (l.length + 1 - i)) ++ Builtin.zeroCells (Value.agg #[.int .u64 0, .int .i64 0]).cells (cap - (l.length + 1))) 71)) := ((Below.refl _ _).drew).alloc (Nat.le_refl _) _
      have hg2 := blk_new (w := w.drew) (.cells ((((l.take i).flatMap encStp).toArray ++ Builtin.zeroCells (Value.agg #[.int .u64 0, .int .i64 0]).cells (l.length + 1 - i)) ++ Builtin.zeroCells (Value.agg #[.int .u64 0, .int .i64 0]).cells (cap - (l.length + 1))) 71)
      have hcs : ((((l.take i).flatMap encStp).toArray ++ Builtin.zeroCells (Value.agg #[.int .u64 0, .int .i64 0]).cells (l.length + 1 - i)) ++ Builtin.zeroCells (Value.agg #[.int .u64 0, .int .i64 0]).cells (cap - (l.length + 1))).size = cap * 2 := by
        simp only [Array.size_append, List.size_toArray, size_zeroCells, length_flat enStp.len, List.length_take, tySteps.hz]
        omega
      have hct : ((((l.take i).flatMap encStp).toArray ++ Builtin.zeroCells (Value.agg #[.int .u64 0, .int .i64 0]).cells (l.length + 1 - i)) ++ Builtin.zeroCells (Value.agg #[.int .u64 0, .int .i64 0]).cells (cap - (l.length + 1))).toList.take (i * 2) = (l.take i).flatMap encStp := by
        simp only [Array.toList_append, List.append_assoc]
        exact List.take_left' (by rw [length_flat enStp.len, List.length_take, Nat.min_eq_left (by omega)])
      generalize ((((l.take i).flatMap encStp).toArray ++ Builtin.zeroCells (Value.agg #[.int .u64 0, .int .i64 0]).cells (l.length + 1 - i)) ++ Builtin.zeroCells (Value.agg #[.int .u64 0, .int .i64 0]).cells (cap - (l.length + 1))) = C at hB2 hg2 hcs hct ⊢
      have off : ∀ k, k < cap → offA (some (⟨w.heap.size, 0, none⟩ : Addr)) cap k 2 = some ⟨w.heap.size, k * 2, none⟩ := by
        intro k hk
        have : Nat.beq cap k = false := by
          rw [Bool.eq_false_iff]; intro hh; have := Nat.eq_of_beq_eq_true hh; omega
        simp [offA, this, Addr.add_lit]
      obtain ⟨w3, hr3, hg3, hgr3⟩ := copy_at (ty := 3) (dLen := l.length + 1 - i) (dCap := cap - i) (c := c) tySteps enStp hg2 (hv.rd.below hB2) (by omega) (o := i * 2) (by rw [hcs]; omega)
      have hB3 := hB2.grown hgr3 hB2.size (fun k hk => by cases hk; exact Nat.le_refl _)
      have hdr := (h.rd.below hB3).drop enStp.len i (by omega) (Nat.le_refl _)
      obtain ⟨w5, hr5, hg5, hgr5⟩ := copy_at (ty := 3) (dLen := l.length + 1 - (i + 1)) (dCap := cap - (i + 1)) (c := l.length - i) (w := w3.drew) tySteps enStp hg3 hdr (by omega) (o := (i + 1) * 2) (by simp [hcs, encStp]; omega)
      refine ⟨_, w3, by rw [off i (by omega)]; exact hr3, ?_⟩
      rintro _ rfl
      refine ⟨by omega, by omega, by omega, by omega, _, w5, by rw [off (i + 1) (by omega)]; exact hr5, _, _, _, rfl, ⟨by simp; omega, hge, hcm, .inr ⟨_, _, rfl, Nat.le_refl _, hg5, ?_, ?_⟩⟩, hB3.drew.grown hgr5 hB3.size (fun k hk => by cases hk; exact Nat.le_refl _)⟩
      · simp [hcs, encStp, length_flat enStp.len]; omega
      · have h1 : ((l.take i).flatMap encStp).length = i * 2 := by rw [length_flat enStp.len, List.length_take, Nat.min_eq_left (by omega)]
        have h2 : (l.take i ++ x :: l.drop i).flatMap encStp = (l.take i).flatMap encStp ++ ([x].flatMap encStp) ++ (l.drop i).flatMap encStp := by simp [List.flatMap_append, List.flatMap_cons]
        simp only [List.toList_toArray]
        rw [hct, h2]
        rw [List.take_left' (l₁ := (l.take i).flatMap encStp ++ [x].flatMap encStp) (by rw [List.length_append, h1, length_flat enStp.len]; simp; omega)]
        exact List.take_left' (by rw [List.length_append, List.length_append, h1, length_flat enStp.len, length_flat enStp.len, List.length_drop]; simp; omega)
end
end Go.Eng
namespace Go.Eng
open Go Go.RowKit Go.Proofs
set_option maxRecDepth 10000
section
variable {w : World} {a b : Option Addr} {n c m d lo : Nat} {l : List Stp} {p c0 : Addr} {id to : Int}
/-- What is put: nothing where the id is there. -/
def PutsStep (w : World) (p : Addr) (l : List Stp) (id to : Int) (v : Value) (w' : World) : Prop :=
  v = .tuple #[] ∧ ((id ∈ keys l ∧ Below w.heap.size w w') ∨
  (id ∉ keys l ∧ ∃ w5 a n c, Below w.heap.size w w5 ∧ Own encStp 2 71 w.heap.size w5 a n c (l.take (at2 (keys l) id) ++ (id, to) :: l.drop (at2 (keys l) id)) ∧ w' = w5.setCell p (.slice a n c)))
theorem k_ggone1 (hp : w.cell? p = some (.slice a n n)) (hf : w.frozen? p = false) (h0 : w.cell? c0 = some (.int .u64 id)) (h : Row encStp w a n n l) (hsort : (keys l).Pairwise (· < ·)) (hs : n ≤ 1048570) :
    Cl Tryz.prog 100 #[.pointer (some p), .int .i64 to, .pointer (some c0)] w (PutsStep w p l id to) := by
  refine c100 _ _ _ ?_
  have en := h.len
  have hk : (keys l).length = l.length := by simp [keys]
  have hat := at2_le (keys l) id
  rintro _ rfl
  have hd : Row encStp w.drew a n n l := h.below (Below.refl _ _).drew
  refine ⟨p, rfl, _, _, _, hp, _, h0, (k_BinSearchSteps hd hsort (by omega) id 0).gives fun w2 B2' => ⟨_, _, rfl, cnd (fun g => ?_) fun g => ?_⟩⟩
  · have hno : id ∉ keys l := by simpa using g
    have B2 : Below w.heap.size w w2 := (Below.refl _ _).drew.trans B2'
    rintro _ rfl
    have B3 := B2.drew
    have hp3 := cell_below hp B3
    refine ⟨p, rfl, _, _, _, hp3, _, cell_below h0 B3, ?_⟩
    rintro _ w4 rfl h4
    have B4 : Below w.heap.size w w4 := by rw [h4]; exact B3.alloc B3.size _
    have hnew : Row encStp w4 (some ⟨w2.drew.heap.size, 0, none⟩) 1 1 [(id, to)] := by rw [h4]; exact row_new enStp w2.drew 71 [(id, to)] (by simp)
    refine ⟨cell_below hp B4, (k_InsertSteps (h.below B4) hnew (by omega) hs).mono ?_⟩
    rintro _ w5 ⟨a5, n5, c5, rfl, ho, B5⟩
    have hB5 := B4.trans (B5.mono B4.size)
    refine ⟨_, _, _, rfl, p, rfl, by rw [cell_below hp hB5]; rfl, by rw [hB5.frozen (World.block_lt_of_cell? w p hp), hf], ?_⟩
    rintro _ rfl
    exact ⟨rfl, .inr ⟨hno, w5, _, _, _, hB5, ho.mono B4.size, rfl⟩⟩
  · have hin : id ∈ keys l := by simpa using g
    exact ⟨rfl, .inl ⟨hin, (Below.refl _ _).drew.trans B2'⟩⟩
end
end Go.Eng
namespace Go.Eng
open Go Go.RowKit Go.Proofs
set_option maxRecDepth 10000
/-- Entries in order with one more. -/
def with7 {α : Type} (key : α → List Int) : List α → α → List α
  | [], x => [x]
  | y :: l, x => if cmpL (key x) (key y) < 0 then x :: y :: l else y :: with7 key l x
theorem with7_mem {α : Type} (key : α → List Int) : ∀ (l : List α) (x z : α), z ∈ with7 key l x ↔ z = x ∨ z ∈ l
  | [], x, z => by simp [with7]
  | y :: l, x, z => by
    simp only [with7]
    split
    · simp
    · simp [with7_mem key l x z, or_left_comm]
/-- What lies, and what it says, side by side. -/
abbrev EP := REnt × Entry
end Go.Eng
namespace Go.Eng
open Go Go.RowKit Go.Proofs
set_option maxRecDepth 10000
theorem Ents.pairs {w : World} {a : Option Addr} {n c : Nat} {l : List Entry} (h : Ents w a n c l) : ∃ ps : List EP, Row encEnt w a n c (ps.map (·.1)) ∧ (∀ p ∈ ps, IsEnt w p.1 p.2) ∧ ps.map (·.2) = l := by
  obtain ⟨rs, h1, h2⟩ := h
  have hl := h2.1
  refine ⟨rs.zip l, ?_, ?_, ?_⟩
  · rw [List.map_fst_zip (by omega)]; exact h1
  · intro p hp
    obtain ⟨i, hi, rfl⟩ := List.mem_iff_getElem.1 hp
    simp only [List.length_zip] at hi
    simpa using h2.2 i (by omega) (by omega)
  · rw [List.map_snd_zip (by omega)]
theorem all2_pairs {w : World} {ps : List EP} (h : ∀ p ∈ ps, IsEnt w p.1 p.2) : All2 (IsEnt w) (ps.map (·.1)) (ps.map (·.2)) :=
  ⟨by simp, fun i h1 h2 => by simp at h1; simpa using h _ (List.getElem_mem h1)⟩
/-- All entries that are used, in order. -/
def all7 {α : Type} (st : α → Int) (key : α → List Int) (l : List α) : List α := (l.filter fun p => st p == 1).foldl (fun acc p => with7 key acc p) []
end Go.Eng
namespace Go.Eng
open Go Go.Proofs
theorem cmpL_refl : ∀ l : List Int, cmpL l l = 0
  | [] => rfl
  | x :: l => by simp [cmpL, cmpL_refl l]
theorem cmpL_eq : ∀ {a b : List Int}, cmpL a b = 0 → a = b
  | [], [], _ => rfl
  | [], _ :: _, h => by simp [cmpL] at h
  | _ :: _, [], h => by simp [cmpL] at h
  | x :: a, y :: b, h => by
    simp only [cmpL] at h
    split at h
    · simp at h
    · split at h
      · simp at h
      · rw [cmpL_eq h, show x = y by omega]
theorem cmpL_swap : ∀ a b : List Int, cmpL a b = - cmpL b a
  | [], [] => rfl
  | [], _ :: _ => rfl
  | _ :: _, [] => rfl
  | x :: a, y :: b => by
    simp only [cmpL]
    by_cases h1 : x < y
    · have : ¬ y < x := by omega
      simp [h1, this]
    · by_cases h2 : y < x
      · simp [h1, h2]
      · simp only [h1, h2, if_false]; exact cmpL_swap a b
theorem cmpL_trans : ∀ {a b c : List Int}, cmpL a b < 0 → cmpL b c < 0 → cmpL a c < 0
  | [], [], _, h, _ => by simp [cmpL] at h
  | _ :: _, [], _, h, _ => by simp [cmpL] at h
  | _, _ :: _, [], _, h => by simp [cmpL] at h
  | [], _ :: _, _ :: _, _, _ => by simp [cmpL]
  | x :: a, y :: b, z :: c, h1, h2 => by
    simp only [cmpL] at h1 h2 ⊢
    split at h1
    · split at h2
      · rw [if_pos (by omega)]; decide
      · split at h2
        · simp at h2
        · rw [if_pos (by omega)]; decide
    · split at h1
      · simp at h1
      · split at h2
        · rw [if_pos (by omega)]; decide
        · split at h2
          · simp at h2
          · rw [if_neg (by omega), if_neg (by omega)]; exact cmpL_trans h1 h2
theorem cmpL_tri (a b : List Int) : cmpL a b < 0 ∨ a = b ∨ cmpL b a < 0 := by
  rcases Int.lt_trichotomy (cmpL a b) 0 with h | h | h
  · exact .inl h
  · exact .inr (.inl (cmpL_eq h))
  · exact .inr (.inr (by rw [cmpL_swap]; omega))
theorem cmpL_asym {a b : List Int} (h : cmpL a b < 0) : ¬ cmpL b a < 0 := by rw [cmpL_swap]; omega
theorem swo_cmpL {α : Type} (key : α → List Int) : Go.Sort.SWO (ltOf fun x y : α => cmpL (key x) (key y)) where
  irrefl x := by simp [ltOf, cmpL_refl]
  trans x y z h1 h2 := by
    simp only [ltOf, decide_eq_true_eq] at *
    exact cmpL_trans h1 h2
  ntrans x y z h1 h2 := by
    simp only [ltOf, decide_eq_false_iff_not] at *
    intro h3
    rcases cmpL_tri (key x) (key y) with h | h | h
    · exact h1 h
    · rw [h] at h3; exact h2 h3
    · exact h2 (cmpL_trans h h3)
end Go.Eng
namespace Go.Eng
open Go Go.RowKit Go.Proofs
set_option maxRecDepth 10000
/-- The entry of a node. -/
def entN (l : List Node) (k : Nat) : Entry := ⟨1, (node l ((k : Int) + 1)).ty, (k : Int) + 1⟩
/-- The types of the used nodes, as a lookup says them. -/
def entsTo (l : List Node) : Nat → List Entry
  | 0 => []
  | k + 1 => if (node l ((k : Int) + 1)).used = true then with7 Entry.ty (entsTo l k) (entN l k) else entsTo l k
def ents12 (l : List Node) : List Entry := entsTo l l.length
end Go.Eng
namespace Go.Eng
open Go Go.RowKit
section
variable {α : Type} [Inhabited α] {enc : α → List Value} {k : Nat} {e : TypeId} {lo : Nat} {w : World} {g n c : Nat} {l : List α}
theorem flatK_get (hk : ∀ x, (enc x).length = k) (hk0 : 0 < k) {l : List α} {j : Nat} (hj : j < l.length * k) : (Go.Sort.flatK enc k l.toArray)[j]! = ((l.flatMap enc)[j]?).getD default := by
  have hdiv : j / k < l.length := Nat.div_lt_of_lt_mul (by rw [Nat.mul_comm]; exact hj)
  have hmod : j % k < k := Nat.mod_lt _ hk0
  rw [Go.Sort.get_flatK _ _ _ _ (by simpa using hj)]
  have h1 := flat_get hk l (j / k) (j % k) hdiv hmod
  rw [Nat.mul_comm, Nat.div_add_mod] at h1
  rw [h1]
  have h2 : (l.toArray)[j / k]! = l[j / k] := by simp [hdiv]
  rw [h2]
  simp [hk, hmod]
theorem own_cell (hk : ∀ x, (enc x).length = k) {cs : Array Value} (hsz : n * k ≤ cs.size) (hn : n = l.length) (ht : cs.toList.take (n * k) = l.flatMap enc) {j : Nat} (hj : j < n * k) : cs[j]? = (l.flatMap enc)[j]? := by
  rw [← ht, List.getElem?_take, if_pos hj, Array.getElem?_toList]
theorem holdsK_of_own (hk : ∀ x, (enc x).length = k) (hk0 : 0 < k) (h : Own enc k e lo w (some ⟨g, 0, none⟩) n c l) : Go.Sort.HoldsK enc k w g 0 l.toArray := by
  obtain ⟨hn, hnc, _, h4⟩ := h
  rcases h4 with ⟨h0, _⟩ | ⟨g', cs, ha, hlo, hg, hsz, ht⟩
  · cases h0
  · cases ha
    intro j hj
    rw [Go.Sort.size_flatK] at hj
    simp only [List.size_toArray] at hj
    have hj' : j < n * k := by rw [hn]; exact hj
    have hle : n * k ≤ cs.size := Nat.le_trans (Nat.mul_le_mul_right _ hnc) hsz
    refine ⟨?_, blk_free hg _⟩
    rw [Nat.zero_add, blk_cell hg, own_cell hk hle hn ht hj', flatK_get hk hk0 hj]
    have : j < (l.flatMap enc).length := by rw [length_flat hk]; exact hj
    rw [List.getElem?_eq_getElem this]; rfl
end
end Go.Eng
namespace Go.Eng
open Go Go.RowKit Go.Proofs
section
variable {α : Type} [Inhabited α] {enc : α → List Value} {k : Nat} {e : TypeId} {lo : Nat} {w : World} {g n c : Nat} {l : List α}
theorem sort_heap {d : Array α} {m : Nat} {os : Array Obj} {b : Nat} (hb : b < w.heap.size) :
    (sortWorldK enc k w g 0 m d os).heap[b]? = if g = b then (w.heap[b]?).map (Go.Sort.onCells (Go.Sort.putCells id 0 (Go.Sort.flatK enc k d))) else w.heap[b]? := by
  unfold sortWorldK
  rw [Go.Sort.heap_grow_old _ _ (by simp only [Go.Sort.putRowK, Go.Sort.putRow, Go.Sort.mapBlock, Array.size_modify]; exact hb)]
  simp only [Go.Sort.putRowK, Go.Sort.putRow, Go.Sort.mapBlock, Array.getElem?_modify]
  split <;> rfl
theorem sort_size {d : Array α} {m : Nat} {os : Array Obj} : w.heap.size ≤ (sortWorldK enc k w g 0 m d os).heap.size := by
  unfold sortWorldK
  rw [Go.Sort.size_grow]
  simp only [Go.Sort.putRowK, Go.Sort.putRow, Go.Sort.mapBlock, Array.size_modify]
  exact Nat.le_add_right _ _
theorem sort_grown {d : Array α} {m : Nat} {os : Array Obj} : w.grownBy (sortWorldK enc k w g 0 m d os) (some g) :=
  ⟨rfl, rfl, rfl, sort_size, fun b hb hne => by rw [sort_heap hb, if_neg (by rintro rfl; exact hne rfl)]⟩
theorem own_of_sort (hk : ∀ x, (enc x).length = k) (hk0 : 0 < k) (h : Own enc k e lo w (some ⟨g, 0, none⟩) n c l) {d : Array α} (hd : d.size = n) {m : Nat} {os : Array Obj} :
    Own enc k e lo (sortWorldK enc k w g 0 m d os) (some ⟨g, 0, none⟩) n c d.toList := by
  obtain ⟨hn, hnc, hmx, h4⟩ := h
  rcases h4 with ⟨h0, _⟩ | ⟨g', cs, ha, hlo, hg, hsz, ht⟩
  · cases h0
  · cases ha
    have hle : n * k ≤ cs.size := Nat.le_trans (Nat.mul_le_mul_right _ hnc) hsz
    refine ⟨by simp [hd], hnc, hmx, .inr ⟨g, Go.Sort.putCells id 0 (Go.Sort.flatK enc k d) cs, rfl, hlo, ?_, ?_, ?_⟩⟩
    · rw [sort_heap (blk_lt hg), if_pos rfl, hg]; rfl
    · simp only [Go.Sort.putCells, Array.size_mapIdx]; exact hsz
    · apply List.ext_getElem?
      intro j
      rw [List.getElem?_take]
      by_cases hj : j < n * k
      · rw [if_pos hj, Array.getElem?_toList]
        have hjs : j < cs.size := by omega
        have hjd : j < d.toList.length * k := by simpa [hd] using hj
        have h1 := flatK_get hk hk0 (l := d.toList) hjd
        have hjl : j < (d.toList.flatMap enc).length := by rw [length_flat hk]; exact hjd
        rw [List.getElem?_eq_getElem hjl] at h1 ⊢
        simp only [Go.Sort.putCells, Array.getElem?_mapIdx, Array.getElem?_eq_getElem hjs, Option.map_some, Go.Sort.size_flatK, hd, Nat.zero_le, true_and, Nat.zero_add, if_pos hj, Nat.sub_zero, id]
        simpa using h1
      · rw [if_neg hj, List.getElem?_eq_none]
        rw [length_flat hk]; simpa [hd] using hj
end
end Go.Eng
namespace Go.Eng
open Go Go.RowKit Go.Proofs
set_option maxRecDepth 10000
theorem Own.map {α β : Type} {enc : β → List Value} {f : α → β} {k : Nat} {e : TypeId} {lo : Nat} {w : World} {a : Option Addr} {n c : Nat} {l : List α} : Own enc k e lo w a n c (l.map f) ↔ Own (fun x => enc (f x)) k e lo w a n c l := by
  unfold Own
  rw [List.length_map, List.flatMap_map]
abbrev EPW (w0 : World) := {p : EP // IsEnt w0 p.1 p.2}
theorem epw {w0 : World} : ∀ (ps : List EP), (∀ p ∈ ps, IsEnt w0 p.1 p.2) → ∃ d : List (EPW w0), d.map (·.1) = ps
  | [], _ => ⟨[], rfl⟩
  | p :: ps, h => by
    obtain ⟨d, hd⟩ := epw ps fun q hq => h q (List.mem_cons_of_mem _ hq)
    exact ⟨⟨p, h p (List.mem_cons_self ..)⟩ :: d, by rw [List.map_cons, hd]⟩
section
variable {w : World} {a : Option Addr} {n c : Nat} {ps : List EP}
theorem k_SortEnts {w0 : World} {g lo : Nat} (B0 : Below w0.heap.size w0 w) (hg : w0.heap.size ≤ g) (ho : Own encEnt 3 94 lo w (some ⟨g, 0, none⟩) n c (ps.map (·.1))) (hlo : lo ≤ g) (hps : ∀ p ∈ ps, IsEnt w0 p.1 p.2) (hs : n ≤ 1048576) :
    Cl Tryz.prog 165 #[.slice (some ⟨g, 0, none⟩) n c, .func (.func 151) #[] #[]] w (fun v w' => v = undef ∧ ∃ ps' : List EP, Own encEnt 3 94 lo w' (some ⟨g, 0, none⟩) n c (ps'.map (·.1)) ∧ ps'.Perm ps ∧ ps'.Pairwise (fun p q => ¬ cmpL q.2.ty p.2.ty < 0) ∧ Below lo w w') := by
  have hgl : g < w.heap.size := (ho.lt rfl).2
  have L := Tryz.sortEnt
  refine ⟨L.f6.enters rfl, ?_⟩
  haveI : Inhabited (EPW w0) := ⟨⟨((⟨0, ⟨none, 0, 0⟩, 0⟩ : REnt), (⟨0, [], 0⟩ : Entry)), rfl, rfl, Row.nil', fun x hx => by simp at hx, by simp [I64], by simp [I64]⟩⟩
  obtain ⟨d, hd⟩ := epw ps hps
  have hn : n = ps.length := by have := ho.len; simpa using this
  have hdl : d.length = n := by rw [hn, ← hd, List.length_map]
  have ho' : Own (fun x : EPW w0 => encEnt x.1.1) 3 94 lo w (some ⟨g, 0, none⟩) n c d := by
    have := ho
    rw [← hd, List.map_map] at this
    exact Own.map.1 this
  have hH := holdsK_of_own (fun x : EPW w0 => enEnt.len x.1.1) (by decide) ho'
  have hcmp : CmpLays Tryz.prog 151 #[] (fun x : EPW w0 => encEnt x.1.1) 3 (fun x y : EPW w0 => cmpL x.1.2.ty y.1.2.ty) g 0 d.toArray.size w := by
    intro m os dk hdk x y
    have B : Below w0.heap.size w0 (sortWorldK (fun x : EPW w0 => encEnt x.1.1) 3 w g 0 m dk os) := B0.grown sort_grown B0.size (fun k e => by cases e; exact hg)
    refine ((k_lused1 (x.2.ty.below B) (y.2.ty.below B)).2).mono ?_
    rintro e w' ⟨v, rfl, rfl, o1, o2, rfl⟩
    refine ⟨rfl, 0, #[o1, o2], ?_⟩
    rw [Go.Sort.alloc_eq_grow, Go.Sort.alloc_eq_grow, Go.Sort.grow_grow]; rfl
  have hsz : d.toArray.size = n := by simpa using hdl
  have key := AnyQ.slices_SortFunc L 3 (fun w => Tryz.isAgg94 w) (fun w => Tryz.sizeOf94 w) (fun x : EPW w0 => encEnt x.1.1) (fun x => enEnt.len x.1.1) (fun x => enEnt.one x.1.1) (fun x y : EPW w0 => cmpL x.1.2.ty y.1.2.ty) (swo_cmpL _) 151 #[] g 0 c d.toArray w
    (ent_of Tryz.func151 (by kernel_rfl) rfl) hcmp hH hgl (by omega)
  rw [hsz] at key
  refine key.mono ?_
  rintro e w' ⟨rfl, d', m, os, hperm, hsort, rfl⟩
  have hd'n : d'.size = n := by rw [hperm.1, hsz]
  refine ⟨_, rfl, rfl, d'.toList.map (·.1), ?_, ?_, ?_, (Below.refl lo w).grown sort_grown (by omega) (fun k e => by cases e; exact hlo)⟩
  · have := own_of_sort (d := d') (m := m) (os := os) (fun x : EPW w0 => enEnt.len x.1.1) (by decide) ho' hd'n
    rw [List.map_map]
    exact Own.map.2 this
  · have h2 := hperm.2.2
    rw [← hsz] at h2
    have e1 : (d'.extract 0 d.toArray.size).toList = d'.toList := by rw [show d.toArray.size = d'.size by omega]; simp
    have e2 : (d.toArray.extract 0 d.toArray.size).toList = d := by simp
    rw [e1, e2] at h2
    have := h2.map (·.1)
    rwa [hd] at this
  · rw [List.pairwise_map, List.pairwise_iff_getElem]
    intro i j hi hj hij
    have := hsort i j (Nat.zero_le _) hij (by simpa [hd'n] using hj)
    simp only [ltOf, decide_eq_false_iff_not] at this
    simpa [getElem!_pos d' i (by simpa using hi), getElem!_pos d' j (by simpa using hj)] using this
theorem k_lsorted (h : Row encEnt w a n c (ps.map (·.1))) (hps : ∀ p ∈ ps, IsEnt w p.1 p.2) (hs : n ≤ 1048576) :
    Cl Tryz.prog 150 #[.slice a n c, .func (.func 151) #[] #[]] w (fun v w' => ∃ (g : Nat) (ps' : List EP), v = .slice (some ⟨g, 0, none⟩) n n ∧ Own encEnt 3 94 w.heap.size w' (some ⟨g, 0, none⟩) n n (ps'.map (·.1)) ∧ ps'.Perm ps ∧ ps'.Pairwise (fun p q => ¬ cmpL q.2.ty p.2.ty < 0) ∧ Below w.heap.size w w') := by
  refine c150 _ _ _ 151 [] (cloned_ok tyEnts enEnt h.rd h.n63 (by omega) fun g w' hg ho hB => ?_)
  refine (k_SortEnts hB (by omega) ho (by omega) hps hs).mono ?_
  rintro v w3 ⟨rfl, ps', ho3, hp, hsrt, B3⟩
  exact ⟨rfl, g, ps', rfl, ho3, hp, hsrt, hB.trans B3⟩
end
end Go.Eng
namespace Go.Eng
open Go Go.RowKit
variable {α : Type}
theorem flat_set1 {enc : α → List Value} {k : Nat} (hk : ∀ x, (enc x).length = k) : ∀ (l : List α) (i j : Nat) (hi : i < l.length) (hj : j < k) (v : Value) (x : α), enc x = (enc l[i]).set j v → (l.set i x).flatMap enc = (l.flatMap enc).set (i * k + j) v
  | y :: l, 0, j, hi, hj, v, x, hx => by
    simp only [List.getElem_cons_zero] at hx
    simp only [List.set_cons_zero, List.flatMap_cons, Nat.zero_mul, Nat.zero_add]
    rw [hx, List.set_append_left _ _ (by rw [hk]; exact hj)]
  | y :: l, i + 1, j, hi, hj, v, x, hx => by
    simp only [List.getElem_cons_succ] at hx
    simp only [List.set_cons_succ, List.flatMap_cons]
    rw [List.set_append_right _ _ (by rw [hk, Nat.add_mul]; omega), hk, flat_set1 hk l i j (by simpa using hi) hj v x hx]
    congr 2
    rw [Nat.add_mul]; omega
section
variable {enc : α → List Value} {k : Nat} {e : TypeId} {lo : Nat} {w : World} {a : Option Addr} {n c : Nat} {l : List α}
/-- A cell of an element is put, in a row of one's own. -/
theorem Own.put1 (E : En enc k) (h : Own enc k e lo w a n c l) {i j : Nat} (hi : i < n) (hj : j < k) (v : Value) (x : α) (hx : ∀ hl : i < l.length, enc x = (enc l[i]).set j v) :
    ∃ g, a = some ⟨g, 0, none⟩ ∧ lo ≤ g ∧ (w.cell? ((Addr.add ⟨g, 0, none⟩ (i * k)).add j)).isSome = true ∧ w.frozen? ((Addr.add ⟨g, 0, none⟩ (i * k)).add j) = false ∧
      Own enc k e lo (w.setCell ((Addr.add ⟨g, 0, none⟩ (i * k)).add j) v) a n c (l.set i x) ∧ w.grownBy (w.setCell ((Addr.add ⟨g, 0, none⟩ (i * k)).add j) v) (some g) ∧ (∃ cs, w.heap[g]? = some (.cells cs e (0, 0))) := by
  have hnl := h.1
  rcases h.2.2.2 with ⟨ha, hc⟩ | ⟨g, cs, ha, hlo, hg, hsz, ht⟩
  · have := h.2.1; omega
  · have hle : i * k + k ≤ n * k := by
      have : (i + 1) * k ≤ n * k := Nat.mul_le_mul_right _ hi
      rw [Nat.add_mul] at this; omega
    have hnc : n * k ≤ c * k := Nat.mul_le_mul_right _ h.2.1
    have had : (Addr.add ⟨g, 0, none⟩ (i * k)).add j = ⟨g, i * k + j, none⟩ := by rw [Addr.add_lit, Nat.zero_add, Addr.add_lit]
    refine ⟨g, ha, hlo, ?_⟩
    rw [had]
    refine ⟨blk_some hg (by omega), blk_free hg _, ⟨by simp [hnl], h.2.1, h.2.2.1, .inr ⟨g, _, ha, hlo, blk_set hg _ v, by simpa using hsz, ?_⟩⟩, ⟨rfl, rfl, rfl, by simp, fun b hb hne => Below.heap_setCell _ _ _ _ (by rintro rfl; exact hne rfl)⟩, cs, hg⟩
    rw [flat_set1 E.len l i j (by omega) hj v x (hx (by omega)), ← ht, Array.toList_setIfInBounds, List.take_set]
end
end Go.Eng
namespace Go.Eng
open Go Go.RowKit Go.Proofs
set_option maxRecDepth 10000
/-- What an entry says but for its type. -/
structure EntSays (r : REnt) (e : Entry) : Prop where
  st : r.st = e.st
  num : r.num = e.num
  rng : Rng e.ty ∧ I64 e.st ∧ I64 e.num
theorem IsEnt.says {w : World} {r : REnt} {e : Entry} (h : IsEnt w r e) : EntSays r e := ⟨h.st, h.num, h.rng⟩
theorem EntSays.is {w : World} {r : REnt} {e : Entry} (h : EntSays r e) (ht : Row encId w r.ty.a r.ty.n r.ty.c e.ty) : IsEnt w r e := ⟨h.st, h.num, ht, h.rng⟩
/-- A row of ids in memory of one's own. -/
abbrev OwnTy (lo : Nat) (w : World) (h : Hd) (l : List Int) : Prop := Own encId 1 32 lo w h.a h.n h.c l
/-- Entries in memory of one's own, their types too. -/
def DEnts (lo : Nat) (w : World) (a : Option Addr) (n c : Nat) (l : List Entry) : Prop :=
  ∃ qs : List EP, qs.map (·.2) = l ∧ Own encEnt 3 94 lo w a n c (qs.map (·.1)) ∧ ∀ p ∈ qs, EntSays p.1 p.2 ∧ OwnTy lo w p.1.ty p.2.ty
theorem DEnts.ents {lo : Nat} {w : World} {a : Option Addr} {n c : Nat} {l : List Entry} (h : DEnts lo w a n c l) : Ents w a n c l := by
  obtain ⟨qs, rfl, ho, hq⟩ := h
  exact ⟨_, ho.row, all2_pairs fun p hp => (hq p hp).1.is (hq p hp).2.row⟩
theorem DEnts.below {lo : Nat} {w w' : World} {a : Option Addr} {n c : Nat} {l : List Entry} (h : DEnts lo w a n c l) (hB : Below w.heap.size w w') : DEnts lo w' a n c l := by
  obtain ⟨qs, rfl, ho, hq⟩ := h
  exact ⟨qs, rfl, ho.below hB, fun p hp => ⟨(hq p hp).1, (hq p hp).2.below hB⟩⟩
theorem DEnts.mono {lo lo' : Nat} {w : World} {a : Option Addr} {n c : Nat} {l : List Entry} (h : DEnts lo w a n c l) (hl : lo' ≤ lo) : DEnts lo' w a n c l := by
  obtain ⟨qs, rfl, ho, hq⟩ := h
  exact ⟨qs, rfl, ho.mono hl, fun p hp => ⟨(hq p hp).1, (hq p hp).2.mono hl⟩⟩
theorem DEnts.len {lo : Nat} {w : World} {a : Option Addr} {n c : Nat} {l : List Entry} (h : DEnts lo w a n c l) : n = l.length := by
  obtain ⟨qs, rfl, ho, hq⟩ := h
  have := ho.len; simpa using this
theorem tyIdEnt : (94 : TypeId) ≠ 32 := by decide
section
variable {w : World} {a : Option Addr} {n c : Nat} {l : List Entry}
theorem k_lused (h : Ents w a n c l) (hn : n ≤ 1048576) (hty : ∀ e ∈ l, e.st = 1 → e.ty.length ≤ 12) : Cl Tryz.prog 119 #[.agg #[.slice a n c]] w (fun v w' => ∃ a' n' c' l', v = .slice a' n' c' ∧ l'.Perm (l.filter fun e => e.st == 1) ∧ l'.Pairwise (fun p q => ¬ cmpL q.ty p.ty < 0) ∧ DEnts w.heap.size w' a' n' c' l' ∧ Below w.heap.size w w') := by
  refine c119 _ _ _ ?_
  obtain ⟨ps, hrow, hps, rfl⟩ := h.pairs
  rintro _ w1 rfl h1
  have q1 : w1.heap[w.heap.size]? = some (.cells #[.slice a n c] 25) := by rw [h1]; exact blk_new _
  have B1 : Below w.heap.size w w1 := by rw [h1]; exact alloc_below _ _
  clear h1
  refine ⟨_, _, _, blk_cell q1 0, (k_lsorted (hrow.below B1) (fun p hp => (hps p hp).below B1) hn).mono ?_⟩
  rintro _ w2 ⟨g, ps', rfl, ho, hperm, hsort, B2'⟩
  have B2 := B1.trans (B2'.mono B1.size)
  refine ⟨_, _, _, rfl, (k_DelEnts (cf := []) (p := fun r => r.st != 1) (ho.mono B1.size) B2.size hn (fun W r => k_lused2)).mono ?_⟩
  rintro _ w3 ⟨m, rfl, ho3, B3'⟩
  have hps' : ∀ p ∈ ps', IsEnt w p.1 p.2 := fun p hp => hps p (hperm.mem_iff.1 hp)
  have hfil : (ps'.map (·.1)).filter (fun r => !(r.st != 1)) = (ps'.filter fun p => p.2.st == 1).map (·.1) := by
    rw [List.filter_map]
    congr 1
    refine List.filter_congr fun p hp => ?_
    show (!(p.1.st != 1)) = (p.2.st == 1)
    rw [(hps' p hp).st]; unfold bne; exact Bool.not_not _
  rw [hfil] at ho3
  generalize hqs0 : (ps'.filter fun p => p.2.st == 1) = qs0 at ho3
  have hqs0m : ∀ p ∈ qs0, IsEnt w p.1 p.2 ∧ p.2.ty.length ≤ 12 := by
    intro p hp
    rw [← hqs0, List.mem_filter] at hp
    exact ⟨hps' p hp.1, hty p.2 (List.mem_map.2 ⟨p, hperm.mem_iff.1 hp.1, rfl⟩) (by simpa using hp.2)⟩
  have hm : m = qs0.length := by have := ho3.len; simpa using this
  refine ⟨_, _, _, rfl, fun i W => Below w.heap.size w W ∧ ∃ (k : Nat) (qs : List EP), i = k ∧ k ≤ m ∧ qs.map (·.2) = qs0.map (·.2) ∧ Own encEnt 3 94 w.heap.size W (some ⟨g, 0, none⟩) m n (qs.map (·.1)) ∧ (∀ p ∈ qs, EntSays p.1 p.2) ∧
      (∀ j (hj : j < qs.length), j < k → OwnTy w.heap.size W qs[j].1.ty qs[j].2.ty) ∧ (∀ j (hj : j < qs.length), k ≤ j → Row encId w qs[j].1.ty.a qs[j].1.ty.n qs[j].1.ty.c qs[j].2.ty ∧ qs[j].2.ty.length ≤ 12), fun i _ => m - i.toNat,
    ⟨B2.trans B3', 0, qs0, rfl, by omega, rfl, ho3, fun p hp => (hqs0m p hp).1.says, fun j hj h => by omega, fun j hj _ => ⟨(hqs0m _ (List.getElem_mem hj)).1.ty, (hqs0m _ (List.getElem_mem hj)).2⟩⟩, ?_⟩
  rintro _ W _ ⟨hB, k, qs, rfl, hk, hsnd, ho, hsay, hown, hrest⟩
  have hql : qs.length = m := by have := congrArg List.length hsnd; simp at this; omega
  refine cnd (fun hc => ?_) fun hc => ?_
  · have hkm : k < m := by simpa using hc
    refine ho.row.entTy hkm fun hl => ?_
    have hkq : k < qs.length := by omega
    have e0 : (qs.map (·.1))[k] = qs[k].1 := by simp
    obtain ⟨hr, hr12⟩ := hrest k hkq (Nat.le_refl _)
    rw [e0]
    refine (k_CloneIds (hr.below hB) (by have := hr.len; omega)).mono ?_
    rintro _ w5 ⟨a5, n5, c5, rfl, ho5, B5⟩
    have hB5 := hB.trans (B5.mono hB.size)
    obtain ⟨g', hga, hgl, hc1, hc2, hput, hgr, cs, hgb⟩ := (ho.below B5).put1 enEnt (i := k) (j := 1) hkm (by decide) (.slice a5 n5 c5) ⟨qs[k].1.st, ⟨a5, n5, c5⟩, qs[k].1.num⟩ (fun hl => by simp [encEnt])
    cases hga
    refine ⟨_, _, _, rfl, _, rfl, by omega, by omega, ?_⟩
    rw [Int.toNat_natCast]
    refine ⟨hc1, hc2, ?_⟩
    rintro w6 h6
    rw [← h6] at hput hgr
    have hm63 := ho3.2.1
    rw [nx (by omega)]
    have far : ∀ {a' : Option Addr} {n' c' : Nat} {l' : List Int}, Own encId 1 32 w.heap.size w5 a' n' c' l' → Own encId 1 32 w.heap.size w6 a' n' c' l' := by
      intro a' n' c' l' ho'
      rw [h6]
      have := ho'.far hgb tyIdEnt (j := k * 3 + 1) (.slice a5 n5 c5)
      rw [Addr.add_lit, Nat.zero_add, Addr.add_lit]
      exact this
    refine ⟨⟨hB5.grown hgr hB5.size (fun b e => by cases e; exact hgl), k + 1, qs.set k (⟨qs[k].1.st, ⟨a5, n5, c5⟩, qs[k].1.num⟩, qs[k].2), rfl, by omega, ?_, ?_, ?_, ?_, ?_⟩, dec hkm⟩
    · rw [List.map_set, ← hsnd]
      exact List.ext_getElem? fun j => by
        rw [List.getElem?_set]
        split
        · rename_i hkj; subst hkj; simp [hkq]
        · rfl
    · rw [List.map_set]; exact hput
    · intro p hp
      rcases List.mem_or_eq_of_mem_set hp with hp | rfl
      · exact hsay p hp
      · have := hsay _ (List.getElem_mem hkq); exact ⟨this.st, this.num, this.rng⟩
    · intro j hj hjk
      rw [List.getElem_set]
      split
      · exact far (ho5.mono hB.size)
      · rename_i hne
        exact far ((hown j (by simpa using hj) (by omega)).below B5)
    · intro j hj hjk
      rw [List.getElem_set_ne (by omega)]
      exact hrest j (by simpa using hj) (by omega)
  · have hkm : ¬ k < m := by simpa using hc
    refine ⟨_, _, _, qs.map (·.2), rfl, ?_, ?_, ⟨qs, rfl, ho, fun p hp => ⟨hsay p hp, ?_⟩⟩, hB⟩
    · rw [hsnd, ← hqs0]
      have := (hperm.map (fun p : EP => p.2)).filter (fun e => e.st == 1)
      rwa [List.filter_map] at this
    · rw [hsnd, ← hqs0, List.pairwise_map]
      exact hsort.filter _
    · obtain ⟨j, hj, rfl⟩ := List.mem_iff_getElem.1 hp
      exact hown j hj (by omega)
end
end Go.Eng
namespace Go.Eng
open Go Go.Proofs
theorem with7_perm {α : Type} (key : α → List Int) : ∀ (l : List α) (x : α), (with7 key l x).Perm (x :: l)
  | [], x => .refl _
  | y :: l, x => by
    simp only [with7]
    split
    · exact .refl _
    · exact ((with7_perm key l x).cons y).trans (.swap x y l)
theorem with7_sorted {α : Type} (key : α → List Int) : ∀ {l : List α} {x : α}, l.Pairwise (fun p q => ¬ cmpL (key q) (key p) < 0) → (with7 key l x).Pairwise (fun p q => ¬ cmpL (key q) (key p) < 0)
  | [], x, _ => List.pairwise_singleton _ _
  | y :: l, x, h => by
    simp only [with7]
    obtain ⟨h1, h2⟩ := List.pairwise_cons.1 h
    split
    · rename_i hlt
      refine List.pairwise_cons.2 ⟨fun z hz => ?_, h⟩
      rcases List.mem_cons.1 hz with rfl | hz
      · exact cmpL_asym hlt
      · intro h3
        have := cmpL_trans h3 hlt
        exact h1 z hz this
    · rename_i hge
      refine List.pairwise_cons.2 ⟨fun z hz => ?_, with7_sorted key h2⟩
      rcases (with7_mem key l x z).1 hz with rfl | hz
      · exact hge
      · exact h1 z hz
theorem foldl7_perm {α : Type} (key : α → List Int) : ∀ (l acc : List α), (l.foldl (fun acc p => with7 key acc p) acc).Perm (l ++ acc)
  | [], acc => .refl _
  | x :: l, acc => by
    simp only [List.foldl_cons]
    refine (foldl7_perm key l _).trans ?_
    refine ((with7_perm key acc x).append_left l).trans ?_
    exact List.perm_middle
theorem foldl7_sorted {α : Type} (key : α → List Int) : ∀ (l acc : List α), acc.Pairwise (fun p q => ¬ cmpL (key q) (key p) < 0) → (l.foldl (fun acc p => with7 key acc p) acc).Pairwise (fun p q => ¬ cmpL (key q) (key p) < 0)
  | [], acc, h => h
  | x :: l, acc, h => foldl7_sorted key l _ (with7_sorted key h)
theorem all7_perm {α : Type} (st : α → Int) (key : α → List Int) (l : List α) : (all7 st key l).Perm (l.filter fun p => st p == 1) := by
  have := foldl7_perm key (l.filter fun p => st p == 1) []
  rwa [List.append_nil] at this
theorem all7_sorted {α : Type} (st : α → Int) (key : α → List Int) (l : List α) : (all7 st key l).Pairwise (fun p q => ¬ cmpL (key q) (key p) < 0) := foldl7_sorted key _ _ .nil
theorem all7_len {α : Type} (st : α → Int) (key : α → List Int) (l : List α) : (all7 st key l).length ≤ l.length := by
  rw [(all7_perm st key l).length_eq]; exact List.length_filter_le _ _
/-- Who has the same key is the same. -/
def KeyInj (l : List Entry) : Prop := ∀ x ∈ l, ∀ y ∈ l, x.st = 1 → y.st = 1 → x.ty = y.ty → x = y
theorem all7_eq {l l' : List Entry} (hk : KeyInj l) (hp : l'.Perm (l.filter fun e => e.st == 1)) (hs : l'.Pairwise (fun p q => ¬ cmpL q.ty p.ty < 0)) : l' = all7 Entry.st Entry.ty l := by
  refine List.Perm.eq_of_pairwise (le := fun p q => ¬ cmpL q.ty p.ty < 0) ?_ hs (all7_sorted _ _ _) (hp.trans (all7_perm _ _ _).symm)
  intro a b ha hb h1 h2
  have ha' := hp.mem_iff.1 ha
  have hb' := (all7_perm Entry.st Entry.ty l).mem_iff.1 hb
  rw [List.mem_filter] at ha' hb'
  rcases cmpL_tri a.ty b.ty with h | h | h
  · exact absurd h h2
  · exact hk a ha'.1 b hb'.1 (by simpa using ha'.2) (by simpa using hb'.2) h
  · exact absurd h h1
theorem checkL_ok {l : List Entry} (h : checkL l = true) : preL l = true ∧ ∀ i, i < l.length → slotOk l i = true := by
  simp only [checkL, Bool.and_eq_true, List.all_eq_true, List.mem_range] at h
  exact h
theorem checkL_used {l : List Entry} (h : checkL l = true) {i : Nat} (hi : i < l.length) (hst : l[i].st = 1) : right2 l[i].ty = true ∧ 0 ≤ l[i].num ∧ place l l[i].ty = (i : Int) := by
  have := (checkL_ok h).2 i hi
  rw [slotOk, slot_eq hi, if_pos hst] at this
  simpa [and_assoc] using this
theorem checkL_inj {l : List Entry} (h : checkL l = true) : KeyInj l := by
  intro x hx y hy h1 h2 hxy
  obtain ⟨i, hi, rfl⟩ := List.mem_iff_getElem.1 hx
  obtain ⟨j, hj, rfl⟩ := List.mem_iff_getElem.1 hy
  have e1 := (checkL_used h hi h1).2.2
  have e2 := (checkL_used h hj h2).2.2
  rw [hxy, e2] at e1
  have : i = j := by omega
  subst this; rfl
theorem checkL_12 {l : List Entry} (h : checkL l = true) : ∀ e ∈ l, e.st = 1 → e.ty.length ≤ 12 := by
  intro e he hst
  obtain ⟨i, hi, rfl⟩ := List.mem_iff_getElem.1 he
  exact (right2_sorted (checkL_used h hi hst).1).2
/-- All entries of a lookup. -/
def allL (l : List Entry) : List Entry := if checkL l = true then all7 Entry.st Entry.ty l else []
end Go.Eng
namespace Go.Eng
open Go Go.RowKit Go.Proofs
set_option maxRecDepth 10000
theorem DEnts.nil {lo : Nat} {w : World} : DEnts lo w none 0 0 [] := ⟨[], rfl, Own.nil, by simp⟩
section
variable {w : World} {a : Option Addr} {n c : Nat} {l : List Entry}
theorem k_lused' (h : Ents w a n c l) (hn : n ≤ 1048576) (hc : checkL l = true) : Cl Tryz.prog 119 #[.agg #[.slice a n c]] w (fun v w' => ∃ a' n' c', v = .slice a' n' c' ∧ DEnts w.heap.size w' a' n' c' (all7 Entry.st Entry.ty l) ∧ Below w.heap.size w w') := by
  refine (k_lused h hn (checkL_12 hc)).mono ?_
  rintro _ w' ⟨a', n', c', l', rfl, hp, hs, hd, hB⟩
  rw [all7_eq (checkL_inj hc) hp hs] at hd
  exact ⟨_, _, _, rfl, hd, hB⟩
theorem k_lAll (h : Ents w a n c l) (hn : n ≤ 1048576) : Cl Tryz.prog 84 #[.agg #[.slice a n c]] w (fun v w' => ∃ a' n' c', v = .slice a' n' c' ∧ DEnts w.heap.size w' a' n' c' (allL l) ∧ Below w.heap.size w w') := by
  refine c84 _ _ _ ?_
  rintro _ w1 rfl h1
  have q1 : w1.heap[w.heap.size]? = some (.cells #[.slice a n c] 25) := by rw [h1]; exact blk_new _
  have B1 : Below w.heap.size w w1 := by rw [h1]; exact alloc_below _ _
  clear h1
  refine ⟨_, _, _, blk_cell q1 0, (k_lCheck (h.below B1) hn).gives fun w2 B2' => ⟨_, rfl, ?_⟩⟩
  have B2 := B1.trans (B2'.mono B1.size)
  have q2 := blk_below q1 B2' (blk_lt q1)
  cases hc : checkL l with
  | false => exact ⟨_, _, _, rfl, by rw [allL, hc]; exact DEnts.nil, B2⟩
  | true =>
    refine ⟨_, _, _, blk_cell q2 0, (k_lused' (h.below B2) hn hc).mono ?_⟩
    rintro _ w3 ⟨a3, n3, c3, rfl, hd, B3⟩
    exact ⟨_, _, _, rfl, _, _, _, rfl, by rw [allL, if_pos hc]; exact hd.mono B2.size, B2.trans (B3.mono B2.size)⟩
theorem k_lMany (h : Ents w a n c l) (hn : n ≤ 1048576) : Cl Tryz.prog 76 #[.agg #[.slice a n c]] w (Gives w (.int .i64 ((allL l).length : Nat))) := by
  refine c76 _ _ _ ?_
  rintro _ w1 rfl h1
  have q1 : w1.heap[w.heap.size]? = some (.cells #[.slice a n c] 25) := by rw [h1]; exact blk_new _
  have B1 : Below w.heap.size w w1 := by rw [h1]; exact alloc_below _ _
  clear h1
  refine ⟨_, _, _, blk_cell q1 0, (k_lAll (h.below B1) hn).mono ?_⟩
  rintro _ w2 ⟨a2, n2, c2, rfl, hd, B2⟩
  exact ⟨_, _, _, rfl, by rw [hd.len], B1.trans (B2.mono B1.size)⟩
end
end Go.Eng
