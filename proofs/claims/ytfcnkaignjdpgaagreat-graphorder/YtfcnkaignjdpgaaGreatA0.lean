/- Part 0 of the proof of GraphOrderSaid. What is proved: what a call of each function leaves. Conditions: those that each theorem names. -/
import Derived.OrdersIn
import Derived.Orders
import Derived.RangeFuncLeaves
import Derived.RangeFuncNested
import Derived.Below
import Derived.Laws.Entries
import Derived.TacticsIn
set_option linter.unusedVariables false
set_option linter.unusedSimpArgs false
set_option linter.unusedSectionVars false
namespace Go.Eng
open Go
/-- A slot: what it holds; or what nobody may count on. -/
inductive Sl where
  | v (x : Value)
  | j (x : Value)
def Sl.val : Sl → Value
  | .v x => x
  | .j x => x
abbrev Env := List Sl
def gtL : List Value → Nat → Value
  | [], _ => undef
  | v :: _, 0 => v
  | _ :: l, n + 1 => gtL l n
def stL : List Value → Nat → Value → List Value
  | [], _, _ => []
  | _ :: l, 0, x => x :: l
  | v :: l, n + 1, x => v :: stL l n x
def sl : Env → Nat → Sl
  | [], _ => .v undef
  | s :: _, 0 => s
  | _ :: l, n + 1 => sl l n
/-- A slot. -/
def gt (ρ : Env) (n : Nat) : Value := (sl ρ n).val
/-- A slot is put. -/
def st : Env → Nat → Value → Env
  | [], _, _ => []
  | _ :: l, 0, x => .v x :: l
  | v :: l, n + 1, x => v :: st l n x
def putD (ρ : Env) (d : Option Tmp) (v : Value) : Env := match d with | some t => st ρ t v | none => ρ
def ev (ρ : Env) : Operand → Value
  | .tmp t => gt ρ t
  | .const v => v
  | .global g => .pointer (some ⟨g, 0, none⟩)
  | .func f => .func (.func f) #[] #[]
def evs (ρ : Env) (l : List Operand) : List Value := l.map (ev ρ)
def cellsL : Value → List Value
  | .agg cs => cs.toList
  | v => [v]
def oneC : Value → Bool
  | .agg _ => false
  | .tuple _ => false
  | _ => true
def adr (a : Addr) : Nat → Addr
  | 0 => a
  | n + 1 => a.add (n + 1)
/-- What one cell may hold. -/
inductive CK where
  | int (k : IntKind) | bool | str | sl | ptr | fn | map | any
def exC : CK → (Value → Prop) → Prop
  | .int k, p => ∃ n : Int, p (.int k n)
  | .bool, p => ∃ b : Bool, p (.bool b)
  | .str, p => ∃ s : ByteArray, p (.string s)
  | .sl, p => ∃ (a : Option Addr) (l c : Nat), p (.slice a l c)
  | .ptr, p => ∃ a : Option Addr, p (.pointer a)
  | .fn, p => ∃ (f : FuncId) (c : List Value), p (.func (.func f) #[] c.toArray)
  | .map, p => ∃ r : Option Nat, p (.map r)
  | .any, p => ∃ v : Value, p v
def exCs : List CK → (List Value → Prop) → Prop
  | [], p => p []
  | k :: ks, p => exC k fun v => exCs ks fun vs => p (v :: vs)
def isAggT (P : Program) (t : TypeId) : Bool :=
  match P.underlying t with
  | some (.struct _) => true
  | some (.array _ _) => true
  | _ => false
def knownT (P : Program) (t : TypeId) : Bool := match P.underlying t with | some _ => true | none => false
def infoT (P : Program) (t : TypeId) : Bool := match P.info? t with | some _ => true | none => false
def sizeT (P : Program) (t : TypeId) : Nat := match P.info? t with | some i => i.size | none => 0
def ckOf1 (P : Program) (t : TypeId) : CK :=
  match P.underlying t with
  | some (.int k) => .int k
  | some .bool => .bool
  | some .string => .str
  | some (.slice _) => .sl
  | some (.pointer _) => .ptr
  | some (.func _ _ _) => .fn
  | some (.map _ _) => .map
  | _ => .any
def cksOf (P : Program) : Nat → TypeId → List CK
  | 0, _ => []
  | n + 1, t =>
    match P.underlying t with
    | some (.struct fs) => (fs.toList.map fun f => cksOf P n f.type).flatten
    | some (.array len e) => (List.replicate len (cksOf P n e)).flatten
    | _ => [ckOf1 P t]
def exV (P : Program) (t : TypeId) (p : Value → Prop) : Prop :=
  match isAggT P t with
  | true => exCs (cksOf P 20 t) fun vs => p (.agg vs.toArray)
  | false => exC (ckOf1 P t) p
def exTs (P : Program) : List TypeId → (List Value → Prop) → Prop
  | [], p => p []
  | t :: ts, p => exV P t fun v => exTs P ts fun vs => p (v :: vs)
def exRV (P : Program) (t : TypeId) (p : Value → Prop) : Prop :=
  match P.underlying t with
  | some (.tuple ts) => exTs P ts.toList fun vs => p (.tuple vs.toArray)
  | _ => exV P t p
def cellsAt (w : World) (a : Addr) : Nat → List Value → Prop → Prop
  | _, [], X => X
  | i, v :: vs, X => w.cell? (adr a i) = some v ∧ cellsAt w a (i + 1) vs X
/-- A variable of a type is read: whatever its cells hold. -/
def ldV (P : Program) (t : TypeId) (w : World) (a : Addr) (K : Value → Prop) : Prop :=
  match isAggT P t with
  | true => match Nat.beq (cksOf P 20 t).length (sizeT P t) with
    | true => exCs (cksOf P 20 t) fun vs => cellsAt w a 0 vs (K (.agg vs.toArray))
    | false => False
  | false => match knownT P t with
    | true => exC (ckOf1 P t) fun v => w.cell? a = some v ∧ K v
    | false => False
def wrs (w : World) (a : Addr) : Nat → List Value → World
  | _, [] => w
  | i, v :: vs => wrs (w.setCell (adr a i) v) a (i + 1) vs
def wrOk (w : World) (a : Addr) : Nat → List Value → Prop → Prop
  | _, [], X => X
  | i, v :: vs, X => cond (oneC v) ((w.cell? (adr a i)).isSome = true ∧ w.frozen? (adr a i) = false ∧ wrOk w a (i + 1) vs X) False
def stV (P : Program) (t : TypeId) (w : World) (a : Addr) (vs : List Value) (K : World → Prop) : Prop :=
  match infoT P t with
  | true => match Nat.beq vs.length (sizeT P t) with
    | true => wrOk w a 0 vs (∀ w' : World, w' = wrs w a 0 vs → K w')
    | false => False
  | false => False
/-- A new block. -/
def newV (w : World) (cs : List Value) (t : TypeId) (K : Addr → World → Prop) : Prop :=
  ∀ (b : Nat) (w' : World), b = w.heap.size → w' = w.alloc (.cells cs.toArray t) → K ⟨b, 0, none⟩ w'
def ki : IntKind → Nat
  | .i8 => 0 | .i16 => 1 | .i32 => 2 | .i64 => 3 | .u8 => 4 | .u16 => 5 | .u32 => 6 | .u64 => 7
def band (k : IntKind) (a b : Int) : Int := k.wrap (BitVec.ofInt k.bits a &&& BitVec.ofInt k.bits b).toNat
def bor (k : IntKind) (a b : Int) : Int := k.wrap (BitVec.ofInt k.bits a ||| BitVec.ofInt k.bits b).toNat
def bxor (k : IntKind) (a b : Int) : Int := k.wrap (BitVec.ofInt k.bits a ^^^ BitVec.ofInt k.bits b).toNat
def bclr (k : IntKind) (a b : Int) : Int := k.wrap (BitVec.ofInt k.bits a &&& ~~~ BitVec.ofInt k.bits b).toNat
def bshl (k : IntKind) (a b : Int) : Int := k.wrap (a * 2 ^ (min b.toNat k.bits))
def bshr (k : IntKind) (a b : Int) : Int := a.fdiv (2 ^ (min b.toNat k.bits))
/-- Arithmetic at two numbers of one kind. -/
def arV (op : BinOp) (k : IntKind) (a b : Int) (K : Value → Prop) : Prop :=
  match op with
  | .add => K (.int k (k.wrap (a + b)))
  | .sub => K (.int k (k.wrap (a - b)))
  | .mul => K (.int k (k.wrap (a * b)))
  | .quo => cond (decide (b = 0)) False (K (.int k (k.wrap (a.tdiv b))))
  | .rem => cond (decide (b = 0)) False (K (.int k (a.tmod b)))
  | .and => K (.int k (band k a b))
  | .or => K (.int k (bor k a b))
  | .xor => K (.int k (bxor k a b))
  | .andNot => K (.int k (bclr k a b))
  | .eql => K (.bool (a == b))
  | .neq => K (.bool (a != b))
  | .lss => K (.bool (decide (a < b)))
  | .leq => K (.bool (decide (a ≤ b)))
  | .gtr => K (.bool (decide (b < a)))
  | .geq => K (.bool (decide (b ≤ a)))
  | _ => False
/-- What else two operands come to: a run of the model's own. -/
def binRun (P : Program) (op : BinOp) (t : TypeId) (ox oy : Operand) (x y v : Value) (w : World) : Prop :=
  Sem.run P (do eqGuard op t ox oy x y; binOp op t x y) w = .ok v w
def isShift : BinOp → Bool
  | .shl => true
  | .shr => true
  | _ => false
def binV (P : Program) (op : BinOp) (t : TypeId) (ox oy : Operand) (x y : Value) (w : World) (K : Value → Prop) : Prop :=
  match x with
  | .int k a =>
    match y with
    | .int k' b =>
      match isShift op with
      | true => match op with
        | .shl => cond (decide (b < 0)) False (K (.int k (bshl k a b)))
        | .shr => cond (decide (b < 0)) False (K (.int k (bshr k a b)))
        | _ => False
      | false => match Nat.beq (ki k) (ki k') with
        | true => arV op k a b K
        | false => False
    | _ => False
  | .bool a =>
    match y with
    | .bool b => match op with
      | .eql => match ckOf1 P t with
        | .bool => K (.bool (a == b))
        | _ => False
      | .neq => match ckOf1 P t with
        | .bool => K (.bool (!(a == b)))
        | _ => False
      | _ => False
    | _ => False
  | x => match ckOf1 P t with
    | .int _ => False
    | .bool => False
    | _ => ∃ b : Bool, binRun P op t ox oy x y (.bool b) w ∧ K (.bool b)
def Enters (P : Program) (g : FuncId) : Prop := ∀ (args : Array Value) (w : World), (callFunc g args).run P w = .ok (.enter g args) w
/-- A call returns, and .. -/
def Cl (P : Program) (g : FuncId) (args : Array Value) (w : World) (K : Value → World → Prop) : Prop :=
  Enters P g ∧ Calls P g args w fun e w' => ∃ v, e = .returned v ∧ K v w'
def Yl (P : Program) (l : Nat) (args : List Value) (w : World) (K : Bool → World → Prop) : Prop :=
  ∃ fn tmps assign body, (Instr.yield l args.toArray).run P w = .ok (.round l fn tmps assign body) w ∧
    RoundIn Fence.wide 0 P l fn tmps assign body w fun e w' => ∃ b : Bool, e = .returned (.bool b) ∧ K b w'
def elemI (P : Program) (t : TypeId) : Option TypeId := match P.underlying t with | some (.slice e) => (match infoT P e with | true => some e | false => none) | _ => none
/-- An index's place. -/
def ixV (len : Nat) (i : Int) (X : Prop) : Prop := 0 ≤ i ∧ i < (len : Int) ∧ X
def elemT (P : Program) (t : TypeId) : Option TypeId := match P.underlying t with | some (.slice e) => some e | _ => none
def offA (a : Option Addr) (m l size : Nat) : Option Addr := match Nat.beq m l with | true => a | false => a.map (·.add (l * size))
def bnd (x : Option Value) (top : Int) (none' : Int) (K : Int → Prop) : Prop :=
  match x with
  | none => K none'
  | some (.int _ i) => 0 ≤ i ∧ i ≤ top ∧ K i
  | some _ => False
def fieldV (P : Program) (s : TypeId) (f : Nat) : Option Field := match P.underlying s with | some (.struct fs) => fs.toList[f]? | _ => none
def stAll (cs : List Value) (off : Nat) : List Value → List Value
  | [] => cs
  | v :: vs => stAll (stL cs off v) (off + 1) vs
def fillL (place : Nat → Option (Nat × Nat)) (cs : List Value) : List (Nat × Value) → Option (List Value)
  | [] => some cs
  | (i, v) :: rest =>
    match place i with
    | none => none
    | some (off, size) =>
      match Nat.beq (cellsL v).length size && Nat.ble (off + (cellsL v).length) cs.length with
      | true => fillL place (stAll cs off (cellsL v)) rest
      | false => none
def zeroL (P : Program) (t : TypeId) : Option (List Value) := match P.info? t with | some i => i.zero.map cellsL | none => none
def zeroI (P : Program) (t : TypeId) (fs : List Field) : Option (List Value) := match fs.all (fun f => infoT P f.type) with | true => zeroL P t | false => none
def zeroE (P : Program) (t e : TypeId) : Option (List Value) := match infoT P e with | true => zeroL P t | false => none
def placeS (P : Program) (fs : List Field) (i : Nat) : Option (Nat × Nat) := (fs[i]?).map fun f => (f.offset, sizeT P f.type)
def sub (l : List Value) (off n : Nat) : List Value := (l.drop off).take n
def callV (P : Program) (ρ : Env) (w : World) (ty : TypeId) (c : Call) (K : Value → World → Prop) : Prop :=
  match c.callee with
  | .invoke _ _ => False
  | .value f =>
    match ev ρ f with
    | .func fn first cap =>
      match fn with
      | .func g => Cl P g (first.toList ++ evs ρ c.args.toList ++ cap.toList).toArray w fun v w' => exRV P ty fun u => v = u ∧ K u w'
      | .yield l => Yl P l (first.toList ++ evs ρ c.args.toList) w fun b w' => K (.bool b) w'
      | _ => False
    | _ => False
  | .builtin b =>
    match b with
    | .len =>
      match evs ρ c.args.toList with
      | [.slice _ n _] => match (c.argTypes.toList.head?).bind (elemT P) with
        | some _ => K (.int .i64 n) w
        | none => False
      | [.string s] => match (c.argTypes.toList.head?).map (ckOf1 P) with
        | some .str => K (.int .i64 s.size) w
        | _ => False
      | vs => match (c.argTypes.toList.head?).map (ckOf1 P) with
        | some .sl => False
        | some .str => False
        | _ => ∃ n : Int, Sem.run P (Builtin.len_ c.argTypes ty vs.toArray) w = .ok (.int .i64 n) w ∧ K (.int .i64 n) w
    | .cap =>
      match evs ρ c.args.toList with
      | vs => ∃ n : Int, Sem.run P (Builtin.cap_ c.argTypes ty vs.toArray) w = .ok (.int .i64 n) w ∧ K (.int .i64 n) w
    | .min =>
      match evs ρ c.args.toList with
      | [.int k a, .int _ b] => K (.int k (if b < a then b else a)) w
      | _ => False
    | .max =>
      match evs ρ c.args.toList with
      | vs => ∃ (k : IntKind) (n : Int), Sem.run P (Builtin.max_ c.argTypes ty vs.toArray) w = .ok (.int k n) w ∧ K (.int k n) w
    | .append => ∃ (a : Option Addr) (l c' : Nat) (w' : World), Sem.run P (Builtin.append_ c.argTypes ty (evs ρ c.args.toList).toArray) w = .ok (.slice a l c') w' ∧ K (.slice a l c') w'
    | .copy => ∃ (n : Int) (w' : World), Sem.run P (Builtin.copy_ c.argTypes ty (evs ρ c.args.toList).toArray) w = .ok (.int .i64 n) w' ∧ K (.int .i64 n) w'
    | .clear => ∃ (w' : World), Sem.run P (Builtin.clear_ c.argTypes ty (evs ρ c.args.toList).toArray) w = .ok (.tuple #[]) w' ∧ K (.tuple #[]) w'
    | _ => False
/-- An operation: what must be for it to go through, and what comes of it. -/
def opV (P : Program) (o : Oper) (ρ : Env) (w : World) (K : Value → World → Prop) : Prop :=
  match o.op with
  | .move x => K (ev ρ x) w
  | .assign x => K (ev ρ x) w
  | .pick c a b => match ev ρ c with
    | .bool t => cond t (K (ev ρ a) w) (K (ev ρ b) w)
    | _ => False
  | .box t x => newV w (cellsL (ev ρ x)) t fun a w' => K (.pointer (some a)) w'
  | .alloc t => match zeroL P t with
    | some z => newV w z t fun a w' => K (.pointer (some a)) w'
    | none => False
  | .load t x => match ev ρ x with
    | .pointer (some a) => ldV P t w a fun v => K v w
    | _ => False
  | .store t x y => match ev ρ x with
    | .pointer (some a) => stV P t w a (cellsL (ev ρ y)) fun w' => K undef w'
    | _ => False
  | .nilCheck x => match ev ρ x with
    | .pointer a => ∃ p, a = some p ∧ K (.pointer (some p)) w
    | _ => False
  | .binOp op t x y _ => binV P op t x y (ev ρ x) (ev ρ y) w fun v => K v w
  | .unOp op _ x => match op with
    | .not => match ev ρ x with
      | .bool b => K (.bool !b) w
      | _ => False
    | .neg => match ev ρ x with
      | .int k n => K (.int k (k.wrap (0 - n))) w
      | _ => False
    | _ => False
  | .convert src dst x => match ev ρ x with
    | .int _ n => match P.underlying src with
      | some _ => match P.underlying dst with
        | some (.int k) => K (.int k (k.wrap n)) w
        | _ => False
      | none => False
    | _ => False
  | .makeFunc fn first captured => K (.func fn (evs ρ first.toList).toArray (evs ρ captured.toList).toArray) w
  | .makeSlice t l c => ∃ (a : Option Addr) (n m : Nat) (w' : World), Sem.run P (Instr.makeSlice t (ev ρ l) (ev ρ c)) w = .ok (.slice a n m) w' ∧ K (.slice a n m) w'
  | .slice t x lo hi mx => match ev ρ x with
    | .slice a len cap => match elemI P t with
      | some e => match mx.isSome && !hi.isSome with
        | true => False
        | false =>
        bnd (mx.map (ev ρ)) cap cap fun m => bnd (hi.map (ev ρ)) m len fun h =>
          match lo with
          | none => K (.slice a h.toNat m.toNat) w
          | some l => bnd (some (ev ρ l)) h 0 fun l => K (.slice (offA a m.toNat l.toNat (sizeT P e)) (h.toNat - l.toNat) (m.toNat - l.toNat)) w
      | none => False
    | _ => False
  | .fieldAddr s x f => match ev ρ x with
    | .pointer (some a) => match fieldV P s f with
      | some fd => match Nat.beq (sizeT P fd.type) 0 with
        | true => False
        | false => K (.pointer (some (adr a fd.offset))) w
      | none => False
    | _ => False
  | .field s x f => match ev ρ x with
    | .agg cs => match fieldV P s f with
      | some fd => match knownT P fd.type with
        | false => False
        | true => match isAggT P fd.type with
        | true => K (.agg (sub cs.toList fd.offset (sizeT P fd.type)).toArray) w
        | false => match Nat.blt fd.offset cs.toList.length with
          | true => K (gtL cs.toList fd.offset) w
          | false => False
      | none => False
    | _ => False
  | .indexAddr t x i => match ev ρ x with
    | .slice a len _ => match ev ρ i with
      | .int _ n => match elemI P t with
        | some e => ∃ p, a = some p ∧ ixV len n (K (.pointer (some (p.add (n.toNat * sizeT P e)))) w)
        | none => False
      | _ => False
    | .pointer (some a) => match ev ρ i with
      | .int _ n => match P.underlying t with
        | some (.array len e) => match infoT P e with
          | true => ixV len n (K (.pointer (some (a.add (n.toNat * sizeT P e)))) w)
          | false => False
        | _ => False
      | _ => False
    | _ => False
  | .index t x i => exV P o.type fun v => Sem.run P (Instr.index t (ev ρ x) (ev ρ i)) w = .ok v w ∧ K v w
  | .extract x i => match ev ρ x with
    | .tuple vs => match Nat.blt i vs.toList.length with
      | true => K (gtL vs.toList i) w
      | false => False
    | _ => False
  | .build t parts => match P.underlying t with
    | some (.struct fs) => match zeroI P t fs.toList with
      | some z => match fillL (placeS P fs.toList) z (parts.toList.map fun p => (p.1, ev ρ p.2)) with
        | some cs => K (.agg cs.toArray) w
        | none => False
      | none => False
    | some (.array _ e) => match zeroE P t e with
      | some z => match fillL (fun i => some (i * sizeT P e, sizeT P e)) z (parts.toList.map fun p => (p.1, ev ρ p.2)) with
        | some cs => K (.agg cs.toArray) w
        | none => False
      | none => False
    | _ => False
  | .buildSlice t len parts => match elemI P t with
    | some e => match Nat.ble (len * sizeT P e) 1000 with
      | true => match zeroL P e with
        | some z => match Nat.beq z.length (sizeT P e) with
          | true => match fillL (fun i => some (i * sizeT P e, sizeT P e)) (List.replicate len z).flatten (parts.toList.map fun p => (p.1, ev ρ p.2)) with
            | some cs => newV w cs e fun a w' => K (.slice (some a) len len) w'
            | none => False
          | false => False
        | none => False
      | false => False
    | none => False
  | .call c => callV P ρ w o.type c K
  | _ => False
def dstOf : List Oper → Nat → Option Tmp
  | [], _ => none
  | o :: _, 0 => o.dst
  | _ :: l, n + 1 => dstOf l n
def opOf : List Oper → Nat → Option Oper
  | [], _ => none
  | o :: _, 0 => some o
  | _ :: l, n + 1 => opOf l n
/-- An operation in a region: it may be passed over. -/
def stepV (P : Program) (ops : List Oper) (o : Oper) (ρ : Env) (w : World) (K : Env → World → Prop) : Prop :=
  match o.guard with
  | none => opV P o ρ w fun v w' => K (putD ρ o.dst v) w'
  | some (j, want) =>
    match dstOf ops j with
    | none => K (putD ρ o.dst undef) w
    | some d =>
      match sl ρ d with
      | .j _ => False
      | .v (.bool b) => cond b
          (cond want (opV P o (st ρ d (.bool true)) w fun v w' => K (putD (st ρ d (.bool true)) o.dst v) w') (K (putD (st ρ d (.bool true)) o.dst undef) w))
          (cond want (K (putD (st ρ d (.bool false)) o.dst undef) w) (opV P o (st ρ d (.bool false)) w fun v w' => K (putD (st ρ d (.bool false)) o.dst v) w'))
      | .v _ => K (putD ρ o.dst undef) w
def regV (P : Program) (ops : List Oper) : List Oper → Env → World → (Env → World → Prop) → Prop
  | [], ρ, w, K => K ρ w
  | o :: rest, ρ, w, K => stepV P ops o ρ w fun ρ' w' => regV P ops rest ρ' w' K
def edgeOn (e : Edge) : Bool := match e.ground with | .textOnly _ => false | .gcOnly _ => false | _ => true
def predsOf (o : Oper) : List Nat := (o.after.toList.filter edgeOn).map (·.on)
/-- What must stand ahead of each operation: closed over. -/
def insAll (l : List Nat) : List Nat → List Nat
  | [] => l
  | x :: xs => match l.contains x with
    | true => insAll l xs
    | false => insAll (x :: l) xs
def preAll : List Oper → List (List Nat) → List (List Nat)
  | [], acc => acc
  | o :: rest, acc => preAll rest (acc ++ [(predsOf o).foldl (fun s j => insAll (insAll s [j]) (acc.getD j [])) []])
inductive Cls where
  | pure | read | act
def clsOf (P : Program) (o : Oper) : Cls :=
  match o.op with
  | .move _ | .assign _ | .pick _ _ _ | .unOp _ _ _ | .convert _ _ _ | .makeFunc _ _ _ | .slice _ _ _ _ _ | .fieldAddr _ _ _ | .field _ _ _
  | .indexAddr _ _ _ | .extract _ _ | .build _ _ | .nilCheck _ => .pure
  | .binOp _ t _ _ _ => match ckOf1 P t with
    | .int _ => .pure
    | .bool => .pure
    | _ => .act
  | .load _ _ => .read
  | .call c => match c.callee with
    | .builtin .len => match (c.argTypes.toList.head?).map (ckOf1 P) with
      | some .sl => .pure
      | some .str => .pure
      | _ => .act
    | .builtin .min => .pure
    | _ => .act
  | _ => .act
def isAct : Cls → Bool
  | .act => true
  | _ => false
/-- The first of some operations that may go next: those that act last. -/
def ready1 (P : Program) (ops : List Oper) (done : List Nat) (acts : Bool) : List Nat → Option Nat
  | [] => none
  | i :: rest => match opOf ops i with
    | none => ready1 P ops done acts rest
    | some o => match (predsOf o).all (fun j => done.contains j) && (acts || !isAct (clsOf P o)) with
      | true => some i
      | false => ready1 P ops done acts rest
def greedy (P : Program) (ops : List Oper) : Nat → List Nat → List Nat → List Nat
  | 0, _, _ => []
  | n + 1, done, left => match ready1 P ops done false left with
    | some i => i :: greedy P ops n (i :: done) (left.erase i)
    | none => match ready1 P ops done true left with
      | some i => i :: greedy P ops n (i :: done) (left.erase i)
      | none => []
structure Fact where
  at_ : Nat
  addr : Addr
  cells : List Value
def keepV (w' : World) : List Fact → Prop → Prop
  | [], X => X
  | f :: fs, X => cellsAt w' f.addr 0 f.cells (keepV w' fs X)
def preOf (pre : List (List Nat)) (i : Nat) : List Nat := pre.getD i []
/-- What was read, and need not have been read ahead of an operation, must outlast it. -/
def owes (pre : List (List Nat)) (i : Nat) (fs : List Fact) : List Fact := fs.filter fun f => !(preOf pre i).contains f.at_
def fcOf (P : Program) (t : TypeId) (v : Value) : List Value := match isAggT P t with | true => cellsL v | false => [v]
def opD (P : Program) (pre : List (List Nat)) (i : Nat) (o : Oper) (fs : List Fact) (ρ : Env) (w : World) (K : List Fact → Value → World → Prop) : Prop :=
  match clsOf P o with
  | .pure => opV P o ρ w fun v w' => K fs v w'
  | .read => match o.op with
    | .load t x => match ev ρ x with
      | .pointer (some a) => ldV P t w a fun v => K (⟨i, a, fcOf P t v⟩ :: fs) v w
      | _ => False
    | _ => False
  | .act => opV P o ρ w fun v w' => keepV w' (owes pre i fs) (K fs v w')
def stepD (P : Program) (ops : List Oper) (pre : List (List Nat)) (i : Nat) (o : Oper) (fs : List Fact) (ρ : Env) (w : World) (K : List Fact → Env → World → Prop) : Prop :=
  match o.guard with
  | none => opD P pre i o fs ρ w fun fs' v w' => K fs' (putD ρ o.dst v) w'
  | some (j, want) =>
    match dstOf ops j with
    | none => K fs (putD ρ o.dst undef) w
    | some d =>
      match sl ρ d with
      | .j _ => False
      | .v (.bool b) => cond b
          (cond want (opD P pre i o fs (st ρ d (.bool true)) w fun fs' v w' => K fs' (putD (st ρ d (.bool true)) o.dst v) w') (K fs (putD (st ρ d (.bool true)) o.dst undef) w))
          (cond want (K fs (putD (st ρ d (.bool false)) o.dst undef) w) (opD P pre i o fs (st ρ d (.bool false)) w fun fs' v w' => K fs' (putD (st ρ d (.bool false)) o.dst v) w'))
      | .v _ => K fs (putD ρ o.dst undef) w
def regD (P : Program) (ops : List Oper) (pre : List (List Nat)) : List Nat → List Fact → Env → World → (Env → World → Prop) → Prop
  | [], _, ρ, w, K => K ρ w
  | i :: rest, fs, ρ, w, K => match opOf ops i with
    | none => False
    | some o => stepD P ops pre i o fs ρ w fun fs' ρ' w' => regD P ops pre rest fs' ρ' w' K
/-- The temporaries that an operation reads, its guard's among them. -/
def readsOf (ops : List Oper) (o : Oper) : List Nat :=
  (o.op.operands.toList.filterMap fun | .tmp t => some t | _ => none) ++ (match o.guard with | some (j, _) => (dstOf ops j).toList | none => [])
/-- May two operations, of which neither must stand ahead of the other, change places? (x stands ahead of y in the row that is walked.) -/
def swapOk (P : Program) (ops : List Oper) (x y : Oper) : Bool :=
  (match clsOf P x, clsOf P y with
   | .act, .act => false
   | .act, .read => false
   | _, _ => true) &&
  (match x.dst, y.dst with
   | some a, some b => !Nat.beq a b
   | _, _ => true) &&
  (match x.dst with | some a => !(readsOf ops y).contains a | none => true) &&
  (match y.dst with | some a => !(readsOf ops x).contains a | none => true)
def pairsOk (P : Program) (ops : List Oper) (pre : List (List Nat)) : List Nat → Bool
  | [] => true
  | i :: rest => rest.all (fun j => !(preOf pre i).contains j) && rest.all (fun j => (preOf pre j).contains i || (match opOf ops i, opOf ops j with | some x, some y => swapOk P ops x y | _, _ => false)) && pairsOk P ops pre rest
def nodupB : List Nat → Bool
  | [] => true
  | i :: r => !r.contains i && nodupB r
def arrOk (P : Program) (ops : List Oper) (pre : List (List Nat)) (arr : List Nat) : Bool :=
  (nodupB arr && arr.all (fun i => Nat.blt i ops.length)) && Nat.beq arr.length ops.length && (List.range ops.length).all (fun i => arr.contains i) && pairsOk P ops pre arr &&
  (ops.zipIdx.all fun (o, i) => (predsOf o).all fun j => Nat.blt j i && (preOf pre i).contains j) &&
  (ops.zipIdx.all fun (o, i) => (preOf pre i).all fun x => (predsOf o).any fun j => Nat.beq x j || (preOf pre j).contains x)
/-- The same, where two that act may go in either order: p ahead of q. -/
def greedyR (P : Program) (ops : List Oper) : Nat → List Nat → List Nat → List Nat
  | 0, _, _ => []
  | n + 1, done, left => match ready1 P ops done false left with
    | some i => i :: greedyR P ops n (i :: done) (left.erase i)
    | none => match ready1 P ops done true left.reverse with
      | some i => i :: greedyR P ops n (i :: done) (left.erase i)
      | none => []
def actsOf (P : Program) (ops : List Oper) (arr : List Nat) : List Nat := arr.filter fun i => match opOf ops i with | some o => isAct (clsOf P o) | none => false
def pairsOk2 (P : Program) (ops : List Oper) (pre : List (List Nat)) (p q : Nat) : List Nat → Bool
  | [] => true
  | i :: rest => rest.all (fun j => !(preOf pre i).contains j) && rest.all (fun j => (preOf pre j).contains i || (match opOf ops i, opOf ops j with | some x, some y => swapOk P ops x y | _, _ => false) || (Nat.beq i p && Nat.beq j q)) &&
    pairsOk2 P ops pre p q rest
def edgesOk (ops : List Oper) (pre : List (List Nat)) : Bool :=
  (ops.zipIdx.all fun (o, i) => (predsOf o).all fun j => Nat.blt j i && (preOf pre i).contains j) &&
  (ops.zipIdx.all fun (o, i) => (preOf pre i).all fun x => (predsOf o).any fun j => Nat.beq x j || (preOf pre j).contains x)
def arrOk2 (P : Program) (ops : List Oper) (pre : List (List Nat)) (p q : Nat) (arr : List Nat) : Bool :=
  (nodupB arr && arr.all (fun i => Nat.blt i ops.length)) && Nat.beq arr.length ops.length && (List.range ops.length).all (fun i => arr.contains i) && pairsOk2 P ops pre p q arr && edgesOk ops pre &&
  (match actsOf P ops arr with | x :: y :: _ => Nat.beq x p && Nat.beq y q && !Nat.beq p q | _ => false)
def drawV (P : Program) (ops : List Oper) (ρ : Env) (w : World) (K : Env → World → Prop) : Prop :=
  match arrOk P ops (preAll ops []) (greedy P ops ops.length [] (List.range ops.length)) with
  | true => ∀ w' : World, w' = w.drew → regD P ops (preAll ops []) (greedy P ops ops.length [] (List.range ops.length)) [] ρ w' K
  | false => match actsOf P ops (greedy P ops ops.length [] (List.range ops.length)) with
    | p :: q :: rest => match rest.all (fun i => (preOf (preAll ops []) i).contains p) && (arrOk2 P ops (preAll ops []) p q (greedy P ops ops.length [] (List.range ops.length)) && arrOk2 P ops (preAll ops []) q p (greedyR P ops ops.length [] (List.range ops.length))) with
      | true => ∀ w' : World, w' = w.drew → regD P ops (preAll ops []) (greedy P ops ops.length [] (List.range ops.length)) [] ρ w' K ∧
          regD P ops (preAll ops []) (greedyR P ops ops.length [] (List.range ops.length)) [] ρ w' K
      | false => False
    | _ => False
abbrev Kont := Exit → Env → List Nat → World → Prop
def modsC : Code → List Nat
  | .region _ ops _ => ops.toList.filterMap (·.dst) ++ ops.toList.filterMap fun o => o.guard.bind fun g => dstOf ops.toList g.1
  | .seq a b => modsC a ++ modsC b
  | .cond _ a b => modsC a ++ modsC b
  | .block _ b => modsC b
  | .loop b => modsC b
  | .scope b => modsC b
  | _ => []
def noRF : Code → Bool
  | .seq a b => noRF a && noRF b
  | .cond _ a b => noRF a && noRF b
  | .block _ b => noRF b
  | .loop b => noRF b
  | .scope b => noRF b
  | .rangeFunc _ _ _ _ => false
  | _ => true
/-- What a slot holds where a loop begins: a cell's kind, or cells', or nothing that counts. -/
def ckV : Value → Option CK
  | .int k _ => some (.int k)
  | .bool _ => some .bool
  | .string _ => some .str
  | .slice _ _ _ => some .sl
  | .pointer _ => some .ptr
  | .map _ => some .map
  | _ => none
inductive VK where
  | one (k : CK) | agg (ks : List CK) | dead
def ckVs : List Value → Option (List CK)
  | [] => some []
  | v :: vs => match ckV v with
    | some k => (ckVs vs).map (k :: ·)
    | none => none
def vkV (v : Value) : VK :=
  match v with
  | .agg cs => match ckVs cs.toList with
    | some ks => .agg ks
    | none => .dead
  | v => match ckV v with
    | some k => .one k
    | none => .dead
def vkS : Sl → VK
  | .v x => vkV x
  | .j _ => .dead
/-- A curried function of cells. -/
def Cur (β : Type) : List CK → Type
  | [] => β
  | .int _ :: r => Int → Cur β r
  | .bool :: r => Bool → Cur β r
  | .str :: r => ByteArray → Cur β r
  | .sl :: r => Option Addr → Nat → Nat → Cur β r
  | .ptr :: r => Option Addr → Cur β r
  | .map :: r => Option Nat → Cur β r
  | _ :: r => Value → Cur β r
/-- It is handed cells. -/
def appC {β : Type} : (ks : List CK) → Cur β ks → List Value → Option β
  | [], J, [] => some J
  | .int k :: r, J, .int k' n :: vs => match Nat.beq (ki k) (ki k') with
    | true => appC r (J n) vs
    | false => none
  | .bool :: r, J, .bool b :: vs => appC r (J b) vs
  | .str :: r, J, .string b :: vs => appC r (J b) vs
  | .sl :: r, J, .slice a l c :: vs => appC r (J a l c) vs
  | .ptr :: r, J, .pointer a :: vs => appC r (J a) vs
  | .map :: r, J, .map a :: vs => appC r (J a) vs
  | .fn :: r, J, v :: vs => appC r (J v) vs
  | .any :: r, J, v :: vs => appC r (J v) vs
  | _, _, _ => none
def allC : (ks : List CK) → (List Value → Prop) → Prop
  | [], f => f []
  | .int k :: r, f => ∀ n : Int, allC r fun vs => f (.int k n :: vs)
  | .bool :: r, f => ∀ n : Bool, allC r fun vs => f (.bool n :: vs)
  | .str :: r, f => ∀ n : ByteArray, allC r fun vs => f (.string n :: vs)
  | .sl :: r, f => ∀ (a : Option Addr) (l c : Nat), allC r fun vs => f (.slice a l c :: vs)
  | .ptr :: r, f => ∀ a : Option Addr, allC r fun vs => f (.pointer a :: vs)
  | .map :: r, f => ∀ a : Option Nat, allC r fun vs => f (.map a :: vs)
  | .fn :: r, f => ∀ v : Value, allC r fun vs => f (v :: vs)
  | .any :: r, f => ∀ v : Value, allC r fun vs => f (v :: vs)
/-- The cells of those slots that a body writes and that count where it begins; of which kinds they are. -/
def ksOf (mods : List Nat) : Nat → Env → List CK
  | _, [] => []
  | i, v :: ρ => match mods.contains i with
    | true => match vkS v with
      | .one k => k :: ksOf mods (i + 1) ρ
      | .agg ks => ks ++ ksOf mods (i + 1) ρ
      | .dead => ksOf mods (i + 1) ρ
    | false => ksOf mods (i + 1) ρ
/-- The same slots' cells in another environment (by the kinds of the first). -/
def csOf (mods : List Nat) : Nat → Env → Env → List Value
  | _, [], _ => []
  | i, v :: ρ, ρ' => match mods.contains i with
    | true => match vkS v with
      | .one _ => gt ρ' 0 :: csOf mods (i + 1) ρ ρ'.tail
      | .agg _ => cellsL (gt ρ' 0) ++ csOf mods (i + 1) ρ ρ'.tail
      | .dead => csOf mods (i + 1) ρ ρ'.tail
    | false => csOf mods (i + 1) ρ ρ'.tail
/-- The environment where a round begins: those slots hold given cells, what else the body writes holds whatever. -/
def hdOf (mods : List Nat) (jk : Nat → Value) : Nat → Env → List Value → Env
  | _, [], _ => []
  | i, v :: ρ, vs => match mods.contains i with
    | true => match vkS v with
      | .one _ => .v (gtL vs 0) :: hdOf mods jk (i + 1) ρ vs.tail
      | .agg ks => .v (.agg (vs.take ks.length).toArray) :: hdOf mods jk (i + 1) ρ (vs.drop ks.length)
      | .dead => .j (jk i) :: hdOf mods jk (i + 1) ρ vs
    | false => v :: hdOf mods jk (i + 1) ρ vs
/-- Where a slot held cells together, it must do so again. -/
def shapeOk (mods : List Nat) : Nat → Env → Env → Bool
  | _, [], _ => true
  | i, v :: ρ, ρ' => match mods.contains i with
    | true => match vkS v with
      | .agg ks => match gt ρ' 0 with
        | .agg cs => Nat.beq cs.toList.length ks.length && shapeOk mods (i + 1) ρ ρ'.tail
        | _ => false
      | _ => shapeOk mods (i + 1) ρ ρ'.tail
    | false => shapeOk mods (i + 1) ρ ρ'.tail
def holdsAt (x : Option (World → Prop)) (w : World) : Prop := match x with | some p => p w | none => False
def backV (J : Option (World → Prop)) (m' m : Option (World → Nat)) (w' w : World) : Prop :=
  match J with
  | some p => match m' with
    | some x => match m with
      | some y => p w' ∧ x w' < y w
      | none => False
    | none => False
  | none => False
def blockK (id : Nat) (Q : Kont) : Kont
  | .exit id', ρ, D, w => match Nat.beq id' id with
    | true => Q .normal ρ D w
    | false => Q (.exit id') ρ D w
  | e, ρ, D, w => Q e ρ D w
def seqK (N : Env → List Nat → World → Prop) (Q : Kont) : Kont
  | .normal, ρ, D, w => N ρ D w
  | e, ρ, D, w => Q e ρ D w
def scopeK (Q : Kont) : Kont
  | .goto _, _, _, _ => False
  | e, ρ, D, w => Q e ρ D w
/-- An iterator's value yields a row, one after the other, whatever the rounds do that keep what Kp says. -/
def Seqs (P : Program) (g : FuncId) (lb : List Value) (xs : List (List Value)) (Kp : World → World → Prop) (w : World) : Prop :=
  SeqStopsK Fence.wide 1 P g lb.toArray (fun x : {v : List Value // v ∈ xs} => x.1.toArray) Kp (fun l => l.map (·.1) = xs) (fun l => l.map (·.1) <+: xs) xs.length w
/-- What a round keeps: it is kept by doing nothing, by two rounds, and by what the loop itself turns. -/
structure KeepOk (w : World) (Kp : World → World → Prop) : Prop where
  refl : ∀ W, Kp W W
  trans : ∀ {A B C : World}, Kp A B → Kp B C → Kp A C
  put : ∀ (W : World) (l : Nat) (o o' : Obj), w.heap.size ≤ l → W.heap[l]? = some o → o.isCells = false → o.isWalk = false → Kp W (W.putObj l o')
def allV (P : Program) (t : TypeId) (f : Value → Prop) : Prop :=
  match isAggT P t with
  | true => allC (cksOf P 20 t) fun vs => f (.agg vs.toArray)
  | false => allC [ckOf1 P t] fun vs => f (gtL vs 0)
def allTs (P : Program) : List TypeId → (List Value → Prop) → Prop
  | [], f => f []
  | t :: ts, f => allV P t fun v => allTs P ts fun vs => f (v :: vs)
def hasT (P : Program) (ts : List TypeId) (vs : List Value) : Prop := exTs P ts fun us => us = vs
/-- The assignment of what was yielded: moves alone. -/
def asgOps : List Oper → Env → Option Env
  | [], ρ => some ρ
  | o :: r, ρ => match o.guard with
    | none => match o.op with
      | .move x => asgOps r (putD ρ o.dst (ev ρ x))
      | .assign x => asgOps r (putD ρ o.dst (ev ρ x))
      | _ => none
    | some _ => none
def asg : Code → Env → Option Env
  | .skip, ρ => some ρ
  | .region _ ops false, ρ => asgOps ops.toList ρ
  | .seq a b, ρ => match asg a ρ with
    | some ρ' => asg b ρ'
    | none => none
  | _, _ => none
def ttOf : List (Nat × TypeId) → Nat → TypeId
  | [], _ => 0
  | (p, t) :: r, q => match Nat.beq p q with
    | true => t
    | false => ttOf r q
def insOne (l : List Nat) (x : Nat) : List Nat := match l.contains x with | true => l | false => l ++ [x]
def exitsC : Code → List Nat → List Nat
  | .exit id, l => insOne l id
  | .seq a b, l => exitsC b (exitsC a l)
  | .cond _ a b, l => exitsC b (exitsC a l)
  | .block _ b, l => exitsC b l
  | .loop b, l => exitsC b l
  | .scope b, l => exitsC b l
  | _, l => l
def allIds : List Nat → (Nat → Prop) → Prop
  | [], _ => True
  | [i], f => f i
  | i :: r, f => f i ∧ allIds r f
def roundK (ids : List Nat) (w W : World) (Kp : World → World → Prop) (I : List (List Value) → World → Prop) (Ix : Option Nat → List (List Value) → World → Prop) (pre : List (List Value)) : Kont
  | .normal, _, _, W' => KeepsFrom w.heap.size W W' ∧ Kp W W' ∧ I pre W'
  | .ret, _, _, W' => KeepsFrom w.heap.size W W' ∧ Ix none pre W'
  | .exit id, _, _, W' => match ids.contains id with
    | true => KeepsFrom w.heap.size W W' ∧ Ix (some id) pre W'
    | false => False
  | _, _, _, _ => False
/-- The world has grown by what is no cells, from B on. -/
inductive NC (B : Nat) : World → World → Prop
  | refl (W : World) : NC B W W
  | step {W W' W'' : World} (row : Option Nat) (hg : W.grownBy W' row) (hr : ∀ r, row = some r → B ≤ r ∧ ∃ o : Obj, W.heap[r]? = some o ∧ o.isCells = false) (h : NC B W' W'') : NC B W W''
def stAt (ρ : Env) : List Nat → List Value → Env
  | p :: ps, v :: vs => stAt (st ρ p v) ps vs
  | _, _ => ρ
/-- How many operations. -/
def wtC : Code → Nat
  | .region _ ops _ => ops.toList.length
  | .seq a b => wtC a + wtC b
  | .cond _ a b => wtC a + wtC b
  | .block _ b => wtC b
  | .loop b => wtC b
  | .scope b => wtC b
  | .rangeFunc _ _ a b => wtC a + wtC b + 10
  | _ => 0
/-- How often a block is left by its number. -/
def leavesC (id : Nat) : Code → Nat
  | .exit i => match Nat.beq i id with | true => 1 | false => 0
  | .seq a b => leavesC id a + leavesC id b
  | .cond _ a b => leavesC id a + leavesC id b
  | .block _ b => leavesC id b
  | .loop b => leavesC id b
  | .scope b => leavesC id b
  | .rangeFunc _ _ a b => leavesC id b
  | _ => 0
/-- May it come to its end? -/
def fallsC : Code → Bool
  | .exit _ => false
  | .ret => false
  | .goto _ => false
  | .refuse _ => false
  | .seq a b => fallsC a && fallsC b
  | .cond _ a b => fallsC a || fallsC b
  | .block id b => fallsC b || Nat.ble 1 (leavesC id b)
  | .loop _ => false
  | .scope b => fallsC b
  | _ => true
/-- Where ways meet again, and much follows, what holds there is asked. -/
def cutW : Nat := 25
def cutCond (a b : Code) (n : Nat) : Bool := Nat.ble cutW n && (fallsC a && fallsC b) && (noRF a && noRF b)
def hasLoop : Code → Bool
  | .loop _ => true
  | .seq a b => hasLoop a || hasLoop b
  | .cond _ a b => hasLoop a || hasLoop b
  | .block _ b => hasLoop b
  | .scope b => hasLoop b
  | _ => false
def cutBlock (id : Nat) (b : Code) (n : Nat) : Bool := Nat.ble cutW n && (hasLoop b || Nat.ble 2 (leavesC id b + (match fallsC b with | true => 1 | false => 0))) && noRF b
def meetK (mods : List Nat) (ρ : Env) (f : List Value → Option (World → Prop)) (Q : Kont) : Kont :=
  seqK (fun ρ' _ w' => match shapeOk mods 0 ρ ρ' with
    | true => holdsAt (f (csOf mods 0 ρ ρ')) w'
    | false => False) Q
def vc (P : Program) (TT : List (Nat × TypeId)) : Code → Nat → Kont → Env → List Nat → World → Prop
  | .skip, n, Q, ρ, D, w => Q .normal ρ D w
  | .label _, n, Q, ρ, D, w => Q .normal ρ D w
  | .exit id, n, Q, ρ, D, w => Q (.exit id) ρ D w
  | .ret, n, Q, ρ, D, w => Q .ret ρ D w
  | .seq a b, n, Q, ρ, D, w => vc P TT a (wtC b + n) (seqK (vc P TT b n Q) Q) ρ D w
  | .cond c a b, n, Q, ρ, D, w => match ev ρ c with
    | .bool t => match cutCond a b n with
      | false => cond t (vc P TT a n Q ρ D w) (vc P TT b n Q ρ D w)
      | true => ∃ J : Cur (World → Prop) (ksOf (modsC (.cond c a b)) 0 ρ),
          cond t (vc P TT a 0 (meetK (modsC (.cond c a b)) ρ (appC _ J) Q) ρ D w) (vc P TT b 0 (meetK (modsC (.cond c a b)) ρ (appC _ J) Q) ρ D w) ∧
          ∀ (jk : Nat → Value) (w : World), allC (ksOf (modsC (.cond c a b)) 0 ρ) fun cs => holdsAt (appC _ J cs) w → Q .normal (hdOf (modsC (.cond c a b)) jk 0 ρ cs) D w
    | _ => False
  | .block id b, n, Q, ρ, D, w => match cutBlock id b n with
    | false => vc P TT b n (blockK id Q) ρ D w
    | true => ∃ J : Cur (World → Prop) (ksOf (modsC b) 0 ρ),
        vc P TT b 0 (blockK id (meetK (modsC b) ρ (appC _ J) Q)) ρ D w ∧
        ∀ (jk : Nat → Value) (w : World), allC (ksOf (modsC b) 0 ρ) fun cs => holdsAt (appC _ J cs) w → Q .normal (hdOf (modsC b) jk 0 ρ cs) D w
  | .scope b, n, Q, ρ, D, w => vc P TT b n (scopeK Q) ρ D w
  | .region _ ops draw, n, Q, ρ, D, w => match draw with
    | false => regV P ops.toList ops.toList ρ w fun ρ' w' => Q .normal ρ' D w'
    | true => drawV P ops.toList ρ w fun ρ' w' => Q .normal ρ' D w'
  | .loop b, n, Q, ρ, D, w => match noRF b with
    | true => ∃ (J : Cur (World → Prop) (ksOf (modsC b) 0 ρ)) (μ : Cur (World → Nat) (ksOf (modsC b) 0 ρ)),
        holdsAt (appC _ J (csOf (modsC b) 0 ρ ρ)) w ∧
        ∀ (jk : Nat → Value) (w : World), allC (ksOf (modsC b) 0 ρ) fun cs => holdsAt (appC _ J cs) w →
          vc P TT b 0 (seqK (fun ρ' _ w' => match shapeOk (modsC b) 0 ρ ρ' with
            | true => backV (appC _ J (csOf (modsC b) 0 ρ ρ')) (appC _ μ (csOf (modsC b) 0 ρ ρ')) (appC _ μ cs) w' w
            | false => False) Q) (hdOf (modsC b) jk 0 ρ cs) D w
    | false => False
  | .rangeFunc f ps assign body, n, Q, ρ, D, w => match noRF body with
    | true => match ev ρ f with
      | .func fn first lb => match fn with
        | .func g => match first.toList with
          | [] =>
            ∃ (xs : List (List Value)) (Kp : World → World → Prop) (I : List (List Value) → World → Prop) (Ix : Option Nat → List (List Value) → World → Prop),
              (Enters P g ∧ Seqs P g lb.toList xs Kp w ∧ (∀ vs ∈ xs, hasT P (ps.toList.map (ttOf TT)) vs) ∧ KeepOk w Kp ∧
              OwnFrom w.heap.size I ∧ (∀ e, OwnFrom w.heap.size (Ix e)) ∧ I [] w) ∧
              (∀ (pre : List (List Value)) (W : World), allTs P (ps.toList.map (ttOf TT)) fun vs => vs ∈ xs → match asg assign (stAt ρ ps.toList vs) with
                | some ρ' => pre.length < xs.length → I pre W → vc P TT body 0 (roundK (exitsC body []) w W Kp I Ix (pre ++ [vs])) ρ' [] W
                | none => match noRF assign with
                  | true => I pre W → vc P TT assign 0 (seqK (fun ρ' _ W' => KeepsFrom w.heap.size W W' ∧ Kp W W' ∧ I pre W' ∧
                      ∀ (pre' : List (List Value)) (W2 : World), NC w.heap.size W' W2 → pre'.length < xs.length → I pre' W2 → vc P TT body 0 (roundK (exitsC body []) w W2 Kp I Ix (pre' ++ [vs])) ρ' [] W2)
                      (fun _ _ _ _ => False)) (stAt ρ ps.toList vs) [] W
                  | false => False) ∧
              (∀ (d : Nat) (W : World), w.heap.size ≤ d → I xs W → W.heap[d]? = some (.deferred (some [])) → Q .normal ρ (d :: D) W) ∧
              (∀ (d : Nat) (pre : List (List Value)) (W : World), w.heap.size ≤ d → pre <+: xs → Ix none pre W → W.heap[d]? = some (.deferred (some [])) → Q .ret ρ (d :: D) W) ∧
              allIds (exitsC body []) fun id => ∀ (d : Nat) (pre : List (List Value)) (W : World), w.heap.size ≤ d → pre <+: xs → Ix (some id) pre W → W.heap[d]? = some (.deferred (some [])) → Q (.exit id) ρ (d :: D) W
          | _ :: _ => False
        | _ => False
      | _ => False
    | false => False
  | _, _, _, _, _, _ => False
def retV (P : Program) (ρ : Env) (w : World) : List ResultVar → (List Value → Prop) → Prop
  | [], K => K []
  | .tmp t :: rs, K => retV P ρ w rs fun vs => K (gt ρ t :: vs)
  | .cell p t :: rs, K => match gt ρ p with
    | .pointer (some a) => ldV P t w a fun v => retV P ρ w rs fun vs => K (v :: vs)
    | _ => False
def resV : List Value → Value
  | [v] => v
  | vs => .tuple vs.toArray
/-- The loops over functions have left marks: each is taken up. -/
def marksV (w : World) : List Nat → (World → Prop) → Prop
  | [], K => K w
  | d :: D, K => w.heap[d]? = some (.deferred (some [])) ∧ ∀ w' : World, w' = w.putObj d (.deferred none) → marksV w' D K
def endV (P : Program) (rs : List ResultVar) (R : Value → World → Prop) : Kont
  | .normal, ρ, D, w => marksV w D fun w' => retV P ρ w' rs fun vs => R (resV vs) w'
  | .ret, ρ, D, w => marksV w D fun w' => retV P ρ w' rs fun vs => R (resV vs) w'
  | _, _, _, _ => False
def fnV (P : Program) (TT : List (Nat × TypeId)) (fn : Func) (args : List Value) (w : World) (R : Value → World → Prop) : Prop :=
  match fn.body with
  | some c => vc P TT c 0 (endV P fn.results.toList R) (args.map Sl.v ++ List.replicate (fn.ntmps - args.length) (.v undef)) [] w
  | none => False
end Go.Eng
namespace Go.Eng
open Go
def FW (r : Option Nat) : Fence := { Fence.wide with round := r }
def dfs (D : List Nat) : List Deferred := D.map fun d => { target := .collected d, args := #[] }
def vals (ρ : Env) : List Value := ρ.map Sl.val
def actOf (ρ : Env) (ds : List Deferred) : Act := ⟨(vals ρ).toArray, ds⟩
theorem gtL_eq : ∀ (l : List Value) (n : Nat), l.getD n undef = gtL l n
  | [], n => by simp [gtL]
  | v :: l, 0 => by simp [gtL]
  | v :: l, n + 1 => by simpa [gtL] using gtL_eq l n
theorem stL_eq : ∀ (l : List Value) (n : Nat) (x : Value), l.set n x = stL l n x
  | [], n, x => by simp [stL]
  | v :: l, 0, x => by simp [stL]
  | v :: l, n + 1, x => by simpa [stL] using stL_eq l n x
theorem gt_eq : ∀ (l : Env) (n : Nat), (vals l).getD n undef = gt l n
  | [], n => by simp [gt, sl, vals, Sl.val]
  | v :: l, 0 => by simp [gt, sl, vals]
  | v :: l, n + 1 => by simpa [gt, sl, vals] using gt_eq l n
theorem st_eq : ∀ (l : Env) (n : Nat) (x : Value), (vals l).set n x = vals (st l n x)
  | [], n, x => by simp [st, vals]
  | v :: l, 0, x => by simp [st, vals, Sl.val]
  | v :: l, n + 1, x => by simpa [st, vals] using st_eq l n x
theorem st_length : ∀ (l : Env) (n : Nat) (x : Value), (st l n x).length = l.length
  | [], n, x => rfl
  | v :: l, 0, x => rfl
  | v :: l, n + 1, x => by simp [st, st_length l n x]
theorem putD_length (ρ : Env) (d : Option Tmp) (x : Value) : (putD ρ d x).length = ρ.length := by cases d <;> simp [putD, st_length]
theorem sl_st_other : ∀ (l : Env) (n m : Nat) (x : Value), n ≠ m → sl (st l n x) m = sl l m
  | [], n, m, x, _ => by simp [st]
  | v :: l, 0, 0, x, h => absurd rfl h
  | v :: l, 0, m + 1, x, _ => by simp [st, sl]
  | v :: l, n + 1, 0, x, _ => by simp [st, sl]
  | v :: l, n + 1, m + 1, x, h => by simpa [st, sl] using sl_st_other l n m x (by omega)
theorem gt_st_other (l : Env) (n m : Nat) (x : Value) (h : n ≠ m) : gt (st l n x) m = gt l m := by unfold gt; rw [sl_st_other _ _ _ _ h]
theorem st_self : ∀ (l : Env) (n : Nat) (x : Value), sl l n = .v x → st l n x = l
  | [], n, x, _ => by simp [st]
  | v :: l, 0, x, h => by simp only [sl] at h; subst h; rfl
  | v :: l, n + 1, x, h => by simpa [st] using st_self l n x (by simpa [sl] using h)
theorem st_comm : ∀ (l : Env) (n m : Nat) (x y : Value), n ≠ m → st (st l n x) m y = st (st l m y) n x
  | [], n, m, x, y, _ => by simp [st]
  | v :: l, 0, 0, x, y, h => absurd rfl h
  | v :: l, 0, m + 1, x, y, _ => by simp [st]
  | v :: l, n + 1, 0, x, y, _ => by simp [st]
  | v :: l, n + 1, m + 1, x, y, h => by simpa [st] using st_comm l n m x y (by omega)
theorem eval_actOf (ρ : Env) (ds : List Deferred) (x : Operand) : (actOf ρ ds).eval x = ev ρ x := by
  cases x <;> simp [Act.eval, actOf, ev, ← gt_eq]
theorem eval_actOf' (ρ : Env) (ds : List Deferred) : (actOf ρ ds).eval = ev ρ := funext (eval_actOf ρ ds)
theorem put_actOf (ρ : Env) (ds : List Deferred) (d : Option Tmp) (v : Value) : (actOf ρ ds).put d v = actOf (putD ρ d v) ds := by
  cases d with
  | none => rfl
  | some d => simp [Act.put, actOf, putD, ← st_eq]
theorem dstOf_eq : ∀ (ops : List Oper) (j : Nat), (ops[j]?).bind (·.dst) = dstOf ops j
  | [], j => by simp [dstOf]
  | o :: l, 0 => by simp [dstOf]
  | o :: l, n + 1 => by simpa [dstOf] using dstOf_eq l n
theorem opOf_eq : ∀ (ops : List Oper) (j : Nat), ops[j]? = opOf ops j
  | [], j => by simp [opOf]
  | o :: l, 0 => by simp [opOf]
  | o :: l, n + 1 => by simpa [opOf] using opOf_eq l n
theorem cellsL_eq (v : Value) : v.cells = (cellsL v).toArray := by cases v <;> simp [Value.cells, cellsL]
theorem adr_eq (a : Addr) (n : Nat) : adr a n = a.add n := by cases n <;> simp [adr, Addr.add]
theorem oneC_eq {v : Value} (h : oneC v = true) : v.oneCell' = true := by cases v <;> simp_all [oneC, Value.oneCell']
section
variable {P : Program} {w : World}
theorem exC_ex {k : CK} {p : Value → Prop} (h : exC k p) : ∃ v, p v := by
  cases k <;> simp only [exC] at h
  case int => obtain ⟨n, h⟩ := h; exact ⟨_, h⟩
  case sl => obtain ⟨a, l, c, h⟩ := h; exact ⟨_, h⟩
  case fn => obtain ⟨f, c, h⟩ := h; exact ⟨_, h⟩
  all_goals (obtain ⟨n, h⟩ := h; exact ⟨_, h⟩)
theorem exCs_ex : ∀ {ks : List CK} {p : List Value → Prop}, exCs ks p → ∃ vs, vs.length = ks.length ∧ p vs
  | [], p, h => ⟨[], rfl, h⟩
  | k :: ks, p, h => by
    obtain ⟨v, h⟩ := exC_ex h
    obtain ⟨vs, hl, h⟩ := exCs_ex h
    exact ⟨v :: vs, by simp [hl], h⟩
theorem exV_ex {t : TypeId} {p : Value → Prop} (h : exV P t p) : ∃ v, p v := by
  unfold exV at h
  split at h
  · obtain ⟨vs, _, h⟩ := exCs_ex h; exact ⟨_, h⟩
  · exact exC_ex h
theorem exTs_ex : ∀ {ts : List TypeId} {p : List Value → Prop}, exTs P ts p → ∃ vs, p vs
  | [], p, h => ⟨[], h⟩
  | t :: ts, p, h => by
    obtain ⟨v, h⟩ := exV_ex h
    obtain ⟨vs, h⟩ := exTs_ex h
    exact ⟨v :: vs, h⟩
theorem exRV_ex {t : TypeId} {p : Value → Prop} (h : exRV P t p) : ∃ v, p v := by
  unfold exRV at h
  split at h
  · obtain ⟨vs, h⟩ := exTs_ex h; exact ⟨_, h⟩
  · exact exV_ex h
theorem cellsAt_iff (a : Addr) : ∀ (vs : List Value) (i : Nat) (X : Prop), cellsAt w a i vs X ↔ (∀ j, j < vs.length → w.cell? (a.add (i + j)) = vs[j]?) ∧ X
  | [], i, X => by simp [cellsAt]
  | v :: vs, i, X => by
    simp only [cellsAt, cellsAt_iff a vs (i + 1), adr_eq]
    constructor
    · rintro ⟨h, h', hX⟩
      refine ⟨fun j hj => ?_, hX⟩
      cases j with
      | zero => simpa using h
      | succ j => have := h' j (by simpa using hj); rw [show i + 1 + j = i + (j + 1) by omega] at this; simpa using this
    · rintro ⟨h, hX⟩
      refine ⟨by simpa using h 0 (by simp), fun j hj => ?_, hX⟩
      have := h (j + 1) (by simpa using hj)
      rw [show i + (j + 1) = i + 1 + j by omega] at this; simpa using this
theorem run_underlying' {t : TypeId} {d : TypeDesc} (h : P.underlying t = some d) (w : World) : (underlying t).run P w = .ok d w := run_underlying h w
theorem run_typeInfo' {t : TypeId} {i : TypeInfo} (h : P.info? t = some i) (w : World) : (typeInfo t).run P w = .ok i w := by simp [typeInfo, h]
theorem info_of_underlying {t : TypeId} {d : TypeDesc} (h : P.underlying t = some d) : ∃ i, P.info? t = some i := by
  unfold Program.underlying at h
  split at h <;> first | exact ⟨_, by assumption⟩ | simp at h
theorem run_sizeOf' {t : TypeId} {d : TypeDesc} (h : P.underlying t = some d) (w : World) : (sizeOf t).run P w = .ok (sizeT P t) w := by
  obtain ⟨i, hi⟩ := info_of_underlying h
  simp [sizeOf, run_typeInfo' hi, sizeT, hi]
theorem run_sizeOf_info {t : TypeId} {i : TypeInfo} (h : P.info? t = some i) (w : World) : (sizeOf t).run P w = .ok (sizeT P t) w := by
  simp [sizeOf, run_typeInfo' h, sizeT, h]
theorem isAggT_some {t : TypeId} (h : isAggT P t = true) : ∃ d, P.underlying t = some d := by
  unfold isAggT at h; split at h <;> first | exact ⟨_, by assumption⟩ | simp at h
theorem run_isAgg' {t : TypeId} {d : TypeDesc} (h : P.underlying t = some d) (w : World) : (isAgg t).run P w = .ok (isAggT P t) w := by
  simp only [isAgg, Sem.run_bind, run_underlying' h, isAggT, h]
  cases d <;> rfl
theorem run_loadCellsFrom (a : Addr) : ∀ (vs : List Value) (i : Nat) (acc : Array Value), (∀ j, j < vs.length → w.cell? (a.add (i + j)) = vs[j]?) →
    (loadCellsFrom a i vs.length acc).run P w = .ok (acc ++ vs.toArray) w
  | [], i, acc, _ => by simp [loadCellsFrom]
  | v :: vs, i, acc, h => by
    have h0 : w.cell? (a.add i) = some v := by simpa using h 0 (by simp)
    have ih := run_loadCellsFrom a vs (i + 1) (acc.push v) (fun j hj => by
      have := h (j + 1) (by simpa using hj)
      rw [show i + (j + 1) = i + 1 + j by omega] at this; simpa using this)
    simp [loadCellsFrom, h0, ih]
theorem run_loadCells (a : Addr) (vs : List Value) (h : ∀ j, j < vs.length → w.cell? (a.add j) = vs[j]?) : (loadCells a vs.length).run P w = .ok vs.toArray w := by
  have := run_loadCellsFrom (P := P) a vs 0 #[] (by simpa using h)
  simpa [loadCells] using this
theorem knownT_some {t : TypeId} (h : knownT P t = true) : ∃ d, P.underlying t = some d := by
  unfold knownT at h; split at h <;> first | exact ⟨_, by assumption⟩ | simp at h
theorem infoT_some {t : TypeId} (h : infoT P t = true) : ∃ i, P.info? t = some i := by
  unfold infoT at h; split at h <;> first | exact ⟨_, by assumption⟩ | simp at h
theorem run_loadVar' {t : TypeId} {a : Addr} {K : Value → Prop} (h : ldV P t w a K) : ∃ v, (loadVar t a).run P w = .ok v w ∧ K v := by
  unfold ldV at h
  split at h
  · rename_i hagg
    obtain ⟨d, hd⟩ := isAggT_some hagg
    split at h
    · rename_i hl
      obtain ⟨vs, hvs, h⟩ := exCs_ex h
      rw [cellsAt_iff] at h
      have hn : sizeT P t = vs.length := by rw [hvs]; exact (Nat.eq_of_beq_eq_true hl).symm
      refine ⟨_, ?_, h.2⟩
      have := run_loadCells (P := P) a vs (fun j hj => by simpa using h.1 j hj)
      simp [loadVar, run_isAgg' hd, hagg, run_sizeOf' hd, hn, this]
    · exact h.elim
  · rename_i hagg
    split at h
    · rename_i hk
      obtain ⟨d, hd⟩ := knownT_some hk
      obtain ⟨v, hc, h⟩ := exC_ex h
      exact ⟨v, by simp [loadVar, run_isAgg' hd, hagg, hc], h⟩
    · exact h.elim
theorem isSome_setCell (w : World) (p q : Addr) (u : Value) (h : (w.cell? q).isSome = true) : ((w.setCell p u).cell? q).isSome = true := by
  by_cases hpq : p = q
  · subst hpq
    cases hc : w.cell? p with
    | none => rw [hc] at h; simp at h
    | some x => rw [World.cell?_setCell_same _ _ _ hc]; rfl
  · rw [World.cell?_setCell_other _ _ _ _ hpq]; exact h
theorem run_storeCells' {P : Program} {a : Addr} : ∀ {vs : List Value} {i : Nat} {w : World} {X : Prop}, wrOk w a i vs X → (storeCells a vs i).run P w = .ok () (wrs w a i vs) ∧ X
  | [], i, w, X, h => ⟨by simp [storeCells, wrs], h⟩
  | v :: vs, i, w, X, h => by
    simp only [wrOk] at h
    cases hv : oneC v with
    | false => rw [hv] at h; exact h.elim
    | true =>
      rw [hv] at h
      obtain ⟨hc, hf, h⟩ := h
      have key : ∀ (vs : List Value) (i : Nat) (X : Prop), wrOk w a i vs X → ∀ p u, wrOk (w.setCell p u) a i vs X := by
        intro vs
        induction vs with
        | nil => intro i X h p u; exact h
        | cons x vs ih =>
          intro i X h p u
          simp only [wrOk] at h ⊢
          cases hx : oneC x with
          | false => rw [hx] at h; exact h
          | true =>
            rw [hx] at h
            obtain ⟨h1, h2, h3⟩ := h
            refine ⟨?_, ?_, ih _ _ h3 p u⟩
            · exact isSome_setCell _ _ _ _ h1
            · rw [World.frozen?_setCell]; exact h2
      have ih := run_storeCells' (P := P) (key vs (i + 1) X h (adr a i) v)
      refine ⟨?_, ih.2⟩
      have hs : (store (a.add i) v).run P w = .ok () (w.setCell (a.add i) v) := by
        rw [adr_eq] at hc hf
        rw [run_store P w _ v _ (oneC_eq hv)]
        cases hcc : w.cell? (a.add i) with
        | none => rw [hcc] at hc; simp at hc
        | some u => simp [hf]
      simp only [storeCells, Sem.run_bind, hs, wrs]
      rw [adr_eq] at ih ⊢
      exact ih.1
theorem run_storeVar' {t : TypeId} {a : Addr} {v : Value} {K : World → Prop} (h : stV P t w a (cellsL v) K) : ∃ w', (storeVar t a v).run P w = .ok () w' ∧ K w' := by
  unfold stV at h
  split at h
  · rename_i hi
    obtain ⟨i, hi⟩ := infoT_some hi
    split at h
    · rename_i hl
      obtain ⟨hr, h⟩ := run_storeCells' (P := P) h
      refine ⟨_, ?_, h _ rfl⟩
      have hn : sizeT P t = (cellsL v).length := (Nat.eq_of_beq_eq_true hl).symm
      simp [storeVar, run_sizeOf_info hi, hn, cellsL_eq, hr]
    · exact h.elim
  · exact h.elim
theorem run_newRow' (cs : List Value) (t : TypeId) : (newRow t cs.toArray).run P w = .ok ⟨w.heap.size, 0, none⟩ (w.alloc (.cells cs.toArray t)) := by
  simp [newRow]
theorem run_box' (t : TypeId) (v : Value) : (Instr.box t v).run P w = .ok (.pointer (some ⟨w.heap.size, 0, none⟩)) (w.alloc (.cells (cellsL v).toArray t)) := by
  simp [Instr.box, newVar, cellsL_eq, run_newRow']
theorem run_alloc' {t : TypeId} {z : List Value} (h : zeroL P t = some z) : (Instr.alloc t true (.tuple #[])).run P w = .ok (.pointer (some ⟨w.heap.size, 0, none⟩)) (w.alloc (.cells z.toArray t)) := by
  unfold zeroL at h
  split at h
  · rename_i i hi
    cases hz : i.zero with
    | none => rw [hz] at h; simp at h
    | some v =>
      rw [hz] at h; simp only [Option.map_some, Option.some.injEq] at h; subst h
      simp [Instr.alloc, zeroValue, run_typeInfo' hi, hz, newVar, cellsL_eq, run_newRow']
  · simp at h
end
end Go.Eng
namespace Go.Eng
open Go
/-- What a run of an operation may come to. -/
def Out (P : Program) (K : Value → World → Prop) : Result Next → Prop
  | .ok (.value v) w' => K v w'
  | .ok .skip w' => K undef w'
  | .ok (.enter f args) w' => Calls P f args w' fun e w'' => ∃ v, e = .returned v ∧ K v w''
  | .ok (.round l f t a b) w' => RoundIn Fence.wide 0 P l f t a b w' fun e w'' => ∃ v, e = .returned v ∧ K v w''
  | _ => False
section
variable {P : Program} {w : World}
theorem ki_inj {k k' : IntKind} (h : Nat.beq (ki k) (ki k') = true) : k = k' := by
  have := Nat.eq_of_beq_eq_true h
  revert this; cases k <;> cases k' <;> simp [ki]
theorem cond_false_elim {b : Bool} {X : Prop} (h : cond b False X) : b = false ∧ X := by cases b <;> simp_all
theorem eqGuard_int (op : BinOp) (t : TypeId) (x y : Operand) (k k' : IntKind) (n m : Int) : eqGuard op t x y (.int k n) (.int k' m) = pure () := eqGuard_at_int op t x y _ k n
theorem eqGuard_bool (op : BinOp) (t : TypeId) (x y : Operand) (b c : Bool) : eqGuard op t x y (.bool b) (.bool c) = pure () := eqGuard_at_bool op t x y _ b
theorem arV_run {op : BinOp} {t : TypeId} {k : IntKind} {a b : Int} {K : Value → Prop} (hs : isShift op = false) (h : arV op k a b K) :
    ∃ v, (binOp op t (.int k a) (.int k b)).run P w = .ok v w ∧ K v := by
  cases op <;> simp only [arV, isShift] at h hs <;>
    first
      | exact h.elim
      | (obtain ⟨hb, h⟩ := cond_false_elim h; exact ⟨_, by simp at hb; simp [binOp, Op.intDiv, hb], h⟩)
      | exact ⟨_, by simp [binOp, Op.intArith, Op.intBits, Op.intCmp, band, bor, bxor, bclr] <;> rfl, h⟩
theorem shift_run {op : BinOp} {t : TypeId} {k k' : IntKind} {a b : Int} {K : Value → Prop}
    (h : match op with
      | .shl => cond (decide (b < 0)) False (K (.int k (bshl k a b)))
      | .shr => cond (decide (b < 0)) False (K (.int k (bshr k a b)))
      | _ => False) :
    ∃ v, (binOp op t (.int k a) (.int k' b)).run P w = .ok v w ∧ K v := by
  cases op <;> simp only at h <;>
    first
      | exact h.elim
      | (obtain ⟨hb, h⟩ := cond_false_elim h; exact ⟨_, by simp only [decide_eq_false_iff_not] at hb; simp [binOp, Op.shift, hb, bshl, bshr] <;> rfl, h⟩)
theorem ckOf1_bool {t : TypeId} (h : ckOf1 P t = .bool) : P.underlying t = some .bool := by
  unfold ckOf1 at h; split at h <;> simp_all
theorem equal_bool {t : TypeId} {a b : Bool} (h : P.underlying t = some .bool) : (Op.equal t (.bool a) (.bool b)).run P w = .ok (a == b) w := by
  show (Op.equalIn (9999 + 1) t (.bool a) (.bool b)).run P w = _
  unfold Op.equalIn
  simp only [Sem.run_bind, run_underlying' h]
  rfl
theorem binV_run {op : BinOp} {t : TypeId} {ox oy : Operand} {x y : Value} {K : Value → Prop} (h : binV P op t ox oy x y w K) :
    ∃ v, (do eqGuard op t ox oy x y; binOp op t x y : Sem Value).run P w = .ok v w ∧ K v := by
  unfold binV at h
  split at h
  · split at h
    · rename_i k a _ k' b
      rw [eqGuard_int]
      split at h
      · obtain ⟨v, hv, hk⟩ := shift_run (P := P) (w := w) (t := t) (k' := k') h; exact ⟨v, by simpa using hv, hk⟩
      · rename_i hs
        split at h
        · rename_i hk
          obtain rfl := ki_inj hk
          obtain ⟨v, hv, hk⟩ := arV_run (P := P) (w := w) (t := t) hs h; exact ⟨v, by simpa using hv, hk⟩
        · exact h.elim
    · exact h.elim
  · split at h
    · rw [eqGuard_bool]
      split at h
      · split at h
        · rename_i ht
          exact ⟨_, by
            rw [show (pure () : Sem Unit) = Sem.pure () from rfl]
            simp only [Sem.run_bind, Sem.run, binOp, equal_bool (ckOf1_bool ht)]
            rfl, h⟩
        · exact h.elim
      · split at h
        · rename_i ht
          exact ⟨_, by
            rw [show (pure () : Sem Unit) = Sem.pure () from rfl]
            simp only [Sem.run_bind, Sem.run, binOp, equal_bool (ckOf1_bool ht)]
            rfl, h⟩
        · exact h.elim
      · exact h.elim
    · exact h.elim
  · split at h
    · exact h.elim
    · exact h.elim
    · obtain ⟨b, hb, hk⟩ := h
      exact ⟨_, hb, hk⟩
end
end Go.Eng
namespace Go.Eng
open Go
section
variable {P : Program} {w : World}
theorem elemT_some {t e : TypeId} (h : elemT P t = some e) : P.underlying t = some (.slice e) := by
  unfold elemT at h; split at h <;> simp_all
theorem info_elem {e : TypeId} (w : World) (h : infoT P e = true) : (sizeOf e).run P w = .ok (sizeT P e) w := by
  obtain ⟨i, hi⟩ := infoT_some h; exact run_sizeOf_info hi w
theorem run_fieldAt' {s : TypeId} {a : Addr} {f : Nat} {fd : Field} (h : fieldV P s f = some fd) (hz : Nat.beq (sizeT P fd.type) 0 = false) :
    (Instr.fieldAt s (.pointer (some a)) f).run P w = .ok (.pointer (some (adr a fd.offset))) w := by
  unfold fieldV at h
  split at h
  · rename_i fs hu
    have hf : fs[f]? = some fd := by simpa using h
    have hne : sizeT P fd.type ≠ 0 := by intro e; rw [e] at hz; simp at hz
    have hi : ∃ i, P.info? fd.type = some i := by
      unfold sizeT at hne; split at hne
      · exact ⟨_, by assumption⟩
      · exact absurd rfl hne
    obtain ⟨i, hi⟩ := hi
    simp [Instr.fieldAt, run_underlying' hu, hf, Instr.sureAddr, fieldPlace, run_sizeOf_info hi, hne, adr_eq]
  · simp at h
theorem run_indexAt_slice {t e : TypeId} {p : Addr} {len cap : Nat} {k : IntKind} {n : Int} (he : elemT P t = some e) (hi : infoT P e = true) (h0 : 0 ≤ n) (h1 : n < (len : Int)) :
    (Instr.indexAt t (.slice (some p) len cap) (.int k n)).run P w = .ok (.pointer (some (p.add (n.toNat * sizeT P e)))) w := by
  simp [Instr.indexAt, asIntOf, run_underlying' (elemT_some he), h0, h1, info_elem w hi]
theorem run_indexAt_array {t e : TypeId} {p : Addr} {len : Nat} {k : IntKind} {n : Int} (he : P.underlying t = some (.array len e)) (hi : infoT P e = true) (h0 : 0 ≤ n) (h1 : n < (len : Int)) :
    (Instr.indexAt t (.pointer (some p)) (.int k n)).run P w = .ok (.pointer (some (p.add (n.toNat * sizeT P e)))) w := by
  simp [Instr.indexAt, asIntOf, run_underlying' he, h0, h1, info_elem w hi, Instr.sureAddr]
theorem run_part {t : TypeId} {cs : List Value} {off : Nat} (hk : knownT P t = true) :
    (isAggT P t = true → (part t cs.toArray off).run P w = .ok (.agg (sub cs off (sizeT P t)).toArray) w) ∧
    (isAggT P t = false → off < cs.length → (part t cs.toArray off).run P w = .ok (gtL cs off) w) := by
  obtain ⟨d, hd⟩ := knownT_some hk
  refine ⟨fun ha => ?_, fun ha ho => ?_⟩
  · simp [part, run_isAgg' hd, ha, run_sizeOf' hd, sub, List.extract_eq_take_drop]
  · have : cs.toArray[off]? = some (gtL cs off) := by
      rw [← gtL_eq]; simp [List.getD, ho]
    simp [part, run_isAgg' hd, ha, this]
theorem run_field' {s : TypeId} {cs : List Value} {f : Nat} {fd : Field} (h : fieldV P s f = some fd) (hk : knownT P fd.type = true) :
    (isAggT P fd.type = true → (Instr.field s (.agg cs.toArray) f).run P w = .ok (.agg (sub cs fd.offset (sizeT P fd.type)).toArray) w) ∧
    (isAggT P fd.type = false → fd.offset < cs.length → (Instr.field s (.agg cs.toArray) f).run P w = .ok (gtL cs fd.offset) w) := by
  unfold fieldV at h
  split at h
  · rename_i fs hu
    have hf : fs[f]? = some fd := by simpa using h
    have hp := run_part (w := w) (cs := cs) (off := fd.offset) hk
    refine ⟨fun ha => ?_, fun ha ho => ?_⟩
    · simp [Instr.field, run_underlying' hu, hf, asAgg, hp.1 ha]
    · simp [Instr.field, run_underlying' hu, hf, asAgg, hp.2 ha ho]
  · simp at h
theorem bnd_none {top n : Int} {K : Int → Prop} (h : bnd none top n K) : K n := h
theorem run_sliceBound {v : Value} {y : Nat} {code : BoundsCode} {K : Int → Prop} {d : Int} (h : bnd (some v) (y : Int) d K) :
    ∃ i : Int, 0 ≤ i ∧ i ≤ (y : Int) ∧ (Instr.sliceBound v y code).run P w = .ok i.toNat w ∧ K i := by
  cases v <;> simp only [bnd] at h
  obtain ⟨h0, h1, h⟩ := h
  exact ⟨_, h0, h1, by simp [Instr.sliceBound, asIntOf, h0, h1], h⟩
theorem offA_eq (a : Option Addr) (m l s : Nat) : offA a m l s = if m = l then a else a.map (·.add (l * s)) := by
  unfold offA
  by_cases h : m = l
  · subst h; simp
  · have : Nat.beq m l = false := by
      cases hb : Nat.beq m l with
      | false => rfl
      | true => exact absurd (Nat.eq_of_beq_eq_true hb) h
    simp [this, h]
theorem run_slice' {t e : TypeId} {a : Option Addr} {len cap : Nat} {lo hi mx : Option Value} {K : Value → Prop} (he : elemT P t = some e) (hin : infoT P e = true)
    (h : bnd mx cap cap fun m => bnd hi m len fun h =>
          match lo with
          | none => K (.slice a h.toNat m.toNat)
          | some l => bnd (some l) h 0 fun l => K (.slice (offA a m.toNat l.toNat (sizeT P e)) (h.toNat - l.toNat) (m.toNat - l.toNat)))
    (hmx : (mx.isSome && !hi.isSome) = false) :
    ∃ v, (Instr.sliceAt t (.slice a len cap) lo hi mx).run P w = .ok v w ∧ K v := by
  have hu := elemT_some he
  have hs := info_elem w hin
  revert h
  have fin : ∀ (m hh : Nat) (hb : (Instr.sliceBounds true len cap lo hi mx).run P w = (match lo with
        | none => .ok (0, hh, m) w
        | some l => ((Instr.sliceBound l hh (if mx.isSome then .slice3C else .sliceB)).run P w).andThen fun l w => .ok (l, hh, m) w)),
      (match lo with
          | none => K (.slice a hh m)
          | some l => bnd (some l) hh 0 fun l => K (.slice (offA a m l.toNat (sizeT P e)) (hh - l.toNat) (m - l.toNat))) →
      ∃ v, (Instr.sliceAt t (.slice a len cap) lo hi mx).run P w = .ok v w ∧ K v := by
    intro m hh hb h
    have hsl : Instr.sliceAt t (.slice a len cap) lo hi mx = (do
        match ← underlying t with
        | .array n elem =>
          let a ← Instr.sureAddr (.slice a len cap)
          let (l, h, m) ← Instr.sliceBounds false n n lo hi mx
          let size ← sizeOf elem
          pure (.slice (some (if m = l then a else a.add (l * size))) (h - l) (m - l))
        | _ => Instr.slice t (.slice a len cap) lo hi mx) := rfl
    cases lo with
    | none =>
      refine ⟨_, ?_, h⟩
      have hA : (if m = 0 then a else a.map (·.add (0 * sizeT P e))) = a := by
        cases a <;> simp [Addr.add]
      simp [hsl, run_underlying' hu, Instr.slice, hb, hs]
      cases a <;> simp [Addr.add]
    | some l =>
      obtain ⟨i, i0, i1, ir, h⟩ := run_sliceBound (P := P) (w := w) (code := (if mx.isSome then .slice3C else .sliceB)) h
      refine ⟨_, ?_, h⟩
      simp [hsl, run_underlying' hu, Instr.slice, hb, hs, ir, offA_eq]
  intro h
  cases mx with
  | none =>
    cases hi with
    | none =>
      have h := bnd_none (top := cap) h
      have h := bnd_none (top := cap) h
      exact fin cap len (by cases lo <;> simp [Instr.sliceBounds]) (by cases lo <;> simpa using h)
    | some v =>
      have h := bnd_none (top := cap) h
      obtain ⟨i, h0, h1, hr, h⟩ := run_sliceBound (P := P) (w := w) (code := .sliceAcap) h
      refine fin cap i.toNat (by cases lo <;> simp [Instr.sliceBounds, hr]) ?_
      rw [show ((i.toNat : Nat) : Int) = i by omega]
      cases lo <;> simpa using h
  | some u =>
    cases hi with
    | none => simp at hmx
    | some v =>
      obtain ⟨j, j0, j1, jr, h⟩ := run_sliceBound (P := P) (w := w) (code := .slice3Acap) h
      obtain ⟨jn, rfl⟩ : ∃ n : Nat, j = n := ⟨j.toNat, by omega⟩
      obtain ⟨i, h0, h1, hr, h⟩ := run_sliceBound (P := P) (w := w) (code := .slice3B) h
      refine fin jn i.toNat (by cases lo <;> simp at jr <;> simp [Instr.sliceBounds, jr, hr]) ?_
      rw [show ((i.toNat : Nat) : Int) = i by omega]
      cases lo <;> simpa using h
theorem elemI_some {t e : TypeId} (h : elemI P t = some e) : elemT P t = some e ∧ infoT P e = true := by
  unfold elemI at h
  split at h
  · rename_i e' hu
    split at h
    · rename_i hi
      simp only [Option.some.injEq] at h; subst h
      exact ⟨by simp [elemT, hu], hi⟩
    · simp at h
  · simp at h
theorem zeroL_run {t : TypeId} {z : List Value} (h : zeroL P t = some z) : ∃ v, (zeroValue t).run P w = .ok v w ∧ v.cells = z.toArray := by
  unfold zeroL at h
  split at h
  · rename_i i hi
    cases hz : i.zero with
    | none => rw [hz] at h; simp at h
    | some v =>
      rw [hz] at h; simp only [Option.map_some, Option.some.injEq] at h; subst h
      exact ⟨v, by simp [zeroValue, run_typeInfo' hi, hz], cellsL_eq v⟩
  · simp at h
theorem foldl_stAll : ∀ (vs : List Value) (cs : List Value) (off n : Nat),
    (vs.zipIdx n).foldl (fun (cs : Array Value) (x : Value × Nat) => cs.setIfInBounds (off + x.2) x.1) cs.toArray = (stAll cs (off + n) vs).toArray
  | [], cs, off, n => by simp [stAll]
  | v :: vs, cs, off, n => by
    simp only [List.zipIdx_cons, List.foldl_cons, stAll]
    rw [List.setIfInBounds_toArray, stL_eq, foldl_stAll vs _ off (n + 1)]
    rfl
theorem fill_eq (place : Nat → Option (Nat × Nat)) : ∀ (parts : List (Nat × Value)) (cs cs' : List Value), fillL place cs parts = some cs' → Instr.fill place cs.toArray parts = some cs'.toArray
  | [], cs, cs', h => by simp only [fillL, Option.some.injEq] at h; subst h; rfl
  | (i, v) :: rest, cs, cs', h => by
    simp only [fillL] at h
    simp only [Instr.fill]
    cases hp : place i with
    | none => rw [hp] at h; simp at h
    | some x =>
      obtain ⟨off, size⟩ := x
      rw [hp] at h
      simp only at h ⊢
      split at h
      · rename_i hc
        simp only [Bool.and_eq_true] at hc
        have h1 : (cellsL v).length = size := Nat.eq_of_beq_eq_true hc.1
        have h2 : off + (cellsL v).length ≤ cs.length := Nat.le_of_ble_eq_true hc.2
        have hn : ¬ (v.cells.size ≠ size ∨ off + v.cells.size > cs.toArray.size) := by
          rw [cellsL_eq]; simp [h1]; omega
        have hn' : (decide (v.cells.size ≠ size) || decide (off + v.cells.size > cs.toArray.size)) = false := by simpa using hn
        rw [if_neg (by simpa using hn)]
        have := fill_eq place rest _ cs' h
        rw [← this]
        congr 1
        rw [cellsL_eq]
        have hz := foldl_stAll (cellsL v) cs off 0
        simp only [Nat.add_zero] at hz
        rw [← hz, ← Array.foldl_toList]
        simp
      · simp at h
end
end Go.Eng
namespace Go.Eng
open Go
section
variable {P : Program} {w : World}
theorem mapM_info (w : World) : ∀ (fs : List Field), (fs.all fun f => infoT P f.type) = true →
    (fs.mapM fun f => (do pure (f.offset, ← sizeOf f.type) : Sem (Nat × Nat))).run P w = .ok (fs.map fun f => (f.offset, sizeT P f.type)) w
  | [], _ => by simp
  | f :: fs, h => by
    simp only [List.all_cons, Bool.and_eq_true] at h
    have ih := mapM_info w fs h.2
    simp only [List.mapM_cons, Sem.run_bind, info_elem w h.1]
    simp at ih ⊢
    rw [ih]
    simp
theorem run_build_struct {t : TypeId} {fs : Array Field} {z cs : List Value} {parts : List (Nat × Value)} (hu : P.underlying t = some (.struct fs))
    (hz : zeroI P t fs.toList = some z) (hf : fillL (placeS P fs.toList) z parts = some cs) : (Instr.build t parts.toArray).run P w = .ok (.agg cs.toArray) w := by
  unfold zeroI at hz
  split at hz
  · rename_i ha
    obtain ⟨v, hv, hc⟩ := zeroL_run (w := w) hz
    have hm := mapM_info w fs.toList ha
    have hfill := fill_eq _ _ _ _ hf
    have hm' : (fs.mapM fun f => (do pure (f.offset, ← sizeOf f.type) : Sem (Nat × Nat))).run P w = .ok (fs.toList.map fun f => (f.offset, sizeT P f.type)).toArray w := by
      rw [Array.mapM_eq_mapM_toList]
      have hmap : ∀ X : Sem (List (Nat × Nat)), (List.toArray <$> X : Sem (Array (Nat × Nat))) = X >>= fun l => pure l.toArray := fun _ => rfl
      rw [hmap, Sem.run_bind, hm]
      rfl
    have hp : (fun i => ((fs.toList.map fun f => (f.offset, sizeT P f.type)).toArray)[i]?) = placeS P fs.toList := by
      funext i; simp [placeS]
    simp only [Instr.build, Sem.run_bind, hv, run_underlying' hu]
    simp only [Result.andThen, Sem.run_bind, hm', hc]
    have hfill' : Instr.fill (fun x => ((fs.toList.map fun f => (f.offset, sizeT P f.type)).toArray)[x]?) z.toArray parts = some cs.toArray := by rw [hp]; exact hfill
    rw [hfill']
    rfl
  · simp at hz
theorem run_build_array {t e : TypeId} {n : Nat} {z cs : List Value} {parts : List (Nat × Value)} (hu : P.underlying t = some (.array n e))
    (hz : zeroE P t e = some z) (hf : fillL (fun i => some (i * sizeT P e, sizeT P e)) z parts = some cs) : (Instr.build t parts.toArray).run P w = .ok (.agg cs.toArray) w := by
  unfold zeroE at hz
  split at hz
  · rename_i ha
    obtain ⟨v, hv, hc⟩ := zeroL_run (w := w) hz
    have hfill := fill_eq _ _ _ _ hf
    simp only [Instr.build, Sem.run_bind, hv, run_underlying' hu, Result.andThen, info_elem w ha, hc]
    rw [hfill]
    rfl
  · simp at hz
theorem rep_flat (z : List Value) : ∀ (len : Nat), (List.range (len * z.length)).map (fun i => z.toArray[i % z.length]!) = (List.replicate len z).flatten
  | 0 => by simp
  | len + 1 => by
    rw [Nat.succ_mul, List.range_add, List.map_append, rep_flat z len, List.replicate_succ', List.flatten_append]
    congr 1
    simp only [List.map_map, List.flatten_cons, List.flatten_nil, List.append_nil]
    refine List.ext_getElem (by simp) (fun i h1 h2 => ?_)
    have hi : i < z.length := h2
    simp [Nat.add_mod, Nat.mod_eq_of_lt hi, hi]
theorem run_buildSlice' {t e : TypeId} {len : Nat} {z cs : List Value} {parts : List (Nat × Value)} (he : elemI P t = some e) (hl : Nat.ble (len * sizeT P e) 1000 = true)
    (hz : zeroL P e = some z) (hzl : Nat.beq z.length (sizeT P e) = true)
    (hf : fillL (fun i => some (i * sizeT P e, sizeT P e)) (List.replicate len z).flatten parts = some cs) :
    (Instr.buildSlice t len parts.toArray).run P w = .ok (.slice (some ⟨w.heap.size, 0, none⟩) len len) (w.alloc (.cells cs.toArray e)) := by
  obtain ⟨he, hi⟩ := elemI_some he
  have hu := elemT_some he
  obtain ⟨v, hv, hc⟩ := zeroL_run (w := w) hz
  have hfill := fill_eq _ _ _ _ hf
  have hl' : ¬ len * sizeT P e > 2 ^ 24 := by have := Nat.le_of_ble_eq_true hl; omega
  have hzl' : z.length = sizeT P e := Nat.eq_of_beq_eq_true hzl
  have hbase : ∀ zz : Array Value, (len * sizeT P e ≠ 0 → zz = z.toArray) → ((Array.range (len * sizeT P e)).map (zz[· % zz.size]!)) = ((List.replicate len z).flatten).toArray := by
    intro zz hzz
    rw [← rep_flat, ← hzl']
    by_cases h0 : len * sizeT P e = 0
    · simp [hzl', h0]
    · rw [hzz h0]
      apply Array.toList_inj.1
      simp [Array.toList_range]
  have hrest : ∀ zz : Array Value, (len * sizeT P e ≠ 0 → zz = z.toArray) →
      (match Instr.fill (fun i => some (i * sizeT P e, sizeT P e)) ((Array.range (len * sizeT P e)).map (zz[· % zz.size]!)) parts with
        | some cells => do let a ← newRow e cells; pure (Value.slice (some a) len len)
        | _ => stuck "buildSlice: a part of the wrong size" : Sem Value).run P w = .ok (.slice (some ⟨w.heap.size, 0, none⟩) len len) (w.alloc (.cells cs.toArray e)) := by
    intro zz hzz
    rw [hbase zz hzz, hfill]
    simp [run_newRow']
  by_cases h0 : len * sizeT P e = 0
  · simp only [Instr.buildSlice, Sem.run_bind, run_underlying' hu, Result.andThen, info_elem w hi, if_neg hl', if_pos h0]
    exact hrest #[] (fun h => absurd h0 h)
  · simp only [Instr.buildSlice, Sem.run_bind, run_underlying' hu, Result.andThen, info_elem w hi, if_neg h0, if_neg hl', hv, hc]
    exact hrest z.toArray (fun _ => rfl)
end
end Go.Eng
namespace Go.Eng
open Go
section
variable {P : Program} {w : World}
theorem evs_map (ρ : Env) (l : Array Operand) : l.map (ev ρ) = (evs ρ l.toList).toArray := by apply Array.toList_inj.1; simp [evs]
theorem value_out {o : Oper} {ρ : Env} {K : Value → World → Prop} {s : Sem Value} (he : execOp (ev ρ) o = (do pure (.value (← s))))
    (h : ∃ v w', s.run P w = .ok v w' ∧ K v w') : Out P K ((execOp (ev ρ) o).run P w) := by
  obtain ⟨v, w', hr, hk⟩ := h
  rw [he, Sem.run_bind, hr]
  exact hk
theorem ckOf1_str {t : TypeId} (h : ckOf1 P t = .str) : P.underlying t = some .string := by
  unfold ckOf1 at h; split at h <;> simp_all
theorem builtin_out {c : Call} {ρ : Env} {ty : TypeId} {K : Value → World → Prop} {b : Builtin} (hc : c.callee = .builtin b) (h : callV P ρ w ty c K) :
    Out P K ((do let d ← resolve (ev ρ) c ty; invoke d.target d.args : Sem Next).run P w) := by
  have hargs := evs_map ρ c.args
  have hlist : ∀ l : List Value, (evs ρ c.args.toList) = l → (c.args.map (ev ρ)) = l.toArray := fun l hl => by rw [hargs, hl]
  have hres : (do let d ← resolve (ev ρ) c ty; invoke d.target d.args : Sem Next) = builtin b c.argTypes ty (c.args.map fun | .const _ => true | _ => false) (c.args.map (ev ρ)) := by
    simp only [resolve, hc]; rfl
  rw [hres]
  simp only [callV, hc] at h
  have fin : ∀ (s : Sem Value) (hb : builtin b c.argTypes ty (c.args.map fun | .const _ => true | _ => false) (c.args.map (ev ρ)) = (do pure (.value (← s)))),
      (∃ v w', s.run P w = .ok v w' ∧ K v w') → Out P K ((builtin b c.argTypes ty (c.args.map fun | .const _ => true | _ => false) (c.args.map (ev ρ))).run P w) := by
    intro s hb h
    obtain ⟨v, w', hr, hk⟩ := h
    rw [hb, Sem.run_bind, hr]
    exact hk
  cases b <;> simp only at h <;> try exact h.elim
  case len =>
    refine fin _ rfl ?_
    split at h
    · rename_i a n m hl
      split at h
      · rename_i e he
        refine ⟨_, _, ?_, h⟩
        rw [hlist _ hl]
        cases ht : c.argTypes.toList with
        | nil => rw [ht] at he; simp at he
        | cons t ts =>
          rw [ht] at he
          simp only [List.head?_cons, Option.bind_some] at he
          have h0 : c.argTypes[0]? = some t := by rw [← Array.getElem?_toList, ht]; rfl
          simp [Builtin.len_, h0, run_underlying' (elemT_some he), goInt]
      · exact h.elim
    · rename_i s hl
      split at h
      · rename_i he
        refine ⟨_, _, ?_, h⟩
        rw [hlist _ hl]
        cases ht : c.argTypes.toList with
        | nil => rw [ht] at he; simp at he
        | cons t ts =>
          rw [ht] at he
          simp only [List.head?_cons, Option.map_some, Option.some.injEq] at he
          have h0 : c.argTypes[0]? = some t := by rw [← Array.getElem?_toList, ht]; rfl
          simp [Builtin.len_, h0, run_underlying' (ckOf1_str he), goInt]
      · exact h.elim
    · split at h
      · exact h.elim
      · exact h.elim
      · obtain ⟨n, hr, h⟩ := h
        exact ⟨_, _, by rw [hargs]; exact hr, h⟩
  case cap =>
    refine fin _ rfl ?_
    obtain ⟨n, hr, h⟩ := h
    exact ⟨_, _, by rw [hargs]; exact hr, h⟩
  case min =>
    refine fin _ rfl ?_
    split at h
    · rename_i k a k' b hl
      refine ⟨_, _, ?_, h⟩
      rw [hlist _ hl]
      simp [Builtin.min_, Builtin.min2]
    · exact h.elim
  case max =>
    refine fin _ rfl ?_
    obtain ⟨k, n, hr, h⟩ := h
    exact ⟨_, _, by rw [hargs]; exact hr, h⟩
  case append =>
    refine fin _ rfl ?_
    obtain ⟨a, l, c', w', hr, h⟩ := h
    exact ⟨_, _, by rw [hargs]; exact hr, h⟩
  case copy =>
    refine fin _ rfl ?_
    obtain ⟨n, w', hr, h⟩ := h
    exact ⟨_, _, by rw [hargs]; exact hr, h⟩
  case clear =>
    refine fin _ rfl ?_
    obtain ⟨w', hr, h⟩ := h
    exact ⟨_, _, by rw [hargs]; exact hr, h⟩
theorem call_out {c : Call} {ρ : Env} {ty : TypeId} {K : Value → World → Prop} (h : callV P ρ w ty c K) :
    Out P K ((do let d ← resolve (ev ρ) c ty; invoke d.target d.args : Sem Next).run P w) := by
  cases hc : c.callee with
  | builtin b => exact builtin_out hc h
  | invoke r n => simp [callV, hc] at h
  | value f =>
    simp only [callV, hc] at h
    split at h
    · rename_i fn first cap hf
      split at h
      · rename_i g
        obtain ⟨he, h⟩ := h
        have hres : (do let d ← resolve (ev ρ) c ty; invoke d.target d.args : Sem Next) = callFunc g (first.toList ++ evs ρ c.args.toList ++ cap.toList).toArray := by
          have : (first.toList ++ evs ρ c.args.toList ++ cap.toList).toArray = first ++ c.args.map (ev ρ) ++ cap := by
            rw [evs_map]; simp
          rw [this]
          simp only [resolve, hc, hf, Deferred.ofValue]
          rfl
        rw [hres, he]
        refine Calls.mono h ?_
        rintro e w' ⟨v, rfl, hv⟩
        obtain ⟨u, rfl, hu⟩ := exRV_ex hv
        exact ⟨_, rfl, hu⟩
      · rename_i l
        obtain ⟨fn, tmps, assign, body, hy, h⟩ := h
        have hres : (do let d ← resolve (ev ρ) c ty; invoke d.target d.args : Sem Next) = Instr.yield l (first.toList ++ evs ρ c.args.toList).toArray := by
          have : (first.toList ++ evs ρ c.args.toList).toArray = first ++ c.args.map (ev ρ) := by
            rw [evs_map]; simp
          rw [this]
          simp only [resolve, hc, hf, Deferred.ofValue]
          rfl
        rw [hres, hy]
        refine RoundIn.mono h ?_
        rintro e w' ⟨b, rfl, hb⟩
        exact ⟨_, rfl, hb⟩
      · exact h.elim
    · exact h.elim
theorem opV_out {o : Oper} {ρ : Env} {K : Value → World → Prop} (h : opV P o ρ w K) : Out P K ((execOp (ev ρ) o).run P w) ∧ ∀ c, o.op ≠ .defer c := by
  unfold opV at h
  cases hop : o.op <;> simp only [hop] at h <;> refine ⟨?_, fun c hc => by simp at hc⟩ <;>
    try (first | exact h.elim)
  case move x => simp only [execOp, hop]; exact h
  case assign x => simp only [execOp, hop]; exact h
  case pick c a b =>
    split at h
    · rename_i t ht
      simp only [execOp, hop, ht, asBool]
      cases t <;> exact h
    · exact h.elim
  case box t x => exact value_out (s := Instr.box t (ev ρ x)) (by simp only [execOp, hop]) ⟨_, _, run_box' _ _, h _ _ rfl rfl⟩
  case alloc t =>
    split at h
    · rename_i z hz
      exact value_out (s := Instr.alloc t true (.tuple #[])) (by simp only [execOp, hop]) ⟨_, _, run_alloc' hz, h _ _ rfl rfl⟩
    · exact h.elim
  case load t x =>
    split at h
    · rename_i a ha
      obtain ⟨v, hr, hk⟩ := run_loadVar' h
      refine value_out (s := Instr.loadAt t (ev ρ x)) (by simp only [execOp, hop]) ⟨v, w, ?_, hk⟩
      simp [Instr.loadAt, ha, Instr.sureAddr, hr]
    · exact h.elim
  case store t x y =>
    split at h
    · rename_i a ha
      obtain ⟨w', hr, hk⟩ := run_storeVar' h
      simp only [execOp, hop, Sem.run_bind]
      simp [Instr.storeAt, ha, Instr.sureAddr, hr]
      exact hk
    · exact h.elim
  case nilCheck x =>
    split at h
    · rename_i a ha
      obtain ⟨p, rfl, hk⟩ := h
      simp only [execOp, hop, ha]
      exact hk
    · exact h.elim
  case binOp op t x y yt =>
    obtain ⟨v, hr, hk⟩ := binV_run h
    exact value_out (s := do eqGuard op t x y (ev ρ x) (ev ρ y); binOp op t (ev ρ x) (ev ρ y)) (by simp only [execOp, hop]) ⟨v, w, hr, hk⟩
  case unOp op t x =>
    split at h
    · split at h
      · rename_i b hb
        exact value_out (s := Op.unary .not (ev ρ x)) (by simp only [execOp, hop]) ⟨_, w, by rw [hb]; rfl, h⟩
      · exact h.elim
    · split at h
      · rename_i b hb
        exact value_out (s := Op.unary .neg (ev ρ x)) (by simp only [execOp, hop]) ⟨_, w, by rw [hb]; rfl, h⟩
      · exact h.elim
    · exact h.elim
  case convert src dst x =>
    split at h
    · rename_i k n hn
      split at h
      · rename_i d hd
        split at h
        · rename_i k' hk'
          refine value_out (s := convert src dst (ev ρ x)) (by simp only [execOp, hop]) ⟨_, w, ?_, h⟩
          simp only [convert, Sem.run_bind, run_underlying' hd, run_underlying' hk', Result.andThen, hn]
          rfl
        · exact h.elim
      · exact h.elim
    · exact h.elim
  case makeFunc fn first captured =>
    refine value_out (s := Instr.makeFunc fn (first.map (ev ρ)) (captured.map (ev ρ))) (by simp only [execOp, hop]) ⟨_, w, ?_, h⟩
    simp [Instr.makeFunc, evs_map]
  case makeSlice t l c =>
    obtain ⟨a, n, m, w', hr, hk⟩ := h
    exact value_out (s := Instr.makeSlice t (ev ρ l) (ev ρ c)) (by simp only [execOp, hop]) ⟨_, w', hr, hk⟩
  case slice t x lo hi mx =>
    split at h
    · rename_i a len cap hx
      split at h
      · rename_i e he
        obtain ⟨he, hi'⟩ := elemI_some he
        split at h
        · exact h.elim
        · rename_i hmx
          have hh := run_slice' (P := P) (w := w) (a := a) (len := len) (cap := cap) (lo := lo.map (ev ρ)) (hi := hi.map (ev ρ)) (mx := mx.map (ev ρ)) (K := fun v => K v w) he hi'
            (by cases lo <;> exact h) (by simpa using hmx)
          obtain ⟨v, hr, hk⟩ := hh
          exact value_out (s := Instr.sliceAt t (ev ρ x) (lo.map (ev ρ)) (hi.map (ev ρ)) (mx.map (ev ρ))) (by simp only [execOp, hop]) ⟨v, w, by rw [hx]; exact hr, hk⟩
      · exact h.elim
    · exact h.elim
  case fieldAddr s x f =>
    split at h
    · rename_i a hx
      split at h
      · rename_i fd hfd
        split at h
        · exact h.elim
        · rename_i hz
          exact value_out (s := Instr.fieldAt s (ev ρ x) f) (by simp only [execOp, hop]) ⟨_, w, by rw [hx]; exact run_fieldAt' hfd hz, h⟩
      · exact h.elim
    · exact h.elim
  case field s x f =>
    split at h
    · rename_i cs hx
      split at h
      · rename_i fd hfd
        split at h
        · exact h.elim
        · rename_i hk
          have hf := run_field' (w := w) (cs := cs.toList) hfd hk
          split at h
          · rename_i ha
            exact value_out (s := Instr.field s (ev ρ x) f) (by simp only [execOp, hop]) ⟨_, w, by rw [hx]; exact hf.1 ha, h⟩
          · rename_i ha
            split at h
            · rename_i hlt
              exact value_out (s := Instr.field s (ev ρ x) f) (by simp only [execOp, hop]) ⟨_, w, by rw [hx]; exact hf.2 ha (by simpa [Nat.blt_eq] using hlt), h⟩
            · exact h.elim
      · exact h.elim
    · exact h.elim
  case indexAddr t x i =>
    split at h
    · rename_i a len cap hx
      split at h
      · rename_i k n hn
        split at h
        · rename_i e he
          obtain ⟨he, hi'⟩ := elemI_some he
          obtain ⟨p, rfl, h0, h1, h⟩ := h
          exact value_out (s := Instr.indexAt t (ev ρ x) (ev ρ i)) (by simp only [execOp, hop]) ⟨_, w, by rw [hx, hn]; exact run_indexAt_slice he hi' h0 h1, h⟩
        · exact h.elim
      · exact h.elim
    · rename_i a hx
      split at h
      · rename_i k n hn
        split at h
        · rename_i len e he
          split at h
          · rename_i hi'
            obtain ⟨h0, h1, h⟩ := h
            exact value_out (s := Instr.indexAt t (ev ρ x) (ev ρ i)) (by simp only [execOp, hop]) ⟨_, w, by rw [hx, hn]; exact run_indexAt_array he hi' h0 h1, h⟩
          · exact h.elim
        · exact h.elim
      · exact h.elim
    · exact h.elim
  case index t x i =>
    obtain ⟨v, hr, hk⟩ := exV_ex h
    exact value_out (s := Instr.index t (ev ρ x) (ev ρ i)) (by simp only [execOp, hop]) ⟨v, w, hr, hk⟩
  case extract x i =>
    split at h
    · rename_i vs hx
      split at h
      · rename_i hlt
        have hlt' : i < vs.size := by simpa [Nat.blt_eq] using hlt
        refine value_out (s := Instr.extract (ev ρ x) i) (by simp only [execOp, hop]) ⟨_, w, ?_, h⟩
        rw [hx, ← gtL_eq]
        simp [Instr.extract, hlt', List.getD]
      · exact h.elim
    · exact h.elim
  case build t parts =>
    have hparts : (parts.map fun x => (x.1, ev ρ x.2)) = (parts.toList.map fun p => (p.1, ev ρ p.2)).toArray := by apply Array.toList_inj.1; simp
    split at h
    · rename_i fs hu
      split at h
      · rename_i z hz
        split at h
        · rename_i cs hf
          exact value_out (s := Instr.build t (parts.map fun x => (x.1, ev ρ x.2))) (by simp only [execOp, hop]) ⟨_, w, by rw [hparts]; exact run_build_struct hu hz hf, h⟩
        · exact h.elim
      · exact h.elim
    · rename_i n e hu
      split at h
      · rename_i z hz
        split at h
        · rename_i cs hf
          exact value_out (s := Instr.build t (parts.map fun x => (x.1, ev ρ x.2))) (by simp only [execOp, hop]) ⟨_, w, by rw [hparts]; exact run_build_array hu hz hf, h⟩
        · exact h.elim
      · exact h.elim
    · exact h.elim
  case buildSlice t len parts =>
    have hparts : (parts.map fun x => (x.1, ev ρ x.2)) = (parts.toList.map fun p => (p.1, ev ρ p.2)).toArray := by apply Array.toList_inj.1; simp
    split at h
    · rename_i e he
      split at h
      · rename_i hl
        split at h
        · rename_i z hz
          split at h
          · rename_i hzl
            split at h
            · rename_i cs hf
              exact value_out (s := Instr.buildSlice t len (parts.map fun x => (x.1, ev ρ x.2))) (by simp only [execOp, hop]) ⟨_, _, by rw [hparts]; exact run_buildSlice' he hl hz hzl hf, h _ _ rfl rfl⟩
            · exact h.elim
          · exact h.elim
        · exact h.elim
      · exact h.elim
    · exact h.elim
  case call c =>
    have := call_out h
    simp only [execOp, hop]
    exact this
theorem Out.mono {K K' : Value → World → Prop} {r : Result Next} (hk : ∀ v w, K v w → K' v w) (h : Out P K r) : Out P K' r := by
  cases r with
  | halt x w => exact h
  | ok n w' =>
    cases n <;> simp only [Out] at h ⊢ <;> first
      | exact hk _ _ h
      | exact h
      | exact Calls.mono h (fun e w'' ⟨v, he, hv⟩ => ⟨v, he, hk _ _ hv⟩)
      | exact RoundIn.mono h (fun e w'' ⟨v, he, hv⟩ => ⟨v, he, hk _ _ hv⟩)
/-- An operation, in a fence. -/
theorem op_wpIn {r : Option Nat} {o : Oper} {ρ : Env} {ds : List Deferred} {Q : Exit → Act → World → Prop} {K : Value → World → Prop} {next : Act → World → Prop} (h : opV P o ρ w K)
    (hk : ∀ v w', K v w' → next (actOf (putD ρ o.dst v) ds) w') : o.wpIn (FW r) 0 P (actOf ρ ds) w next Q := by
  obtain ⟨ho, hd⟩ := opV_out h
  refine ⟨fun f _ => trivial, ?_⟩
  have hsem : o.semAt r (actOf ρ ds).eval = execOp (ev ρ) o := by
    rw [eval_actOf']
    cases r with
    | none => rfl
    | some l => exact Oper.semAt_some l _ o hd
  show o.uponIn (FW r) 0 P (actOf ρ ds) next Q ((o.semAt r (actOf ρ ds).eval).run P w)
  rw [hsem]
  generalize (execOp (ev ρ) o).run P w = res at ho
  cases res with
  | halt x w' => exact ho.elim
  | ok n w' =>
    cases n <;> simp only [Out] at ho <;> try exact ho.elim
    case value v => rw [Oper.uponIn_value, put_actOf]; exact hk _ _ ho
    case skip => rw [Oper.uponIn_skip, put_actOf]; exact hk _ _ ho
    case enter f args =>
      refine ⟨fun hh => by simp [FW, Fence.wide] at hh, ?_⟩
      have hc : CallsIn Fence.wide 0 P f args w' _ := callsIn_wide.2 ho
      refine CallsIn.mono (show CallsIn (FW r) 0 P f args w' _ from hc) ?_
      rintro e w'' ⟨v, rfl, hv⟩
      show next ((actOf ρ ds).put o.dst v) w''
      rw [put_actOf]; exact hk _ _ hv
    case round l f t a b =>
      refine ⟨fun hh => by simp [FW, Fence.wide] at hh, ?_⟩
      refine RoundIn.mono (show RoundIn (FW r) 0 P l f t a b w' _ from ho) ?_
      rintro e w'' ⟨v, rfl, hv⟩
      show next ((actOf ρ ds).put o.dst v) w''
      rw [put_actOf]; exact hk _ _ hv
end
end Go.Eng
namespace Go.Eng
open Go
section
variable {P : Program} {w : World}
theorem gt_some {ρ : Env} {d : Nat} : (vals ρ)[d]? = if d < (vals ρ).length then some (gt ρ d) else none := by
  rw [← gt_eq]
  split
  · rename_i h; simp [List.getD, h]
  · rename_i h; simp; omega
theorem gt_ge {ρ : Env} {d : Nat} (h : ¬ d < (vals ρ).length) : gt ρ d = undef := by
  rw [← gt_eq]; simp [List.getD, show (vals ρ).length ≤ d by omega]
theorem yielded_eq (ops : Array Oper) (ρ : Env) (j : Nat) : yielded ops (vals ρ).toArray j =
    (match dstOf ops.toList j with | none => none | some d => match gt ρ d with | .bool b => some b | _ => none) := by
  unfold yielded
  have : (ops[j]?).bind (·.dst) = dstOf ops.toList j := by rw [← dstOf_eq]; simp
  rw [this]
  cases dstOf ops.toList j with
  | none => rfl
  | some d =>
    simp only [Option.bind_some]
    have h0 : (vals ρ).toArray[d]? = (vals ρ)[d]? := by simp
    rw [h0, gt_some]
    by_cases h : d < (vals ρ).length
    · rw [if_pos h]; cases gt ρ d <;> rfl
    · rw [if_neg h, gt_ge h]; rfl
/-- One operation of a region, in a fence. -/
theorem step_wpOp {r : Option Nat} {ops : Array Oper} {i : Nat} {o : Oper} (ho : ops[i]? = some o) {ρ : Env} {ds : List Deferred} {Q : Exit → Act → World → Prop}
    {K : Env → World → Prop} {next : Act → World → Prop} (h : stepV P ops.toList o ρ w K) (hk : ∀ ρ' w', K ρ' w' → next (actOf ρ' ds) w') :
    wpOpIn (FW r) 0 P ops Q i next (actOf ρ ds) w := by
  unfold wpOpIn
  rw [ho]
  simp only
  have hgo : opV P o ρ w (fun v w' => K (putD ρ o.dst v) w') → o.wpIn (FW r) 0 P (actOf ρ ds) w next Q :=
    fun h => op_wpIn h (fun v w' hv => hk _ _ hv)
  have hskip : K (putD ρ o.dst undef) w → ((∀ f, o.about P w (actOf ρ ds).eval = some f → (FW r).fn f) ∧ next ((actOf ρ ds).put o.dst undef) w) :=
    fun h => ⟨fun _ _ => trivial, by rw [put_actOf]; exact hk _ _ h⟩
  have hw : Region.wanted o (yielded ops (actOf ρ ds).tmps) = (match o.guard with | none => true | some (j, want) => yielded ops (vals ρ).toArray j == some want) := by
    unfold Region.wanted actOf
    cases o.guard <;> rfl
  have main : (Region.wanted o (yielded ops (actOf ρ ds).tmps) = true ∧ opV P o ρ w (fun v w' => K (putD ρ o.dst v) w')) ∨
      (Region.wanted o (yielded ops (actOf ρ ds).tmps) = false ∧ K (putD ρ o.dst undef) w) := by
    rw [hw]
    unfold stepV at h
    cases hg : o.guard with
    | none => rw [hg] at h; exact .inl ⟨rfl, h⟩
    | some g =>
      obtain ⟨j, want⟩ := g
      rw [hg] at h
      simp only at h ⊢
      rw [yielded_eq]
      cases hd : dstOf ops.toList j with
      | none => rw [hd] at h; exact .inr ⟨rfl, h⟩
      | some d =>
        rw [hd] at h
        simp only at h ⊢
        split at h
        · exact h.elim
        · rename_i b hsl
          have hb : gt ρ d = .bool b := by unfold gt; rw [hsl]; rfl
          have hs : st ρ d (.bool b) = ρ := st_self _ _ _ hsl
          simp only [hb]
          cases b with
          | true =>
            simp only [cond_true, hs] at h
            cases want with
            | true => exact .inl ⟨rfl, h⟩
            | false => exact .inr ⟨rfl, h⟩
          | false =>
            simp only [cond_false, hs] at h
            cases want with
            | true => exact .inr ⟨rfl, h⟩
            | false => exact .inl ⟨rfl, h⟩
        · rename_i x hx hsl
          refine .inr ⟨?_, h⟩
          have hg : gt ρ d = x := by unfold gt; rw [hsl]; rfl
          rw [hg]
          split
          · rename_i b; exact absurd rfl (hx b)
          · rfl
  rcases main with ⟨h1, h2⟩ | ⟨h1, h2⟩
  · rw [if_pos h1]; exact hgo h2
  · rw [if_neg (by rw [h1]; simp)]; exact hskip h2
theorem reg_wpOps {r : Option Nat} {ops : Array Oper} {ds : List Deferred} {Q : Exit → Act → World → Prop} {K : Env → World → Prop}
    (hk : ∀ ρ' w', K ρ' w' → Q .normal (actOf ρ' ds) w') : ∀ (n i : Nat) (ρ : Env) (w : World), i + n = ops.size → regV P ops.toList (ops.toList.drop i) ρ w K →
    wpOpsIn (FW r) 0 P ops Q (List.range' i n) (actOf ρ ds) w
  | 0, i, ρ, w, hi, h => by
    rw [List.drop_of_length_le (by simp; omega)] at h
    exact hk _ _ h
  | n + 1, i, ρ, w, hi, h => by
    have hlt : i < ops.toList.length := by simp; omega
    rw [List.drop_eq_getElem_cons hlt] at h
    rw [List.range'_succ, wpOpsIn_cons]
    have ho : ops[i]? = some ops.toList[i] := by rw [← Array.getElem?_toList]; simp [hlt]
    exact step_wpOp ho h (fun ρ' w' h' => reg_wpOps hk n (i + 1) ρ' w' (by omega) h')
theorem region_wpIn {r : Option Nat} {id : Nat} {ops : Array Oper} {ds : List Deferred} {Q : Exit → Act → World → Prop} {K : Env → World → Prop} {ρ : Env}
    (hk : ∀ ρ' w', K ρ' w' → Q .normal (actOf ρ' ds) w') (h : regV P ops.toList ops.toList ρ w K) : (Code.region id ops false).wpIn (FW r) 0 P Q (actOf ρ ds) w := by
  refine wpIn_region ?_
  rw [List.range_eq_range']
  exact reg_wpOps hk ops.size 0 ρ w (by omega) (by simpa using h)
end
end Go.Eng
namespace Go.Eng
open Go
section
variable {P : Program}
def Agree (l : List Nat) (ρ ρ' : Env) : Prop := ∀ t ∈ l, sl ρ t = sl ρ' t
def AgreeOp (o : Oper) (ρ ρ' : Env) : Prop := ∀ x ∈ o.op.operands.toList, ev ρ x = ev ρ' x
theorem agree_op {ops : List Oper} {o : Oper} {ρ ρ' : Env} (h : Agree (readsOf ops o) ρ ρ') : AgreeOp o ρ ρ' := by
  intro x hx
  cases x with
  | tmp t =>
    refine congrArg Sl.val (h t ?_)
    unfold readsOf
    exact List.mem_append_left _ (List.mem_filterMap.2 ⟨.tmp t, hx, rfl⟩)
  | const v => rfl
  | global g => rfl
  | func f => rfl
theorem agree_guard {ops : List Oper} {o : Oper} {ρ ρ' : Env} {j d : Nat} {want : Bool} (h : Agree (readsOf ops o) ρ ρ') (hg : o.guard = some (j, want)) (hd : dstOf ops j = some d) : sl ρ d = sl ρ' d := by
  refine h d ?_
  unfold readsOf
  refine List.mem_append_right _ ?_
  rw [hg]; simp [hd]
theorem evs_congr {ρ ρ' : Env} {l : List Operand} (h : ∀ x ∈ l, ev ρ x = ev ρ' x) : evs ρ l = evs ρ' l := List.map_congr_left h
theorem opV_congr {o : Oper} {ρ ρ' : Env} {w : World} {K : Value → World → Prop} (h : AgreeOp o ρ ρ') : opV P o ρ w K = opV P o ρ' w K := by
  unfold AgreeOp at h
  unfold opV
  cases hop : o.op <;> simp only [hop, Op.operands] at h ⊢ <;> try rfl
  case call c =>
    have ha : evs ρ c.args.toList = evs ρ' c.args.toList := evs_congr fun x hx => h x (by simp [Call.operands]; exact .inr (by simpa using hx))
    unfold callV
    rw [ha]
    cases hc : c.callee with
    | value f =>
      have hf : ev ρ f = ev ρ' f := h f (by simp [Call.operands, hc])
      simp only [hf]
    | invoke r n => rfl
    | builtin b => rfl
  case build t parts =>
    have ha : (parts.toList.map fun p => (p.1, ev ρ p.2)) = (parts.toList.map fun p => (p.1, ev ρ' p.2)) := List.map_congr_left fun p hp => by
      rw [h p.2 (by simp only [List.mem_map]; exact ⟨p, hp, rfl⟩)]
    rw [ha]
  case buildSlice t len parts =>
    have ha : (parts.toList.map fun p => (p.1, ev ρ p.2)) = (parts.toList.map fun p => (p.1, ev ρ' p.2)) := List.map_congr_left fun p hp => by
      rw [h p.2 (by simp only [List.mem_map]; exact ⟨p, hp, rfl⟩)]
    rw [ha]
  case makeFunc fn first captured =>
    have h1 : evs ρ first.toList = evs ρ' first.toList := evs_congr fun x hx => h x (by simp at hx ⊢; exact .inl hx)
    have h2 : evs ρ captured.toList = evs ρ' captured.toList := evs_congr fun x hx => h x (by simp at hx ⊢; exact .inr hx)
    rw [h1, h2]
  case slice t x lo hi mx =>
    have hx : ev ρ x = ev ρ' x := h x (by simp)
    have hlo : lo.map (ev ρ) = lo.map (ev ρ') := by
      cases lo with
      | none => rfl
      | some y => simp [h y (by simp)]
    have hhi : hi.map (ev ρ) = hi.map (ev ρ') := by
      cases hi with
      | none => rfl
      | some y => simp [h y (by simp)]
    have hmx : mx.map (ev ρ) = mx.map (ev ρ') := by
      cases mx with
      | none => rfl
      | some y => simp [h y (by simp)]
    rw [hx, hhi, hmx]
    cases lo with
    | none => rfl
    | some y => simp [h y (by simp)]
  all_goals (simp only [List.mem_cons, List.not_mem_nil, or_false, forall_eq_or_imp, forall_eq] at h; simp [h])
theorem exC_mono {k : CK} {p q : Value → Prop} (h : ∀ v, p v → q v) : exC k p → exC k q := by
  cases k <;> simp only [exC]
  case sl => rintro ⟨a, l, c, hp⟩; exact ⟨a, l, c, h _ hp⟩
  case fn => rintro ⟨a, l, hp⟩; exact ⟨a, l, h _ hp⟩
  all_goals (rintro ⟨a, hp⟩; exact ⟨a, h _ hp⟩)
theorem exCs_mono : ∀ {ks : List CK} {p q : List Value → Prop}, (∀ v, p v → q v) → exCs ks p → exCs ks q
  | [], p, q, h => h _
  | k :: ks, p, q, h => exC_mono fun v => exCs_mono fun vs => h _
theorem exV_mono {t : TypeId} {p q : Value → Prop} (h : ∀ v, p v → q v) : exV P t p → exV P t q := by
  unfold exV; split
  · exact exCs_mono fun vs => h _
  · exact exC_mono h
theorem exTs_mono : ∀ {ts : List TypeId} {p q : List Value → Prop}, (∀ v, p v → q v) → exTs P ts p → exTs P ts q
  | [], p, q, h => h _
  | k :: ks, p, q, h => exV_mono fun v => exTs_mono fun vs => h _
theorem exRV_mono {t : TypeId} {p q : Value → Prop} (h : ∀ v, p v → q v) : exRV P t p → exRV P t q := by
  unfold exRV; split
  · exact exTs_mono fun vs => h _
  · exact exV_mono h
theorem cellsAt_mono {w : World} {a : Addr} {vs : List Value} {i : Nat} {X Y : Prop} (h : X → Y) (hc : cellsAt w a i vs X) : cellsAt w a i vs Y := by
  rw [cellsAt_iff] at hc ⊢; exact ⟨hc.1, h hc.2⟩
theorem ldV_mono {t : TypeId} {w : World} {a : Addr} {K K' : Value → Prop} (h : ∀ v, K v → K' v) : ldV P t w a K → ldV P t w a K' := by
  unfold ldV; split
  · split
    · exact exCs_mono fun vs => cellsAt_mono (h _)
    · exact id
  · split
    · exact exC_mono fun v hv => ⟨hv.1, h _ hv.2⟩
    · exact id
theorem wrOk_mono {w : World} {a : Addr} : ∀ {vs : List Value} {i : Nat} {X Y : Prop}, (X → Y) → wrOk w a i vs X → wrOk w a i vs Y
  | [], i, X, Y, h => h
  | v :: vs, i, X, Y, h => by
    simp only [wrOk]
    cases oneC v with
    | false => exact id
    | true => exact fun ⟨h1, h2, h3⟩ => ⟨h1, h2, wrOk_mono h h3⟩
theorem stV_mono {t : TypeId} {w : World} {a : Addr} {vs : List Value} {K K' : World → Prop} (h : ∀ v, K v → K' v) : stV P t w a vs K → stV P t w a vs K' := by
  unfold stV; split
  · split
    · exact wrOk_mono fun hk w' hw => h _ (hk w' hw)
    · exact id
  · exact id
theorem newV_mono {w : World} {vs : List Value} {t : TypeId} {K K' : Addr → World → Prop} (h : ∀ a w, K a w → K' a w) : newV w vs t K → newV w vs t K' :=
  fun hk b w' hb hw => h _ _ (hk b w' hb hw)
theorem cond_mono {b : Bool} {X Y X' Y' : Prop} (h : X → X') (h' : Y → Y') : cond b X Y → cond b X' Y' := by cases b <;> assumption
theorem arV_mono {op : BinOp} {k : IntKind} {a b : Int} {K K' : Value → Prop} (h : ∀ v, K v → K' v) : arV op k a b K → arV op k a b K' := by
  cases op <;> simp only [arV] <;> first | exact h _ | exact cond_mono id (h _) | exact id
theorem binV_mono {op : BinOp} {t : TypeId} {ox oy : Operand} {x y : Value} {w : World} {K K' : Value → Prop} (h : ∀ v, K v → K' v) : binV P op t ox oy x y w K → binV P op t ox oy x y w K' := by
  unfold binV
  split
  · split
    · split
      · cases op <;> first | exact cond_mono id (h _) | exact id
      · split
        · exact arV_mono h
        · exact id
    · exact id
  · split
    · split
      · split
        · exact h _
        · exact id
      · split
        · exact h _
        · exact id
      · exact id
    · exact id
  · split
    · exact id
    · exact id
    · exact fun ⟨b, hb, hk⟩ => ⟨b, hb, h _ hk⟩
theorem bnd_mono {v : Option Value} {top d : Int} {K K' : Int → Prop} (h : ∀ i, K i → K' i) : bnd v top d K → bnd v top d K' := by
  unfold bnd
  split
  · exact h _
  · exact fun ⟨h0, h1, h2⟩ => ⟨h0, h1, h _ h2⟩
  · exact id
theorem Cl_mono {g : FuncId} {args : Array Value} {w : World} {K K' : Value → World → Prop} (h : ∀ v w', K v w' → K' v w') : Cl P g args w K → Cl P g args w K' :=
  fun ⟨he, hc⟩ => ⟨he, Calls.mono hc fun e w' ⟨v, hv, hk⟩ => ⟨v, hv, h _ _ hk⟩⟩
theorem Yl_mono {l : Nat} {args : List Value} {w : World} {K K' : Bool → World → Prop} (h : ∀ v w', K v w' → K' v w') : Yl P l args w K → Yl P l args w K' :=
  fun ⟨fn, t, a, b, hy, hr⟩ => ⟨fn, t, a, b, hy, RoundIn.mono hr fun e w' ⟨v, hv, hk⟩ => ⟨v, hv, h _ _ hk⟩⟩
theorem callV_mono {c : Call} {ρ : Env} {ty : TypeId} {w : World} {K K' : Value → World → Prop} (h : ∀ v w', K v w' → K' v w') : callV P ρ w ty c K → callV P ρ w ty c K' := by
  unfold callV
  split
  · exact id
  · split
    · split
      · exact Cl_mono fun v w' => exRV_mono fun u ⟨hu, hk⟩ => ⟨hu, h _ _ hk⟩
      · exact Yl_mono fun b w' => h _ _
      · exact id
    · exact id
  · split
    · split
      · split
        · exact h _ _
        · exact id
      · split
        · exact h _ _
        · exact id
      · split
        · exact id
        · exact id
        · exact fun ⟨n, hr, hk⟩ => ⟨n, hr, h _ _ hk⟩
    · exact fun ⟨n, hr, hk⟩ => ⟨n, hr, h _ _ hk⟩
    · split
      · exact h _ _
      · exact id
    · exact fun ⟨k, n, hr, hk⟩ => ⟨k, n, hr, h _ _ hk⟩
    · exact fun ⟨a, l, c', w', hr, hk⟩ => ⟨a, l, c', w', hr, h _ _ hk⟩
    · exact fun ⟨n, w', hr, hk⟩ => ⟨n, w', hr, h _ _ hk⟩
    · exact fun ⟨w', hr, hk⟩ => ⟨w', hr, h _ _ hk⟩
    · exact id
theorem opV_mono {o : Oper} {ρ : Env} {w : World} {K K' : Value → World → Prop} (h : ∀ v w', K v w' → K' v w') : opV P o ρ w K → opV P o ρ w K' := by
  unfold opV
  cases o.op <;> simp only [] <;> try exact id
  case move x => exact h _ _
  case assign x => exact h _ _
  case pick c a b => split <;> first | exact cond_mono (h _ _) (h _ _) | exact id
  case box t x => exact newV_mono fun a w => h _ _
  case alloc t => split <;> first | exact newV_mono fun a w => h _ _ | exact id
  case load t x => split <;> first | exact ldV_mono fun v => h _ _ | exact id
  case store t x y => split <;> first | exact stV_mono fun v => h _ _ | exact id
  case nilCheck x => split <;> first | exact fun ⟨p, hp, hk⟩ => ⟨p, hp, h _ _ hk⟩ | exact id
  case binOp op t x y yt => exact binV_mono fun v => h _ _
  case unOp op t x => split <;> first | exact id | (split <;> first | exact h _ _ | exact id)
  case convert s d x => split <;> first | exact id | (split <;> first | exact id | (split <;> first | exact h _ _ | exact id))
  case makeFunc fn f c => exact h _ _
  case makeSlice t l c => exact fun ⟨a, n, m, w', hr, hk⟩ => ⟨a, n, m, w', hr, h _ _ hk⟩
  case slice t x lo hi mx =>
    split
    · split
      · split
        · exact id
        · refine bnd_mono fun m => bnd_mono fun hh => ?_
          split
          · exact h _ _
          · exact bnd_mono fun l => h _ _
      · exact id
    · exact id
  case fieldAddr s x f => split <;> first | exact id | (split <;> first | exact id | (split <;> first | exact h _ _ | exact id))
  case field s x f =>
    split
    · split
      · split
        · exact id
        · split
          · exact h _ _
          · split
            · exact h _ _
            · exact id
      · exact id
    · exact id
  case indexAddr t x i =>
    split
    · split
      · split
        · exact fun ⟨p, hp, h0, h1, hk⟩ => ⟨p, hp, h0, h1, h _ _ hk⟩
        · exact id
      · exact id
    · split
      · split
        · split
          · exact fun ⟨h0, h1, hk⟩ => ⟨h0, h1, h _ _ hk⟩
          · exact id
        · exact id
      · exact id
    · exact id
  case index t x i => exact exV_mono fun v ⟨hr, hk⟩ => ⟨hr, h _ _ hk⟩
  case extract x i => split <;> first | exact id | (split <;> first | exact h _ _ | exact id)
  case build t parts =>
    split
    · split
      · split
        · exact h _ _
        · exact id
      · exact id
    · split
      · split
        · exact h _ _
        · exact id
      · exact id
    · exact id
  case buildSlice t len parts =>
    split
    · split
      · split
        · split
          · split
            · exact newV_mono fun a w => h _ _
            · exact id
          · exact id
        · exact id
      · exact id
    · exact id
  case call c => exact callV_mono h
theorem Out_some {K : Value → World → Prop} {r : Result Next} (h : Out P K r) : ∃ v w', K v w' := by
  cases r with
  | halt x w => exact h.elim
  | ok n w' =>
    cases n <;> simp only [Out] at h <;> first
      | exact ⟨_, _, h⟩
      | exact h.elim
      | (obtain ⟨e, w'', fr, ⟨v, _, hv⟩, _⟩ := h []; exact ⟨_, _, hv⟩)
      | (obtain ⟨e, w'', ⟨v, _, hv⟩, _⟩ := h.2 default [] (room_wide _); exact ⟨_, _, hv⟩)
theorem opV_some {o : Oper} {ρ : Env} {w : World} {K : Value → World → Prop} (h : opV P o ρ w K) : ∃ v w', K v w' := Out_some (opV_out h).1
end
end Go.Eng
namespace Go.Eng
open Go
section
variable {P : Program}
theorem cond_false_iff {b : Bool} {X : Prop} (hb : b = false) : cond b False X ↔ X := by subst hb; exact Iff.rfl
theorem cls_pure_bin {t : TypeId} {op : BinOp} {ox oy : Operand} {x y : Value} {w : World} {K : Value → Prop}
    (hc : (match ckOf1 P t with | .int _ => Cls.pure | .bool => .pure | _ => .act) = .pure) (h : binV P op t ox oy x y w K) :
    ∃ v, ∀ (w' : World) (K' : Value → Prop), binV P op t ox oy x y w' K' ↔ K' v := by
  unfold binV at h ⊢
  split at h
  · split at h
    · split at h
      · cases op <;> simp only at h <;> first
          | exact h.elim
          | (obtain ⟨hb, _⟩ := cond_false_elim h; exact ⟨_, fun w' K' => cond_false_iff hb⟩)
      · split at h
        · cases op <;> simp only [arV] at h <;> first
            | exact h.elim
            | exact ⟨_, fun w' K' => Iff.rfl⟩
            | (obtain ⟨hb, _⟩ := cond_false_elim h; exact ⟨_, fun w' K' => cond_false_iff hb⟩)
        · exact h.elim
    · exact h.elim
  · split at h
    · split at h
      · split at h
        · exact ⟨_, fun w' K' => Iff.rfl⟩
        · exact h.elim
      · split at h
        · exact ⟨_, fun w' K' => Iff.rfl⟩
        · exact h.elim
      · exact h.elim
    · exact h.elim
  · split at h
    · exact h.elim
    · exact h.elim
    · rename_i h1 h2
      exfalso
      revert hc
      split
      · rename_i k hk; exact absurd hk (h1 k)
      · rename_i hk; exact absurd hk h2
      · intro hc; cases hc
theorem bnd_iff {v : Option Value} {top d : Int} {K : Int → Prop} (h : bnd v top d K) : ∃ i, K i ∧ ∀ K' : Int → Prop, bnd v top d K' ↔ K' i := by
  unfold bnd at h ⊢
  split at h
  · exact ⟨d, h, fun K' => Iff.rfl⟩
  · rename_i k i
    obtain ⟨h0, h1, h⟩ := h
    exact ⟨i, h, fun K' => ⟨fun hh => hh.2.2, fun hh => ⟨h0, h1, hh⟩⟩⟩
  · exact h.elim
theorem pure_iff {o : Oper} {ρ : Env} {w : World} {K : Value → World → Prop} (hc : clsOf P o = .pure) (h : opV P o ρ w K) :
    ∃ v, ∀ (w' : World) (K' : Value → World → Prop), opV P o ρ w' K' ↔ K' v w' := by
  unfold clsOf at hc
  unfold opV at h ⊢
  cases hop : o.op <;> simp only [hop] at h hc ⊢ <;> try cases hc
  case move x => exact ⟨_, fun w' K' => Iff.rfl⟩
  case assign x => exact ⟨_, fun w' K' => Iff.rfl⟩
  case pick c a b =>
    split at h
    · rename_i t ht
      cases t
      · exact ⟨_, fun w' K' => Iff.rfl⟩
      · exact ⟨_, fun w' K' => Iff.rfl⟩
    · exact h.elim
  case nilCheck x =>
    split at h
    · obtain ⟨p, rfl, hk⟩ := h
      exact ⟨.pointer (some p), fun w' K' => ⟨fun ⟨q, hq, hk⟩ => by cases hq; exact hk, fun hk => ⟨p, rfl, hk⟩⟩⟩
    · exact h.elim
  case binOp op t x y yt =>
    obtain ⟨v, hv⟩ := cls_pure_bin hc h
    exact ⟨v, fun w' K' => hv w' fun v => K' v w'⟩
  case unOp op t x =>
    split at h
    · split at h
      · exact ⟨_, fun w' K' => Iff.rfl⟩
      · exact h.elim
    · split at h
      · exact ⟨_, fun w' K' => Iff.rfl⟩
      · exact h.elim
    · exact h.elim
  case convert s d x =>
    split at h
    · split at h
      · split at h
        · exact ⟨_, fun w' K' => Iff.rfl⟩
        · exact h.elim
      · exact h.elim
    · exact h.elim
  case makeFunc fn f c => exact ⟨_, fun w' K' => Iff.rfl⟩
  case slice t x lo hi mx =>
    split at h
    · split at h
      · split at h
        · exact h.elim
        · obtain ⟨m, hm, im⟩ := bnd_iff h
          obtain ⟨hh, hhh, ih⟩ := bnd_iff hm
          cases lo with
          | none => exact ⟨_, fun w' K' => (im _).trans (ih _)⟩
          | some l =>
            obtain ⟨ll, hl, il⟩ := bnd_iff hhh
            exact ⟨_, fun w' K' => (im _).trans ((ih _).trans (il _))⟩
      · exact h.elim
    · exact h.elim
  case fieldAddr s x f =>
    split at h
    · split at h
      · split at h
        · exact h.elim
        · exact ⟨_, fun w' K' => Iff.rfl⟩
      · exact h.elim
    · exact h.elim
  case field s x f =>
    split at h
    · split at h
      · split at h
        · exact h.elim
        · split at h
          · exact ⟨_, fun w' K' => Iff.rfl⟩
          · split at h
            · exact ⟨_, fun w' K' => Iff.rfl⟩
            · exact h.elim
      · exact h.elim
    · exact h.elim
  case indexAddr t x i =>
    split at h
    · split at h
      · split at h
        · obtain ⟨p, rfl, h0, h1, hk⟩ := h
          exact ⟨_, fun w' K' => ⟨fun ⟨q, hq, _, _, hk⟩ => by cases hq; exact hk, fun hk => ⟨p, rfl, h0, h1, hk⟩⟩⟩
        · exact h.elim
      · exact h.elim
    · split at h
      · split at h
        · split at h
          · obtain ⟨h0, h1, hk⟩ := h
            exact ⟨_, fun w' K' => ⟨fun hk => hk.2.2, fun hk => ⟨h0, h1, hk⟩⟩⟩
          · exact h.elim
        · exact h.elim
      · exact h.elim
    · exact h.elim
  case extract x i =>
    split at h
    · split at h
      · exact ⟨_, fun w' K' => Iff.rfl⟩
      · exact h.elim
    · exact h.elim
  case build t parts =>
    split at h
    · split at h
      · split at h
        · exact ⟨_, fun w' K' => Iff.rfl⟩
        · exact h.elim
      · exact h.elim
    · split at h
      · split at h
        · exact ⟨_, fun w' K' => Iff.rfl⟩
        · exact h.elim
      · exact h.elim
    · exact h.elim
  case call c =>
    unfold callV at h ⊢
    cases hcc : c.callee <;> simp only [hcc] at h hc ⊢
    case builtin b =>
      cases b <;> simp only at h hc ⊢ <;> try cases hc
      case len =>
        split at h
        · split at h
          · exact ⟨_, fun w' K' => Iff.rfl⟩
          · exact h.elim
        · split at h
          · exact ⟨_, fun w' K' => Iff.rfl⟩
          · exact h.elim
        · split at h
          · exact h.elim
          · exact h.elim
          · rename_i h1 h2
            exfalso
            revert hc
            split
            · rename_i hk; exact absurd hk h1
            · rename_i hk; exact absurd hk h2
            · intro hc; cases hc
      case min =>
        split at h
        · exact ⟨_, fun w' K' => Iff.rfl⟩
        · exact h.elim
    all_goals exact absurd hc (by simp)
end
end Go.Eng
namespace Go.Eng
open Go
section
variable {P : Program} {ops : List Oper} {pre : List (List Nat)}
def Holds (w : World) (a : Addr) (cs : List Value) : Prop := ∀ j, j < cs.length → w.cell? (a.add j) = cs[j]?
theorem cellsAt_holds {w : World} {a : Addr} {cs : List Value} {X : Prop} : cellsAt w a 0 cs X ↔ Holds w a cs ∧ X := by
  rw [cellsAt_iff]; simp [Holds]
theorem keepV_iff {w : World} : ∀ {fs : List Fact} {X : Prop}, keepV w fs X ↔ (∀ f ∈ fs, Holds w f.addr f.cells) ∧ X
  | [], X => by simp [keepV]
  | f :: fs, X => by
    simp only [keepV, cellsAt_holds, keepV_iff (fs := fs)]
    constructor
    · rintro ⟨h, h', hX⟩
      refine ⟨fun g hg => ?_, hX⟩
      rcases List.mem_cons.1 hg with rfl | hg
      · exact h
      · exact h' _ hg
    · rintro ⟨h, hX⟩
      exact ⟨h f (by simp), fun g hg => h g (by simp [hg]), hX⟩
theorem exC_pick {k : CK} {p : Value → Prop} (h : exC k p) : ∃ v, p v ∧ ∀ q : Value → Prop, q v → exC k q := by
  cases k <;> simp only [exC] at h ⊢
  case sl => obtain ⟨a, l, c, h⟩ := h; exact ⟨_, h, fun q hq => ⟨a, l, c, hq⟩⟩
  case fn => obtain ⟨a, l, h⟩ := h; exact ⟨_, h, fun q hq => ⟨a, l, hq⟩⟩
  all_goals (obtain ⟨a, h⟩ := h; exact ⟨_, h, fun q hq => ⟨a, hq⟩⟩)
theorem ldV_iff {t : TypeId} {w : World} {a : Addr} {K : Value → Prop} (h : ldV P t w a K) :
    ∃ v, Holds w a (fcOf P t v) ∧ ∀ (w' : World) (K' : Value → Prop), Holds w' a (fcOf P t v) → (ldV P t w' a K' ↔ K' v) := by
  unfold ldV at h ⊢
  unfold fcOf
  split at h
  · split at h
    · rename_i hl
      -- several cells
      have key : ∀ (ks : List CK) (p : List Value → Prop), exCs ks p → ∃ vs, vs.length = ks.length ∧ p vs ∧ ∀ q : List Value → Prop, q vs → exCs ks q := by
        intro ks
        induction ks with
        | nil => intro p h; exact ⟨[], rfl, h, fun q hq => hq⟩
        | cons k ks ih =>
          intro p h
          obtain ⟨v, hv, iv⟩ := exC_pick h
          obtain ⟨vs, hvl, hvs, ivs⟩ := ih _ hv
          exact ⟨v :: vs, by simp [hvl], hvs, fun q hq => iv _ (ivs _ hq)⟩
      obtain ⟨vs, hvl, hvs, ivs⟩ := key _ _ h
      rw [cellsAt_holds] at hvs
      refine ⟨.agg vs.toArray, by simpa [cellsL] using hvs.1, fun w' K' hh => ?_⟩
      simp only [cellsL] at hh
      constructor
      · intro h'
        obtain ⟨us, hul, hus, ius⟩ := key _ _ h'
        rw [cellsAt_holds] at hus
        have : us = vs := by
          refine List.ext_getElem? fun j => ?_
          by_cases hj : j < us.length
          · have h1 := hus.1 j hj
            have h2 := hh j (by rw [hvl, ← hul]; exact hj)
            rw [← h1, h2]
          · rw [List.getElem?_eq_none (by omega), List.getElem?_eq_none (by omega)]
        rw [← this]; exact hus.2
      · intro hk
        exact ivs _ (cellsAt_holds.2 ⟨hh, hk⟩)
    · exact h.elim
  · split at h
    · obtain ⟨v, hv, iv⟩ := exC_pick h
      refine ⟨v, ?_, fun w' K' hh => ?_⟩
      · intro j hj
        simp at hj; subst hj
        simpa [Addr.add] using hv.1
      · have hc : w'.cell? a = some v := by simpa [Addr.add] using hh 0 (by simp)
        constructor
        · intro h'
          obtain ⟨u, hu, iu⟩ := exC_pick h'
          rw [hc] at hu
          obtain rfl : v = u := by simpa using hu.1
          exact hu.2
        · intro hk; exact iv _ ⟨hc, hk⟩
    · exact h.elim
/-- An operation is passed over, or its result hangs on its operands alone; or it reads; or it acts. -/
def Tri (P : Program) (ops : List Oper) (pre : List (List Nat)) (i : Nat) (o : Oper) (ρ : Env) (w : World) : Prop :=
    (∃ v, ∀ fs' ρ' (w' : World) K', Agree (readsOf ops o) ρ ρ' → (stepD P ops pre i o fs' ρ' w' K' ↔ K' fs' (putD ρ' o.dst v) w')) ∨
    (clsOf P o = .read ∧ ∃ a cs v, Holds w a cs ∧ ∀ fs' ρ' (w' : World) K', Agree (readsOf ops o) ρ ρ' → Holds w' a cs →
      (stepD P ops pre i o fs' ρ' w' K' ↔ K' (⟨i, a, cs⟩ :: fs') (putD ρ' o.dst v) w')) ∨
    (clsOf P o = .act ∧ ∀ fs' ρ' (w' : World) K', Agree (readsOf ops o) ρ ρ' →
      (stepD P ops pre i o fs' ρ' w' K' ↔ opV P o ρ w' (fun v w'' => keepV w'' (owes pre i fs') (K' fs' (putD ρ' o.dst v) w''))))
theorem stepD_cases {i : Nat} {o : Oper} {fs : List Fact} {ρ : Env} {w : World} {K : List Fact → Env → World → Prop} (h : stepD P ops pre i o fs ρ w K) : Tri P ops pre i o ρ w := by
  -- what is done, where it is done
  have done : (∀ fs' ρ' (w' : World) K', Agree (readsOf ops o) ρ ρ' → (stepD P ops pre i o fs' ρ' w' K' ↔ opD P pre i o fs' ρ' w' fun fs'' v w'' => K' fs'' (putD ρ' o.dst v) w'')) →
      opD P pre i o fs ρ w (fun fs'' v w'' => K fs'' (putD ρ o.dst v) w'') → Tri P ops pre i o ρ w := by
    intro hs hd
    cases hc : clsOf P o with
    | pure =>
      simp only [opD, hc] at hd
      obtain ⟨v, hv⟩ := pure_iff hc hd
      refine .inl ⟨v, fun fs' ρ' w' K' ha => (hs fs' ρ' w' K' ha).trans ?_⟩
      simp only [opD, hc]
      rw [← opV_congr (agree_op ha)]
      exact hv w' _
    | read =>
      refine .inr (.inl ⟨hc, ?_⟩)
      simp only [opD, hc] at hd
      split at hd
      · rename_i t x hop
        split at hd
        · rename_i a hx
          obtain ⟨v, hv, iv⟩ := ldV_iff hd
          refine ⟨a, fcOf P t v, v, hv, fun fs' ρ' w' K' ha hh => (hs fs' ρ' w' K' ha).trans ?_⟩
          have hx' : ev ρ' x = .pointer (some a) := by
            rw [← hx]; exact (agree_op ha x (by simp [hop, Op.operands])).symm
          simp only [opD, hc, hop, hx']
          exact iv w' _ hh
        · exact hd.elim
      · exact hd.elim
    | act =>
      refine .inr (.inr ⟨hc, fun fs' ρ' w' K' ha => (hs fs' ρ' w' K' ha).trans ?_⟩)
      simp only [opD, hc]
      rw [opV_congr (agree_op ha)]
  have skip : (∀ fs' ρ' (w' : World) K', Agree (readsOf ops o) ρ ρ' → (stepD P ops pre i o fs' ρ' w' K' ↔ K' fs' (putD ρ' o.dst undef) w')) → Tri P ops pre i o ρ w :=
    fun hs => Or.inl ⟨undef, hs⟩
  unfold stepD at h done skip
  cases hg : o.guard with
  | none => rw [hg] at h; simp only [hg] at done; exact done (fun _ _ _ _ _ => by first | exact Iff.rfl | trivial) h
  | some g =>
    obtain ⟨j, want⟩ := g
    rw [hg] at h
    simp only [hg] at h done skip
    cases hd : dstOf ops j with
    | none => simp only [hd] at h done skip; exact skip (fun _ _ _ _ _ => by first | exact Iff.rfl | trivial)
    | some d =>
      simp only [hd] at h done skip
      have hag : ∀ {ρ'}, Agree (readsOf ops o) ρ ρ' → sl ρ' d = sl ρ d := fun ha => (agree_guard ha hg hd).symm
      split at h
      · exact h.elim
      · rename_i b hb
        have hs : ∀ {ρ'}, Agree (readsOf ops o) ρ ρ' → st ρ' d (.bool b) = ρ' := fun ha => st_self _ _ _ (by rw [hag ha, hb])
        have hs0 : st ρ d (.bool b) = ρ := st_self _ _ _ hb
        cases b with
        | true =>
          cases want with
          | true =>
            refine done (fun fs' ρ' w' K' ha => ?_) (by simpa [hs0] using h)
            simp only [hag ha, hb, cond_true, hs ha]
          | false =>
            refine skip (fun fs' ρ' w' K' ha => ?_)
            simp only [hag ha, hb, cond_true, cond_false, hs ha]
        | false =>
          cases want with
          | true =>
            refine skip (fun fs' ρ' w' K' ha => ?_)
            simp only [hag ha, hb, cond_true, cond_false, hs ha]
          | false =>
            refine done (fun fs' ρ' w' K' ha => ?_) (by simpa [hs0] using h)
            simp only [hag ha, hb, cond_false, hs ha]
      · rename_i x hx hb
        refine skip (fun fs' ρ' w' K' ha => ?_)
        rw [hag ha, hb]
        split
        · rename_i hj; cases hj
        · rename_i b hb'; cases hb'; exact absurd rfl (hx b)
        · exact Iff.rfl
theorem stepD_mono {i : Nat} {o : Oper} {fs : List Fact} {ρ : Env} {w : World} {K K' : List Fact → Env → World → Prop} (hk : ∀ fs ρ w, K fs ρ w → K' fs ρ w)
    (h : stepD P ops pre i o fs ρ w K) : stepD P ops pre i o fs ρ w K' := by
  rcases stepD_cases h with ⟨v, hv⟩ | ⟨_, a, cs, v, hh, hv⟩ | ⟨_, hv⟩
  · exact (hv _ _ _ _ (fun _ _ => rfl)).2 (hk _ _ _ ((hv _ _ _ _ (fun _ _ => rfl)).1 h))
  · exact (hv _ _ _ _ (fun _ _ => rfl) hh).2 (hk _ _ _ ((hv _ _ _ _ (fun _ _ => rfl) hh).1 h))
  · refine (hv _ _ _ _ (fun _ _ => rfl)).2 (opV_mono (fun v w' hk' => ?_) ((hv _ _ _ _ (fun _ _ => rfl)).1 h))
    rw [keepV_iff] at hk' ⊢
    exact ⟨hk'.1, hk _ _ _ hk'.2⟩
theorem owes_mem {i : Nat} {fs : List Fact} {f : Fact} : f ∈ owes pre i fs ↔ f ∈ fs ∧ (preOf pre i).contains f.at_ = false := by
  simp [owes]
/-- Fewer facts owe less. -/
theorem regD_sub : ∀ {arr : List Nat} {fs fs' : List Fact} {ρ : Env} {w : World} {K : Env → World → Prop}, (∀ f ∈ fs', f ∈ fs) → regD P ops pre arr fs ρ w K → regD P ops pre arr fs' ρ w K
  | [], fs, fs', ρ, w, K, hs, h => h
  | i :: rest, fs, fs', ρ, w, K, hs, h => by
    simp only [regD] at h ⊢
    cases ho : opOf ops i with
    | none => rw [ho] at h; exact h
    | some o =>
      rw [ho] at h
      simp only at h ⊢
      rcases stepD_cases h with ⟨v, hv⟩ | ⟨_, a, cs, v, hh, hv⟩ | ⟨_, hv⟩
      · exact (hv _ _ _ _ (fun _ _ => rfl)).2 (regD_sub hs ((hv _ _ _ _ (fun _ _ => rfl)).1 h))
      · refine (hv _ _ _ _ (fun _ _ => rfl) hh).2 (regD_sub (fun f hf => ?_) ((hv _ _ _ _ (fun _ _ => rfl) hh).1 h))
        rcases List.mem_cons.1 hf with rfl | hf
        · exact List.mem_cons_self ..
        · exact List.mem_cons_of_mem _ (hs _ hf)
      · refine (hv _ _ _ _ (fun _ _ => rfl)).2 (opV_mono (fun v w' hk => ?_) ((hv _ _ _ _ (fun _ _ => rfl)).1 h))
        rw [keepV_iff] at hk ⊢
        refine ⟨fun f hf => hk.1 f ?_, regD_sub hs hk.2⟩
        rw [owes_mem] at hf ⊢
        exact ⟨hs _ hf.1, hf.2⟩
theorem agree_put {ρ : Env} {d : Option Tmp} {v : Value} {l : List Nat} (h : (match d with | some a => !l.contains a | none => true) = true) : Agree l ρ (putD ρ d v) := by
  intro t ht
  cases d with
  | none => rfl
  | some a =>
    simp only [putD]
    rw [sl_st_other]
    rintro rfl
    simp at h
    exact h ht
theorem putD_comm {ρ : Env} {d e : Option Tmp} {u v : Value} (h : (match d, e with | some a, some b => !Nat.beq a b | _, _ => true) = true) : putD (putD ρ d u) e v = putD (putD ρ e v) d u := by
  cases d with
  | none => rfl
  | some a =>
    cases e with
    | none => rfl
    | some b =>
      simp only [putD]
      refine st_comm _ _ _ _ _ ?_
      rintro rfl
      simp at h
theorem agree_symm {l : List Nat} {ρ ρ' : Env} (h : Agree l ρ ρ') : Agree l ρ' ρ := fun t ht => (h t ht).symm
theorem agree_trans {l : List Nat} {ρ ρ' ρ'' : Env} (h : Agree l ρ ρ') (h' : Agree l ρ' ρ'') : Agree l ρ ρ'' := fun t ht => (h t ht).trans (h' t ht)
/-- Two that may change places do. -/
theorem swap2 {x y : Nat} {ox oy : Oper} {fs : List Fact} {ρ : Env} {w : World} {K : List Fact → Env → World → Prop} (hs : swapOk P ops ox oy = true) (hp : (preOf pre y).contains x = false)
    (hK : ∀ fs fs' ρ w, (∀ f ∈ fs', f ∈ fs) → K fs ρ w → K fs' ρ w)
    (h : stepD P ops pre x ox fs ρ w fun fs ρ w => stepD P ops pre y oy fs ρ w K) : stepD P ops pre y oy fs ρ w fun fs ρ w => stepD P ops pre x ox fs ρ w K := by
  simp only [swapOk, Bool.and_eq_true] at hs
  obtain ⟨⟨⟨hc, hd⟩, hxy⟩, hyx⟩ := hs
  have rx : ∀ {ρ : Env} {v : Value}, Agree (readsOf ops oy) ρ (putD ρ ox.dst v) := agree_put hxy
  have ry : ∀ {ρ : Env} {v : Value}, Agree (readsOf ops ox) ρ (putD ρ oy.dst v) := agree_put hyx
  have rf : ∀ {l : List Nat} {ρ : Env}, Agree l ρ ρ := fun _ _ => rfl
  have cm : ∀ {ρ : Env} {u v : Value}, putD (putD ρ ox.dst u) oy.dst v = putD (putD ρ oy.dst v) ox.dst u := putD_comm hd
  rcases stepD_cases h with ⟨u, hu⟩ | ⟨cx, a, cs, u, hh, hu⟩ | ⟨cx, hu⟩
  · -- x is light
    have h1 := (hu _ _ _ _ rf).1 h
    rcases stepD_cases h1 with ⟨v, hv⟩ | ⟨cy, a', cs', v, hh', hv⟩ | ⟨cy, hv⟩
    · refine (hv _ _ _ _ (agree_symm rx)).2 ((hu _ _ _ _ ry).2 ?_)
      rw [← cm]; exact (hv _ _ _ _ rf).1 h1
    · refine (hv _ _ _ _ (agree_symm rx) hh').2 ((hu _ _ _ _ ry).2 ?_)
      rw [← cm]; exact (hv _ _ _ _ rf hh').1 h1
    · refine (hv _ _ _ _ (agree_symm rx)).2 ?_
      have h2 := (hv _ _ _ _ rf).1 h1
      refine opV_mono (fun v w' hk => ?_) h2
      rw [keepV_iff] at hk ⊢
      refine ⟨hk.1, (hu _ _ _ _ ry).2 ?_⟩
      rw [← cm]; exact hk.2
  · -- x reads
    have h1 := (hu _ _ _ _ rf hh).1 h
    rcases stepD_cases h1 with ⟨v, hv⟩ | ⟨cy, a', cs', v, hh', hv⟩ | ⟨cy, hv⟩
    · refine (hv _ _ _ _ (agree_symm rx)).2 ((hu _ _ _ _ ry hh).2 ?_)
      rw [← cm]; exact (hv _ _ _ _ rf).1 h1
    · refine (hv _ _ _ _ (agree_symm rx) hh').2 ((hu _ _ _ _ ry hh).2 ?_)
      rw [← cm]
      refine hK _ _ _ _ (fun f hf => ?_) ((hv _ _ _ _ rf hh').1 h1)
      simp only [List.mem_cons] at hf ⊢
      rcases hf with rfl | rfl | hf
      · exact .inr (.inl rfl)
      · exact .inl rfl
      · exact .inr (.inr hf)
    · refine (hv _ _ _ _ (agree_symm rx)).2 ?_
      have h2 := (hv _ _ _ _ rf).1 h1
      refine opV_mono (fun v w' hk => ?_) h2
      rw [keepV_iff] at hk ⊢
      have hmem : (⟨x, a, cs⟩ : Fact) ∈ owes pre y (⟨x, a, cs⟩ :: fs) := owes_mem.2 ⟨List.mem_cons_self .., hp⟩
      refine ⟨fun f hf => hk.1 f (owes_mem.2 ⟨List.mem_cons_of_mem _ (owes_mem.1 hf).1, (owes_mem.1 hf).2⟩), (hu _ _ _ _ ry (hk.1 _ hmem)).2 ?_⟩
      rw [← cm]; exact hk.2
  · -- x acts: y is light
    have h1 := (hu _ _ _ _ rf).1 h
    obtain ⟨u0, w0, hk0⟩ := opV_some h1
    rw [keepV_iff] at hk0
    have hy0 := hk0.2
    rw [cx] at hc
    rcases stepD_cases hy0 with ⟨v, hv⟩ | ⟨cy, a', cs', v, hh', hv⟩ | ⟨cy, hv⟩
    · refine (hv _ _ _ _ (agree_symm rx)).2 ?_
      refine (hu _ _ _ _ ry).2 ?_
      refine opV_mono (fun u1 w1 hk => ?_) h1
      rw [keepV_iff] at hk ⊢
      refine ⟨hk.1, ?_⟩
      rw [← cm]
      exact (hv _ _ _ _ (agree_trans (agree_symm rx) rx)).1 hk.2
    · rw [cy] at hc; simp at hc
    · rw [cy] at hc; simp at hc
theorem regD_swap {x y : Nat} {ox oy : Oper} {rest : List Nat} {fs : List Fact} {ρ : Env} {w : World} {K : Env → World → Prop} (hx : opOf ops x = some ox) (hy : opOf ops y = some oy)
    (hs : swapOk P ops ox oy = true) (hp : (preOf pre y).contains x = false) (h : regD P ops pre (x :: y :: rest) fs ρ w K) : regD P ops pre (y :: x :: rest) fs ρ w K := by
  simp only [regD, hx, hy] at h ⊢
  exact swap2 hs hp (fun fs fs' ρ w hf hk => regD_sub hf hk) h
theorem regD_front {y : Nat} {oy : Oper} {rest : List Nat} {K : Env → World → Prop} (hy : opOf ops y = some oy) : ∀ {l : List Nat} {fs : List Fact} {ρ : Env} {w : World},
    (∀ x ∈ l, ∃ ox, opOf ops x = some ox ∧ swapOk P ops ox oy = true ∧ (preOf pre y).contains x = false) → regD P ops pre (l ++ y :: rest) fs ρ w K → regD P ops pre (y :: (l ++ rest)) fs ρ w K
  | [], fs, ρ, w, _, h => h
  | x :: l, fs, ρ, w, hl, h => by
    obtain ⟨ox, hx, hs, hp⟩ := hl x (List.mem_cons_self ..)
    have h' : regD P ops pre (x :: y :: (l ++ rest)) fs ρ w K := by
      simp only [List.cons_append, regD, hx] at h ⊢
      refine stepD_mono (fun fs ρ w hk => ?_) h
      have := regD_front hy (fun z hz => hl z (List.mem_cons_of_mem _ hz)) hk
      simpa only [regD] using this
    exact regD_swap hx hy hs hp h'
end
end Go.Eng
