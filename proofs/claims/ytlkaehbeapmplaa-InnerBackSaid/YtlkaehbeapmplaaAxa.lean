/- Abstract values and what is to be shown of code over them: definitions, and that they are sound for each operation. No statement of the program is proved in this text. -/
import Derived.Orders
import Derived.Scope
import GoSem.Core.Check
import GoSem.ClaimData
import Derived.Laws.Cells
import Derived.Laws.CopyRow
import Derived.Laws.Entries
import Derived.Below
import Derived.Laws.BitsLemmas
import Derived.Laws.Bits64
import Derived.Laws.BitsAllLaws
import Derived.Laws.StructEq
import Derived.ChangeKeysEq
import Derived.Maps.AppendAt
import Derived.Laws.OwnMore
import Derived.Laws.MakeOwn
set_option linter.unusedSimpArgs false
set_option linter.unusedVariables false

/- Abstract values, states, and the evaluator of code over them: definitions alone. -/
namespace Go.Ax
open Go

inductive Step where
  | fld (i : Nat)
  | idx (i : Nat)

/-- An abstract value. Ids name tracked objects; `rs`, `rp` are read-only memory, told by its content. -/
inductive AV where
  | un
  | bool (b : Bool)
  | int (k : IntKind) (n : Int)
  | str (s : ByteArray)
  | nilp
  | ptr (id : Nat) (p : List Step)
  | nils
  | ow (id : Nat) (e : TypeId)
  | sl (id : Nat) (p : List Step) (off len : Nat)
  | rs (v : AV)
  | rp (v : AV)
  | nilm
  | mp (id : Nat)
  | nilf
  | fn (f : Fn) (first cap : List AV)
  | nili
  | ifc (t : TypeId) (v : AV)
  | glob (g : Nat)
  | st (fs : List AV)
  | arr (k : IntKind) (n : Nat) (xs : List Int)
  | seq (sz n : Nat) (f : Nat → AV)
  | tup (vs : List AV)

abbrev Env := List (Nat × AV)
abbrev Heap := List (Nat × Option AV)

def lkE : Env → Nat → AV
  | [], _ => .un
  | (i, a) :: l, k => cond (Nat.beq i k) a (lkE l k)

def lkH : Heap → Nat → Option AV
  | [], _ => none
  | (i, a) :: l, k => cond (Nat.beq i k) a (lkH l k)

/-- Is there a row for it, be it a killed one? -/
def known : Heap → Nat → Bool
  | [], _ => false
  | (i, _) :: l, k => cond (Nat.beq i k) true (known l k)

structure St where
  env : Env
  heap : Heap
  nxt : Nat
  kn : List (Nat × Bool)

/-- What an operation does to the tracked objects: what it turns, what it has read, how many are new. -/
structure Eff where
  upd : Heap
  rd : List Nat
  al : Nat

def Eff.no : Eff := ⟨[], [], 0⟩
def Eff.reads (l : List Nat) : Eff := ⟨[], l, 0⟩

structure TI where
  desc : TypeDesc
  size : Nat
  bytes : Nat
  zero : AV
  eqok : Bool

abbrev Tab := List (Nat × TI)

def tyOf : Tab → Nat → Option TI
  | [], _ => none
  | (i, a) :: l, k => cond (Nat.beq i k) (some a) (tyOf l k)

mutual
def sizeA : AV → Nat
  | .st fs => sizesA fs
  | .arr _ n _ => n
  | .seq sz n _ => n * sz
  | _ => 1
def sizesA : List AV → Nat
  | [] => 0
  | a :: l => sizeA a + sizesA l
end

/-- How many a row has, and its elements' cells. -/
def rowOf (v : AV) : Option (Nat × Nat) :=
  match v with
  | .arr _ n _ => some (n, 1)
  | .seq sz n _ => some (n, sz)
  | _ => none

/-- The size of the first fields. -/
def sizesTo : List AV → Nat → Nat
  | [], _ => 0
  | _, 0 => 0
  | a :: l, n + 1 => sizeA a + sizesTo l n

def isAggA : AV → Bool
  | .st _ | .arr .. | .seq .. => true
  | _ => false

def okZ : AV → Bool
  | .un => false
  | _ => true

def okV : AV → Bool
  | .un | .tup _ => false
  | _ => true

def isAggD : TypeDesc → Bool
  | .struct _ | .array .. => true
  | _ => false

def leB (a b : Int) : Bool :=
  match b - a with
  | .ofNat _ => true
  | .negSucc _ => false

def rngB : IntKind → Int → Bool
  | .i8, n => leB (-128) n && leB n 127
  | .i16, n => leB (-32768) n && leB n 32767
  | .i32, n => leB (-2147483648) n && leB n 2147483647
  | .i64, n => leB (-9223372036854775808) n && leB n 9223372036854775807
  | .u8, n => leB 0 n && leB n 255
  | .u16, n => leB 0 n && leB n 65535
  | .u32, n => leB 0 n && leB n 4294967295
  | .u64, n => leB 0 n && leB n 18446744073709551615

def ofV : Value → AV
  | .bool b => .bool b
  | .int k n => cond (rngB k n) (.int k n) .un
  | .string s => cond (Nat.ble s.size 9223372036854775807) (.str s) .un
  | .pointer none => .nilp
  | .slice none 0 0 => .nils
  | .map none => .nilm
  | .nilFunc => .nilf
  | .nilIface => .nili
  | _ => .un

def evalA (st : St) : Operand → AV
  | .tmp t => lkE st.env t
  | .const v => ofV v
  | .global g => .glob g
  | .func f => .fn (.func f) [] []

def knl : List (Nat × Bool) → Nat → Option Bool
  | [], _ => none
  | (i, b) :: l, k => cond (Nat.beq i k) (some b) (knl l k)

def knDrop : List (Nat × Bool) → Nat → List (Nat × Bool)
  | [], _ => []
  | (i, b) :: l, k => cond (Nat.beq i k) (knDrop l k) ((i, b) :: knDrop l k)

def St.eff (st : St) (e : Eff) : St := ⟨st.env, e.upd ++ st.heap, st.nxt + e.al, st.kn⟩

def St.set (st : St) (dst : Option Tmp) (v : AV) : St :=
  match dst with
  | some d => ⟨(d, v) :: st.env, st.heap, st.nxt, knDrop st.kn d⟩
  | none => st

abbrev KV := AV → Eff → Prop

/-- What is held against the tables: closed. -/
def Chk (b : Bool) (K : Prop) : Prop := b = true ∧ K
/-- A bound that is owed. -/
def Bnd (p K : Prop) : Prop := p ∧ K
/-- Shapes that must fit. -/
def Str (p K : Prop) : Prop := p ∧ K
/-- What is known. -/
def Kn (p K : Prop) : Prop := p → K
/-- An order that is drawn is of no matter. -/
def Drw (b : Bool) (K : Prop) : Prop := b = true ∧ K

/-- A Bool that is asked: both ways. -/
def askB (b : Bool) (yes no : Prop) : Prop := (b = true → yes) ∧ (b = false → no)

def kix : IntKind → Nat
  | .i8 => 0 | .i16 => 1 | .i32 => 2 | .i64 => 3 | .u8 => 4 | .u16 => 5 | .u32 => 6 | .u64 => 7
def kEq (a b : IntKind) : Bool := Nat.beq (kix a) (kix b)

def rng : IntKind → Int → Prop
  | .i8, n => -128 ≤ n ∧ n ≤ 127
  | .i16, n => -32768 ≤ n ∧ n ≤ 32767
  | .i32, n => -2147483648 ≤ n ∧ n ≤ 2147483647
  | .i64, n => -9223372036854775808 ≤ n ∧ n ≤ 9223372036854775807
  | .u8, n => 0 ≤ n ∧ n ≤ 255
  | .u16, n => 0 ≤ n ∧ n ≤ 65535
  | .u32, n => 0 ≤ n ∧ n ≤ 4294967295
  | .u64, n => 0 ≤ n ∧ n ≤ 18446744073709551615

/-- A count gets a name. -/
def nmN (e : Nat) (K : Nat → Prop) : Prop := ∀ z, z = e → K z

/-- A number gets a name. -/
def nm (k : IntKind) (e : Int) (K : Int → Prop) : Prop := ∀ z, z = e → rng k z → K z

def cmpI : BinOp → Int → Int → Bool
  | .eql, x, y => decide (x = y)
  | .neq, x, y => !decide (x = y)
  | .lss, x, y => decide (x < y)
  | .leq, x, y => decide (x ≤ y)
  | .gtr, x, y => decide (y < x)
  | .geq, x, y => decide (y ≤ x)
  | _, _, _ => false

def isCmp : BinOp → Bool
  | .eql | .neq | .lss | .leq | .gtr | .geq => true
  | _ => false

def bitsI (op : BinOp) (k : IntKind) (x y : Int) : Int :=
  let a := BitVec.ofInt k.bits x
  let b := BitVec.ofInt k.bits y
  k.wrap ((match op with | .and => (a &&& b).toNat | .or => (a ||| b).toNat | .xor => (a ^^^ b).toNat | _ => (a &&& ~~~b).toNat : Nat) : Int)

def binI (op : BinOp) (k : IntKind) (x y : Int) (K : Int → Prop) : Prop :=
  match op with
  | .add => K (k.wrap (x + y))
  | .sub => K (k.wrap (x - y))
  | .mul => K (k.wrap (x * y))
  | .quo => Bnd (y ≠ 0) <| K (k.wrap (x.tdiv y))
  | .rem => Bnd (y ≠ 0) <| K (x.tmod y)
  | .and => K (bitsI .and k x y)
  | .or => K (bitsI .or k x y)
  | .xor => K (bitsI .xor k x y)
  | .andNot => K (bitsI .andNot k x y)
  | _ => False

/-- Does a tree fit a type that is loaded or stored? -/
def fitsT (tt : Tab) (t : TypeId) (v : AV) : Bool :=
  match tyOf tt t with
  | some ti => Nat.beq (sizeA v) ti.size && (isAggD ti.desc == isAggA v)
  | none => false

/-- Equality by type: none: not told. -/
def eqT (tt : Tab) : Nat → TypeId → AV → AV → Option Bool
  | 0, _, _, _ => none
  | n + 1, t, x, y =>
    match x with
    | .bool a => match y with
      | .bool b => match tyOf tt t with
        | some ⟨.bool, _, _, _, _⟩ => some (a == b)
        | _ => none
      | _ => none
    | .int k a => match y with
      | .int k' b => match tyOf tt t with
        | some ⟨.int _, _, _, _, _⟩ => cond (kEq k k') (some (decide (a = b))) none
        | _ => none
      | _ => none
    | .str a => match y with
      | .str b => match tyOf tt t with
        | some ⟨.string, _, _, _, _⟩ => some (decide (a = b))
        | _ => none
      | _ => none
    | .nilp => match y with
      | .nilp => match tyOf tt t with
        | some ⟨.pointer _, _, _, _, _⟩ => some true
        | _ => none
      | .ptr _ _ => match tyOf tt t with
        | some ⟨.pointer _, _, _, _, _⟩ => some false
        | _ => none
      | .rp _ => match tyOf tt t with
        | some ⟨.pointer _, _, _, _, _⟩ => some false
        | _ => none
      | _ => none
    | .ptr _ _ => match y with
      | .nilp => match tyOf tt t with
        | some ⟨.pointer _, _, _, _, _⟩ => some false
        | _ => none
      | _ => none
    | .rp _ => match y with
      | .nilp => match tyOf tt t with
        | some ⟨.pointer _, _, _, _, _⟩ => some false
        | _ => none
      | _ => none
    | .arr k n xs => match y with
      | .arr k' n' ys => match tyOf tt t with
        | some ⟨.array len e, _, _, _, _⟩ => match tyOf tt e with
          | some ⟨.int _, sz, _, _, _⟩ => cond (kEq k k' && Nat.beq n len && Nat.beq n' len && Nat.beq sz 1) (some (decide (xs = ys))) none
          | _ => none
        | _ => none
      | _ => none
    | .st xs => match y with
      | .st ys => match tyOf tt t with
        | some ⟨.struct fs, _, _, _, true⟩ => eqF n fs.toList xs ys 0
        | _ => none
      | _ => none
    | _ => none
where
  eqF (n : Nat) : List Field → List AV → List AV → Nat → Option Bool
    | [], [], [], _ => some true
    | f :: fs, x :: xs, y :: ys, off =>
      cond (Nat.beq f.offset off && fitsT tt f.type x && fitsT tt f.type y) (match eqT tt n f.type x y with
        | some b => match eqF n fs xs ys (off + sizeA x) with
          | some c => some (b && c)
          | none => none
        | none => none) none
    | _, _, _, _ => none

/-- Of aggregates: the type may be held against. -/
def eqGd (tt : Tab) (t : TypeId) (x : AV) : Bool :=
  match isAggA x with
  | false => true
  | true => match tyOf tt t with
    | some ⟨_, _, _, _, e⟩ => e
    | none => false

def binA (tt : Tab) (op : BinOp) (t : TypeId) (x y : AV) (K : AV → Prop) : Prop :=
  match x with
  | .int k a => match y with
    | .int k' b => match op with
      | .shl => Bnd (0 ≤ b) <| nm k (k.wrap (a * 2 ^ (min b.toNat k.bits))) fun z => K (.int k z)
      | .shr => Bnd (0 ≤ b) <| nm k (a.fdiv (2 ^ (min b.toNat k.bits))) fun z => K (.int k z)
      | _ => match kEq k k' with
        | true => (match isCmp op with | true => K (.bool (cmpI op a b)) | false => binI op k a b fun e => nm k e fun z => K (.int k z))
        | false => False
    | _ => False
  | .str a => match y with
    | .str b => match op with
      | .eql => K (.bool (decide (a = b)))
      | .neq => K (.bool (!decide (a = b)))
      | .add => Bnd (a.size + b.size ≤ 9223372036854775807) <| K (.str (a ++ b))
      | .lss => K (.bool (Op.bytesLess a.toList b.toList))
      | .leq => K (.bool (Op.bytesLess a.toList b.toList || decide (a = b)))
      | .gtr => K (.bool (!(Op.bytesLess a.toList b.toList || decide (a = b))))
      | .geq => K (.bool (!Op.bytesLess a.toList b.toList))
      | _ => False
    | _ => False
  | x => match op with
    | .eql => match eqT tt 20 t x y with
      | some b => Chk (eqGd tt t x) <| K (.bool b)
      | none => False
    | .neq => match eqT tt 20 t x y with
      | some b => Chk (eqGd tt t x) <| K (.bool (!b))
      | none => False
    | _ => False

def proj : AV → List Step → AV
  | v, [] => v
  | .st fs, .fld i :: p => proj (fs.getD i .un) p
  | .arr k _ xs, [.idx i] => .int k (xs.getD i 0)
  | .seq _ _ f, .idx i :: p => proj (f i) p
  | _, _ => .un

def upd : AV → List Step → AV → AV
  | _, [], v => v
  | .st fs, .fld i :: p, v => .st (fs.set i (upd (fs.getD i .un) p v))
  | .arr k n xs, [.idx i], .int _ z => .arr k n (xs.set i z)
  | .seq sz n f, .idx i :: p, v => .seq sz n (fun j => cond (Nat.beq j i) (upd (f i) p v) (f j))
  | t, _, _ => t

/-- May the one stand where the other stood? -/
def shEq : AV → AV → Prop
  | .st fs, .st gs => shEqs fs gs
  | .arr k n _, .arr k' n' _ => kEq k k' = true ∧ n = n'
  | .int k _, .int k' _ => kEq k k' = true
  | .st _, _ | _, .st _ | .arr .., _ | _, .arr .. | .seq .., _ | _, .seq .. | .tup _, _ | _, .tup _ | .un, _ | _, .un | .int .., _ | _, .int .. => False
  | _, _ => True
where
  shEqs : List AV → List AV → Prop
    | [], [] => True
    | a :: l, b :: m => shEq a b ∧ shEqs l m
    | _, _ => False

/-- With what is known of a number that is read. -/
def withR (v : AV) (K : AV → Prop) : Prop :=
  match v with
  | .un => False
  | .int k z => nm k z fun z => K (.int k z)
  | v => K v

def bA (s : ByteArray) (i : Nat) : Int := ((s.data.toList.getD i 0).toNat : Int)
def bsA (s : ByteArray) : List Int := s.data.toList.map fun b => (b.toNat : Int)
def ofBs (xs : List Int) : ByteArray := ⟨(xs.map fun n => UInt8.ofNat n.toNat).toArray⟩

/-- A slice's numbers: how many, which; and what is read for them. -/
def rowI (st : St) (x : AV) (K : IntKind → Nat → List Int → List Nat → Prop) : Prop :=
  match x with
  | .rs (.arr k n xs) => K k n xs []
  | .ow id _ => match lkH st.heap id with
    | some (.arr k n xs) => K k n xs [id]
    | _ => False
  | .sl id p off len => match lkH st.heap id with
    | some v => match proj v p with
      | .arr k _ xs => K k len ((xs.drop off).take len) [id]
      | _ => False
    | none => False
  | _ => False

/-- A slice's elements that are no numbers. -/
def rowS (st : St) (x : AV) (K : Nat → Nat → (Nat → AV) → List Nat → Prop) : Prop :=
  match x with
  | .rs (.seq sz n f) => K sz n f []
  | .ow id _ => match lkH st.heap id with
    | some (.seq sz n f) => K sz n f [id]
    | _ => False
  | .sl id p off len => match lkH st.heap id with
    | some v => match proj v p with
      | .seq sz _ f => K sz len (fun j => f (off + j)) [id]
      | _ => False
    | none => False
  | _ => False

def bnd (st : St) (o : Option Operand) (dflt : Nat) (K : Nat → Prop) : Prop :=
  match o with
  | none => K dflt
  | some x => match evalA st x with
    | .int _ i => Bnd (0 ≤ i) <| nmN i.toNat K
    | _ => False

def elemId (tt : Tab) (t : TypeId) : Option TypeId :=
  match tyOf tt t with
  | some ⟨.slice e, _, _, _, _⟩ => some e
  | _ => none

def elemT (tt : Tab) (t : TypeId) : Option TI :=
  match elemId tt t with
  | some e => tyOf tt e
  | none => none

def fitE (tt : Tab) (t : TypeId) (sz : Nat) : Bool :=
  match elemT tt t with
  | some te => Nat.beq te.size sz && !(Nat.beq sz 0)
  | none => false

def fitA (tt : Tab) (t : TypeId) (n sz : Nat) : Bool :=
  match tyOf tt t with
  | some ⟨.array len e, _, _, _, _⟩ => match tyOf tt e with
    | some te => Nat.beq te.size sz && !(Nat.beq sz 0) && Nat.beq n len && Nat.ble n 9223372036854775807
    | none => false
  | _ => false

def isStr (tt : Tab) (t : TypeId) : Bool :=
  match tyOf tt t with
  | some ⟨.string, _, _, _, _⟩ => true
  | _ => false

def lenA (tt : Tab) (t : TypeId) (st : St) (x : AV) (K : Nat → List Nat → Prop) : Prop :=
  match x with
  | .str s => Chk (isStr tt t) <| K s.size []
  | .nils => Chk (elemId tt t).isSome <| K 0 []
  | .rs v => match rowOf v with
    | some (n, _) => Chk (elemId tt t).isSome <| K n []
    | none => False
  | .ow id _ => match lkH st.heap id with
    | some v => match rowOf v with
      | some (n, _) => Chk (elemId tt t).isSome <| K n [id]
      | none => False
    | none => False
  | .sl _ _ _ len => Chk (elemId tt t).isSome <| K len []
  | _ => False

def sliceA (tt : Tab) (st : St) (t : TypeId) (x : AV) (lo hi : Option Operand) (K : KV) : Prop :=
  match x with
  | .str s => Chk (isStr tt t) <| bnd st lo 0 fun l => bnd st hi s.size fun h => Bnd (l ≤ h ∧ h ≤ s.size) <| K (.str (s.extract l h)) .no
  | .rs (.arr k n xs) => Chk (fitE tt t 1) <| bnd st lo 0 fun l => bnd st hi n fun h => Bnd (l ≤ h ∧ h ≤ n) <| K (.rs (.arr k (h - l) ((xs.drop l).take (h - l)))) .no
  | .rs (.seq sz n f) => Chk (fitE tt t sz) <| bnd st lo 0 fun l => bnd st hi n fun h => Bnd (l ≤ h ∧ h ≤ n) <| K (.rs (.seq sz (h - l) (fun j => f (l + j)))) .no
  | .ow id _ => match lkH st.heap id with
    | some v => match rowOf v with
      | some (n, sz) => Chk (fitE tt t sz) <| bnd st lo 0 fun l => bnd st hi n fun h => Bnd (l ≤ h ∧ h ≤ n) <| K (.sl id [] l (h - l)) (.reads [id])
      | none => False
    | none => False
  | .sl id p off len => match lkH st.heap id with
    | some v => match rowOf (proj v p) with
      | some (_, sz) => Chk (fitE tt t sz) <| bnd st lo 0 fun l => bnd st hi len fun h => Bnd (l ≤ h ∧ h ≤ len) <| K (.sl id p (off + l) (h - l)) (.reads [id])
      | none => False
    | none => False
  | .nils => Chk (elemT tt t).isSome <| bnd st lo 0 fun l => bnd st hi 0 fun h => Bnd (l ≤ h ∧ h ≤ 0) <| K .nils .no
  | .ptr id p => match lkH st.heap id with
    | some v => match rowOf (proj v p) with
      | some (n, sz) => Chk (fitA tt t n sz) <| bnd st lo 0 fun l => bnd st hi n fun h => Bnd (l ≤ h ∧ h ≤ n) <| K (.sl id p l (h - l)) (.reads [id])
      | none => False
    | none => False
  | _ => False

def fieldOf (tt : Tab) (t : TypeId) (f : Nat) (fs : List AV) : Bool :=
  match tyOf tt t with
  | some ⟨.struct fds, _, _, _, _⟩ => match fds.toList[f]? with
    | some fd => Nat.beq fd.offset (sizesTo fs f) && Nat.blt f fs.length && (match tyOf tt fd.type with
      | some ti => Nat.beq (sizeA (fs.getD f .un)) ti.size && !(Nat.beq ti.size 0) && (isAggD ti.desc == isAggA (fs.getD f .un))
      | none => false)
    | none => false
  | _ => false

/-- One element's place among those of an array or a slice. -/
def indexAddrA (tt : Tab) (st : St) (t : TypeId) (x : AV) (i : Int) (K : KV) : Prop :=
  match x with
  | .rs (.arr k n xs) => Chk (fitE tt t 1) <| Bnd (0 ≤ i ∧ i < (n : Int)) <| nmN i.toNat fun j => K (.rp (.int k (xs.getD j 0))) .no
  | .rs (.seq sz n f) => Chk (fitE tt t sz) <| Bnd (0 ≤ i ∧ i < (n : Int)) <| nmN i.toNat fun j => K (.rp (f j)) .no
  | .rp (.arr k n xs) => Chk (fitA tt t n 1) <| Bnd (0 ≤ i ∧ i < (n : Int)) <| nmN i.toNat fun j => K (.rp (.int k (xs.getD j 0))) .no
  | .rp (.seq sz n f) => Chk (fitA tt t n sz) <| Bnd (0 ≤ i ∧ i < (n : Int)) <| nmN i.toNat fun j => K (.rp (f j)) .no
  | .ow id _ => match lkH st.heap id with
    | some v => match rowOf v with
      | some (n, sz) => Chk (fitE tt t sz) <| Bnd (0 ≤ i ∧ i < (n : Int)) <| nmN i.toNat fun j => K (.ptr id [.idx j]) (.reads [id])
      | none => False
    | none => False
  | .sl id p off len => match lkH st.heap id with
    | some v => match rowOf (proj v p) with
      | some (_, sz) => Chk (fitE tt t sz) <| Bnd (0 ≤ i ∧ i < (len : Int)) <| nmN i.toNat fun j => K (.ptr id (p ++ [.idx (off + j)])) (.reads [id])
      | none => False
    | none => False
  | .ptr id p => match lkH st.heap id with
    | some v => match rowOf (proj v p) with
      | some (n, sz) => Chk (fitA tt t n sz) <| Bnd (0 ≤ i ∧ i < (n : Int)) <| nmN i.toNat fun j => K (.ptr id (p ++ [.idx j])) (.reads [id])
      | none => False
    | none => False
  | _ => False

def setParts : List AV → List (Nat × AV) → Option (List AV)
  | fs, [] => some fs
  | fs, (i, v) :: l => cond (Nat.blt i fs.length) (setParts (fs.set i v) l) none

def setInts (k : IntKind) (n : Nat) : List Int → List (Nat × AV) → Option (List Int)
  | xs, [] => some xs
  | xs, (i, .int k' z) :: l => cond (kEq k k' && Nat.blt i n) (setInts k n (xs.set i z) l) none
  | _, _ => none

def partsOk : List AV → List (Nat × AV) → Prop
  | _, [] => True
  | fs, (i, v) :: l => shEq (fs.getD i .un) v ∧ partsOk fs l

def buildA (tt : Tab) (t : TypeId) (parts : List (Nat × AV)) (K : AV → Prop) : Prop :=
  match tyOf tt t with
  | some ⟨.struct fds, _, _, .st fs, _⟩ => match setParts fs parts with
    | some gs => Chk (fieldsOk tt fds.toList fs 0) <| Str (partsOk fs parts) <| K (.st gs)
    | none => False
  | some ⟨.array _ e, _, _, .arr k n xs, _⟩ => match setInts k n xs parts with
    | some ys => Chk ((match tyOf tt e with | some te => Nat.beq te.size 1 | none => false)) <| K (.arr k n ys)
    | none => False
  | _ => False
where
  fieldsOk (tt : Tab) : List Field → List AV → Nat → Bool
    | [], [], _ => true
    | f :: fs, v :: vs, off => Nat.beq f.offset off && (match tyOf tt f.type with | some ti => Nat.beq ti.size (sizeA v) | none => false) && fieldsOk tt fs vs (off + sizeA v)
    | _, _, _ => false

/-- A small number, as a numeral. -/
def litN (n : Nat) (K : Nat → Prop) : Prop :=
  cond (Nat.blt n 64) (cond (Nat.blt n 32) (cond (Nat.blt n 16) (cond (Nat.blt n 8) (cond (Nat.blt n 4) (cond (Nat.blt n 2) (cond (Nat.blt n 1) (cond (Nat.beq n 0) (K 0) (K n)) (cond (Nat.beq n 1) (K 1) (K n))) (cond (Nat.blt n 3) (cond (Nat.beq n 2) (K 2) (K n)) (cond (Nat.beq n 3) (K 3) (K n)))) (cond (Nat.blt n 6) (cond (Nat.blt n 5) (cond (Nat.beq n 4) (K 4) (K n)) (cond (Nat.beq n 5) (K 5) (K n))) (cond (Nat.blt n 7) (cond (Nat.beq n 6) (K 6) (K n)) (cond (Nat.beq n 7) (K 7) (K n))))) (cond (Nat.blt n 12) (cond (Nat.blt n 10) (cond (Nat.blt n 9) (cond (Nat.beq n 8) (K 8) (K n)) (cond (Nat.beq n 9) (K 9) (K n))) (cond (Nat.blt n 11) (cond (Nat.beq n 10) (K 10) (K n)) (cond (Nat.beq n 11) (K 11) (K n)))) (cond (Nat.blt n 14) (cond (Nat.blt n 13) (cond (Nat.beq n 12) (K 12) (K n)) (cond (Nat.beq n 13) (K 13) (K n))) (cond (Nat.blt n 15) (cond (Nat.beq n 14) (K 14) (K n)) (cond (Nat.beq n 15) (K 15) (K n)))))) (cond (Nat.blt n 24) (cond (Nat.blt n 20) (cond (Nat.blt n 18) (cond (Nat.blt n 17) (cond (Nat.beq n 16) (K 16) (K n)) (cond (Nat.beq n 17) (K 17) (K n))) (cond (Nat.blt n 19) (cond (Nat.beq n 18) (K 18) (K n)) (cond (Nat.beq n 19) (K 19) (K n)))) (cond (Nat.blt n 22) (cond (Nat.blt n 21) (cond (Nat.beq n 20) (K 20) (K n)) (cond (Nat.beq n 21) (K 21) (K n))) (cond (Nat.blt n 23) (cond (Nat.beq n 22) (K 22) (K n)) (cond (Nat.beq n 23) (K 23) (K n))))) (cond (Nat.blt n 28) (cond (Nat.blt n 26) (cond (Nat.blt n 25) (cond (Nat.beq n 24) (K 24) (K n)) (cond (Nat.beq n 25) (K 25) (K n))) (cond (Nat.blt n 27) (cond (Nat.beq n 26) (K 26) (K n)) (cond (Nat.beq n 27) (K 27) (K n)))) (cond (Nat.blt n 30) (cond (Nat.blt n 29) (cond (Nat.beq n 28) (K 28) (K n)) (cond (Nat.beq n 29) (K 29) (K n))) (cond (Nat.blt n 31) (cond (Nat.beq n 30) (K 30) (K n)) (cond (Nat.beq n 31) (K 31) (K n))))))) (cond (Nat.blt n 48) (cond (Nat.blt n 40) (cond (Nat.blt n 36) (cond (Nat.blt n 34) (cond (Nat.blt n 33) (cond (Nat.beq n 32) (K 32) (K n)) (cond (Nat.beq n 33) (K 33) (K n))) (cond (Nat.blt n 35) (cond (Nat.beq n 34) (K 34) (K n)) (cond (Nat.beq n 35) (K 35) (K n)))) (cond (Nat.blt n 38) (cond (Nat.blt n 37) (cond (Nat.beq n 36) (K 36) (K n)) (cond (Nat.beq n 37) (K 37) (K n))) (cond (Nat.blt n 39) (cond (Nat.beq n 38) (K 38) (K n)) (cond (Nat.beq n 39) (K 39) (K n))))) (cond (Nat.blt n 44) (cond (Nat.blt n 42) (cond (Nat.blt n 41) (cond (Nat.beq n 40) (K 40) (K n)) (cond (Nat.beq n 41) (K 41) (K n))) (cond (Nat.blt n 43) (cond (Nat.beq n 42) (K 42) (K n)) (cond (Nat.beq n 43) (K 43) (K n)))) (cond (Nat.blt n 46) (cond (Nat.blt n 45) (cond (Nat.beq n 44) (K 44) (K n)) (cond (Nat.beq n 45) (K 45) (K n))) (cond (Nat.blt n 47) (cond (Nat.beq n 46) (K 46) (K n)) (cond (Nat.beq n 47) (K 47) (K n)))))) (cond (Nat.blt n 56) (cond (Nat.blt n 52) (cond (Nat.blt n 50) (cond (Nat.blt n 49) (cond (Nat.beq n 48) (K 48) (K n)) (cond (Nat.beq n 49) (K 49) (K n))) (cond (Nat.blt n 51) (cond (Nat.beq n 50) (K 50) (K n)) (cond (Nat.beq n 51) (K 51) (K n)))) (cond (Nat.blt n 54) (cond (Nat.blt n 53) (cond (Nat.beq n 52) (K 52) (K n)) (cond (Nat.beq n 53) (K 53) (K n))) (cond (Nat.blt n 55) (cond (Nat.beq n 54) (K 54) (K n)) (cond (Nat.beq n 55) (K 55) (K n))))) (cond (Nat.blt n 60) (cond (Nat.blt n 58) (cond (Nat.blt n 57) (cond (Nat.beq n 56) (K 56) (K n)) (cond (Nat.beq n 57) (K 57) (K n))) (cond (Nat.blt n 59) (cond (Nat.beq n 58) (K 58) (K n)) (cond (Nat.beq n 59) (K 59) (K n)))) (cond (Nat.blt n 62) (cond (Nat.blt n 61) (cond (Nat.beq n 60) (K 60) (K n)) (cond (Nat.beq n 61) (K 61) (K n))) (cond (Nat.blt n 63) (cond (Nat.beq n 62) (K 62) (K n)) (cond (Nat.beq n 63) (K 63) (K n)))))))) (cond (Nat.blt n 96) (cond (Nat.blt n 80) (cond (Nat.blt n 72) (cond (Nat.blt n 68) (cond (Nat.blt n 66) (cond (Nat.blt n 65) (cond (Nat.beq n 64) (K 64) (K n)) (cond (Nat.beq n 65) (K 65) (K n))) (cond (Nat.blt n 67) (cond (Nat.beq n 66) (K 66) (K n)) (cond (Nat.beq n 67) (K 67) (K n)))) (cond (Nat.blt n 70) (cond (Nat.blt n 69) (cond (Nat.beq n 68) (K 68) (K n)) (cond (Nat.beq n 69) (K 69) (K n))) (cond (Nat.blt n 71) (cond (Nat.beq n 70) (K 70) (K n)) (cond (Nat.beq n 71) (K 71) (K n))))) (cond (Nat.blt n 76) (cond (Nat.blt n 74) (cond (Nat.blt n 73) (cond (Nat.beq n 72) (K 72) (K n)) (cond (Nat.beq n 73) (K 73) (K n))) (cond (Nat.blt n 75) (cond (Nat.beq n 74) (K 74) (K n)) (cond (Nat.beq n 75) (K 75) (K n)))) (cond (Nat.blt n 78) (cond (Nat.blt n 77) (cond (Nat.beq n 76) (K 76) (K n)) (cond (Nat.beq n 77) (K 77) (K n))) (cond (Nat.blt n 79) (cond (Nat.beq n 78) (K 78) (K n)) (cond (Nat.beq n 79) (K 79) (K n)))))) (cond (Nat.blt n 88) (cond (Nat.blt n 84) (cond (Nat.blt n 82) (cond (Nat.blt n 81) (cond (Nat.beq n 80) (K 80) (K n)) (cond (Nat.beq n 81) (K 81) (K n))) (cond (Nat.blt n 83) (cond (Nat.beq n 82) (K 82) (K n)) (cond (Nat.beq n 83) (K 83) (K n)))) (cond (Nat.blt n 86) (cond (Nat.blt n 85) (cond (Nat.beq n 84) (K 84) (K n)) (cond (Nat.beq n 85) (K 85) (K n))) (cond (Nat.blt n 87) (cond (Nat.beq n 86) (K 86) (K n)) (cond (Nat.beq n 87) (K 87) (K n))))) (cond (Nat.blt n 92) (cond (Nat.blt n 90) (cond (Nat.blt n 89) (cond (Nat.beq n 88) (K 88) (K n)) (cond (Nat.beq n 89) (K 89) (K n))) (cond (Nat.blt n 91) (cond (Nat.beq n 90) (K 90) (K n)) (cond (Nat.beq n 91) (K 91) (K n)))) (cond (Nat.blt n 94) (cond (Nat.blt n 93) (cond (Nat.beq n 92) (K 92) (K n)) (cond (Nat.beq n 93) (K 93) (K n))) (cond (Nat.blt n 95) (cond (Nat.beq n 94) (K 94) (K n)) (cond (Nat.beq n 95) (K 95) (K n))))))) (cond (Nat.blt n 112) (cond (Nat.blt n 104) (cond (Nat.blt n 100) (cond (Nat.blt n 98) (cond (Nat.blt n 97) (cond (Nat.beq n 96) (K 96) (K n)) (cond (Nat.beq n 97) (K 97) (K n))) (cond (Nat.blt n 99) (cond (Nat.beq n 98) (K 98) (K n)) (cond (Nat.beq n 99) (K 99) (K n)))) (cond (Nat.blt n 102) (cond (Nat.blt n 101) (cond (Nat.beq n 100) (K 100) (K n)) (cond (Nat.beq n 101) (K 101) (K n))) (cond (Nat.blt n 103) (cond (Nat.beq n 102) (K 102) (K n)) (cond (Nat.beq n 103) (K 103) (K n))))) (cond (Nat.blt n 108) (cond (Nat.blt n 106) (cond (Nat.blt n 105) (cond (Nat.beq n 104) (K 104) (K n)) (cond (Nat.beq n 105) (K 105) (K n))) (cond (Nat.blt n 107) (cond (Nat.beq n 106) (K 106) (K n)) (cond (Nat.beq n 107) (K 107) (K n)))) (cond (Nat.blt n 110) (cond (Nat.blt n 109) (cond (Nat.beq n 108) (K 108) (K n)) (cond (Nat.beq n 109) (K 109) (K n))) (cond (Nat.blt n 111) (cond (Nat.beq n 110) (K 110) (K n)) (cond (Nat.beq n 111) (K 111) (K n)))))) (cond (Nat.blt n 120) (cond (Nat.blt n 116) (cond (Nat.blt n 114) (cond (Nat.blt n 113) (cond (Nat.beq n 112) (K 112) (K n)) (cond (Nat.beq n 113) (K 113) (K n))) (cond (Nat.blt n 115) (cond (Nat.beq n 114) (K 114) (K n)) (cond (Nat.beq n 115) (K 115) (K n)))) (cond (Nat.blt n 118) (cond (Nat.blt n 117) (cond (Nat.beq n 116) (K 116) (K n)) (cond (Nat.beq n 117) (K 117) (K n))) (cond (Nat.blt n 119) (cond (Nat.beq n 118) (K 118) (K n)) (cond (Nat.beq n 119) (K 119) (K n))))) (cond (Nat.blt n 124) (cond (Nat.blt n 122) (cond (Nat.blt n 121) (cond (Nat.beq n 120) (K 120) (K n)) (cond (Nat.beq n 121) (K 121) (K n))) (cond (Nat.blt n 123) (cond (Nat.beq n 122) (K 122) (K n)) (cond (Nat.beq n 123) (K 123) (K n)))) (cond (Nat.blt n 126) (cond (Nat.blt n 125) (cond (Nat.beq n 124) (K 124) (K n)) (cond (Nat.beq n 125) (K 125) (K n))) (cond (Nat.blt n 127) (cond (Nat.beq n 126) (K 126) (K n)) (cond (Nat.beq n 127) (K 127) (K n))))))))

theorem cndL (n c : Nat) (K : Nat → Prop) : cond (Nat.beq n c) (K c) (K n) = K n := by
  cases h : Nat.beq n c with
  | true => have := Nat.eq_of_beq_eq_true h; subst this; rfl
  | false => rfl
theorem cndN {b : Bool} {A B C : Prop} (h : A = C) (h' : B = C) : cond b A B = C := by cases b <;> assumption
theorem litN_eq (n : Nat) (K : Nat → Prop) : litN n K = K n :=
  cndN (cndN (cndN (cndN (cndN (cndN (cndN (cndL n 0 K) (cndL n 1 K)) (cndN (cndL n 2 K) (cndL n 3 K))) (cndN (cndN (cndL n 4 K) (cndL n 5 K)) (cndN (cndL n 6 K) (cndL n 7 K)))) (cndN (cndN (cndN (cndL n 8 K) (cndL n 9 K)) (cndN (cndL n 10 K) (cndL n 11 K))) (cndN (cndN (cndL n 12 K) (cndL n 13 K)) (cndN (cndL n 14 K) (cndL n 15 K))))) (cndN (cndN (cndN (cndN (cndL n 16 K) (cndL n 17 K)) (cndN (cndL n 18 K) (cndL n 19 K))) (cndN (cndN (cndL n 20 K) (cndL n 21 K)) (cndN (cndL n 22 K) (cndL n 23 K)))) (cndN (cndN (cndN (cndL n 24 K) (cndL n 25 K)) (cndN (cndL n 26 K) (cndL n 27 K))) (cndN (cndN (cndL n 28 K) (cndL n 29 K)) (cndN (cndL n 30 K) (cndL n 31 K)))))) (cndN (cndN (cndN (cndN (cndN (cndL n 32 K) (cndL n 33 K)) (cndN (cndL n 34 K) (cndL n 35 K))) (cndN (cndN (cndL n 36 K) (cndL n 37 K)) (cndN (cndL n 38 K) (cndL n 39 K)))) (cndN (cndN (cndN (cndL n 40 K) (cndL n 41 K)) (cndN (cndL n 42 K) (cndL n 43 K))) (cndN (cndN (cndL n 44 K) (cndL n 45 K)) (cndN (cndL n 46 K) (cndL n 47 K))))) (cndN (cndN (cndN (cndN (cndL n 48 K) (cndL n 49 K)) (cndN (cndL n 50 K) (cndL n 51 K))) (cndN (cndN (cndL n 52 K) (cndL n 53 K)) (cndN (cndL n 54 K) (cndL n 55 K)))) (cndN (cndN (cndN (cndL n 56 K) (cndL n 57 K)) (cndN (cndL n 58 K) (cndL n 59 K))) (cndN (cndN (cndL n 60 K) (cndL n 61 K)) (cndN (cndL n 62 K) (cndL n 63 K))))))) (cndN (cndN (cndN (cndN (cndN (cndN (cndL n 64 K) (cndL n 65 K)) (cndN (cndL n 66 K) (cndL n 67 K))) (cndN (cndN (cndL n 68 K) (cndL n 69 K)) (cndN (cndL n 70 K) (cndL n 71 K)))) (cndN (cndN (cndN (cndL n 72 K) (cndL n 73 K)) (cndN (cndL n 74 K) (cndL n 75 K))) (cndN (cndN (cndL n 76 K) (cndL n 77 K)) (cndN (cndL n 78 K) (cndL n 79 K))))) (cndN (cndN (cndN (cndN (cndL n 80 K) (cndL n 81 K)) (cndN (cndL n 82 K) (cndL n 83 K))) (cndN (cndN (cndL n 84 K) (cndL n 85 K)) (cndN (cndL n 86 K) (cndL n 87 K)))) (cndN (cndN (cndN (cndL n 88 K) (cndL n 89 K)) (cndN (cndL n 90 K) (cndL n 91 K))) (cndN (cndN (cndL n 92 K) (cndL n 93 K)) (cndN (cndL n 94 K) (cndL n 95 K)))))) (cndN (cndN (cndN (cndN (cndN (cndL n 96 K) (cndL n 97 K)) (cndN (cndL n 98 K) (cndL n 99 K))) (cndN (cndN (cndL n 100 K) (cndL n 101 K)) (cndN (cndL n 102 K) (cndL n 103 K)))) (cndN (cndN (cndN (cndL n 104 K) (cndL n 105 K)) (cndN (cndL n 106 K) (cndL n 107 K))) (cndN (cndN (cndL n 108 K) (cndL n 109 K)) (cndN (cndL n 110 K) (cndL n 111 K))))) (cndN (cndN (cndN (cndN (cndL n 112 K) (cndL n 113 K)) (cndN (cndL n 114 K) (cndL n 115 K))) (cndN (cndN (cndL n 116 K) (cndL n 117 K)) (cndN (cndL n 118 K) (cndL n 119 K)))) (cndN (cndN (cndN (cndL n 120 K) (cndL n 121 K)) (cndN (cndL n 122 K) (cndL n 123 K))) (cndN (cndN (cndL n 124 K) (cndL n 125 K)) (cndN (cndL n 126 K) (cndL n 127 K)))))))

def lenArgs (tt : Tab) (ts : List TypeId) (st : St) (args : List Operand) (K : Nat → List Nat → Prop) : Prop :=
  match args with
  | [x] => match ts with
    | [t] => lenA tt t st (evalA st x) K
    | _ => False
  | _ => False

/-- What is copied: as numbers. -/
def srcI (st : St) (x : AV) (K : IntKind → Nat → List Int → List Nat → Prop) : Prop :=
  match x with
  | .str s => K .u8 s.size (bsA s) []
  | x => rowI st x K

def appendA (tt : Tab) (st : St) (ts tx : TypeId) (d x : AV) (K : KV) : Prop :=
  match elemId tt ts with
  | none => False
  | some e => match tyOf tt e with
    | none => False
    | some te => litN te.bytes fun tb => Str (tx = ts) <| Chk (okZ te.zero) <|
      match te.zero with
      | .int k _ => match d with
        | .nils => rowI st x fun k' m ys rd => Chk ((kEq k k' && Nat.beq te.size 1)) <| Bnd (m * tb ≤ 140737488355328) <| Bnd (m ≤ 9223372036854775807) <| K (.ow st.nxt e) ⟨[(st.nxt, some (.arr k m ys))], rd, 1⟩
        | .ow id e' => match lkH st.heap id with
          | some (.arr k'' n xs) => rowI st x fun k' m ys rd => Chk ((kEq k k' && kEq k k'' && Nat.beq te.size 1 && Nat.beq e e')) <| Bnd ((n + m) * tb ≤ 140737488355328) <| Bnd (n + m ≤ 9223372036854775807) <|
              K (.ow st.nxt e) ⟨[(st.nxt, some (.arr k (n + m) (xs ++ ys))), (id, none)], id :: rd, 1⟩
          | _ => False
        | _ => False
      | _ => match d with
        | .nils => rowS st x fun sz m g rd => Chk ((Nat.beq te.size sz && !(Nat.beq sz 0))) <| Bnd (m * tb ≤ 140737488355328) <| Bnd (m ≤ 9223372036854775807) <| K (.ow st.nxt e) ⟨[(st.nxt, some (.seq sz m g))], rd, 1⟩
        | .ow id e' => match lkH st.heap id with
          | some (.seq sz' n f) => rowS st x fun sz m g rd => Str (∀ i j, i < n → j < m → shEq (f i) (g j)) <| Chk ((Nat.beq te.size sz && Nat.beq sz' sz && !(Nat.beq sz 0) && Nat.beq e e')) <| Bnd ((n + m) * tb ≤ 140737488355328) <| Bnd (n + m ≤ 9223372036854775807) <|
              K (.ow st.nxt e) ⟨[(st.nxt, some (.seq sz (n + m) (fun j => cond (Nat.blt j n) (f j) (g (j - n))))), (id, none)], id :: rd, 1⟩
          | _ => False
        | _ => False

def copyA (st : St) (d x : AV) (K : KV) : Prop :=
  match d with
  | .sl id p off len => match lkH st.heap id with
    | some v => match proj v p with
      | .arr k n xs => srcI st x fun k' m ys rd => Chk (kEq k k') <| Bnd (min m len ≤ 9223372036854775807) <|
          K (.int .i64 ((min m len : Nat) : Int)) ⟨[(id, some (upd v p (.arr k n (xs.take off ++ (ys.take (min m len) ++ xs.drop (off + min m len))))))], id :: rd, 0⟩
      | _ => False
    | none => False
  | .ow id _ => match lkH st.heap id with
    | some (.arr k n xs) => srcI st x fun k' m ys rd => Chk (kEq k k') <| Bnd (min m n ≤ 9223372036854775807) <|
        K (.int .i64 ((min m n : Nat) : Int)) ⟨[(id, some (upd (.arr k n xs) [] (.arr k n (xs.take 0 ++ (ys.take (min m n) ++ xs.drop (0 + min m n))))))], id :: rd, 0⟩
    | _ => False
  | _ => False

def convA (tt : Tab) (st : St) (src dst : TypeId) (x : AV) (K : KV) : Prop :=
  match tyOf tt dst with
  | some ⟨.int k, _, _, _, _⟩ => match x with
    | .int _ n => Chk (tyOf tt src).isSome <| nm k (k.wrap n) fun z => K (.int k z) .no
    | _ => False
  | some ⟨.string, _, _, _, _⟩ => match x with
    | .str s => Chk (isStr tt src) <| K (.str s) .no
    | .nils => match tyOf tt src with
      | some ⟨.slice e, _, _, _, _⟩ => match tyOf tt e with
        | some ⟨.int .u8, _, _, _, _⟩ => K (.str (ofBs [])) .no
        | _ => False
      | _ => False
    | x => match tyOf tt src with
      | some ⟨.slice e, _, _, _, _⟩ => match tyOf tt e with
        | some ⟨.int .u8, _, _, _, _⟩ => rowI st x fun k _ xs rd => Chk (kEq k .u8) <| K (.str (ofBs xs)) (.reads rd)
        | _ => False
      | _ => False
  | some ⟨.slice e, _, _, _, _⟩ => match x with
    | .str s => match tyOf tt src with
      | some ⟨.string, _, _, _, _⟩ => match tyOf tt e with
        | some ⟨.int .u8, _, _, _, _⟩ => Bnd (s.size ≤ 140737488355328) <| K (.rs (.arr .u8 s.size (bsA s))) .no
        | _ => False
      | _ => False
    | .ow id _ => match lkH st.heap id with
      | some (.arr k n xs) => match tyOf tt e with
        | some ⟨.int .u8, _, _, _, _⟩ => Chk ((Nat.beq src dst && Nat.ble 1 n)) <| K (.rs (.arr k n xs)) ⟨[(id, none)], [id], 0⟩
        | _ => False
      | _ => False
    | _ => False
  | _ => False

def fieldAddrA (tt : Tab) (st : St) (t : TypeId) (x : AV) (f : Nat) (K : KV) : Prop :=
  match x with
  | .ptr id p => match lkH st.heap id with
    | some v => match proj v p with
      | .st fs => Chk (fieldOf tt t f fs) <| K (.ptr id (p ++ [.fld f])) (.reads [id])
      | _ => False
    | none => False
  | .rp (.st fs) => Chk (fieldOf tt t f fs) <| K (.rp (fs.getD f .un)) .no
  | _ => False

def parts (st : St) (ps : List (Nat × Operand)) : List (Nat × AV) :=
  match ps with
  | [] => []
  | (i, x) :: l => (i, evalA st x) :: parts st l

def evals (st : St) : List Operand → List AV
  | [] => []
  | x :: l => evalA st x :: evals st l

/-- A callee's contract, as the evaluator takes it. -/
abbrev Spec := St → List AV → KV → Prop
abbrev Specs := List (Nat × Spec)

def spOf : Specs → Nat → Spec
  | [], _ => fun _ _ _ => False
  | (i, s) :: l, k => cond (Nat.beq i k) s (spOf l k)

def kindOf (a : AV) : Option IntKind :=
  match a with
  | .int k _ => some k
  | _ => none

def opA (tt : Tab) (ct : Specs) (st : St) (o : Op) (K : KV) : Prop :=
  match o with
  | .move x => K (evalA st x) .no
  | .assign x => K (evalA st x) .no
  | .pick c a b =>
    match (match c with | .tmp t => knl st.kn t | _ => none) with
    | some true => K (evalA st a) .no
    | some false => K (evalA st b) .no
    | none => match evalA st c with
      | .bool v => askB v (K (evalA st a) .no) (K (evalA st b) .no)
      | _ => False
  | .alloc t => match tyOf tt t with
    | some ti => Chk (okZ ti.zero) <| K (.ptr st.nxt []) ⟨[(st.nxt, some ti.zero)], [], 1⟩
    | none => False
  | .box t x => Chk ((fitsT tt t (evalA st x) && okV (evalA st x))) <| K (.ptr st.nxt []) ⟨[(st.nxt, some (evalA st x))], [], 1⟩
  | .build t ps => buildA tt t (parts st ps.toList) fun v => K v .no
  | .buildSlice t len ps => match elemId tt t with
    | none => False
    | some e => match tyOf tt e with
    | some te => match te.zero with
      | .int k z => match setInts k len (List.replicate len z) (parts st ps.toList) with
        | some ys => Chk ((Nat.beq te.size 1 && Nat.ble len 16777216)) <| K (.ow st.nxt e) ⟨[(st.nxt, some (.arr k len ys))], [], 1⟩
        | none => False
      | z => match setParts (List.replicate len z) (parts st ps.toList) with
        | some ys => Chk ((okZ z && Nat.beq te.size (sizeA z) && Nat.ble (len * te.size) 16777216 && !(Nat.beq te.size 0))) <| Str (partsOk (List.replicate len z) (parts st ps.toList)) <| K (.ow st.nxt e) ⟨[(st.nxt, some (.seq te.size len (fun j => ys.getD j .un)))], [], 1⟩
        | none => False
    | none => False
  | .load t a => match evalA st a with
    | .ptr id p => match lkH st.heap id with
      | some v => Chk (fitsT tt t (proj v p)) <| withR (proj v p) fun u => K u (.reads [id])
      | none => False
    | .rp v => Chk (fitsT tt t v) <| withR v fun u => K u .no
    | _ => False
  | .store t a x => match evalA st a with
    | .ptr id p => match lkH st.heap id with
      | some v => Chk (fitsT tt t (evalA st x)) <| Str (shEq (proj v p) (evalA st x)) <| K .un ⟨[(id, some (upd v p (evalA st x)))], [id], 0⟩
      | none => False
    | _ => False
  | .nilCheck x => match evalA st x with
    | .ptr id p => K (.ptr id p) .no
    | .rp v => K (.rp v) .no
    | _ => False
  | .binOp op t x y _ => binA tt op t (evalA st x) (evalA st y) fun v => K v .no
  | .unOp op _ x => match evalA st x with
    | .bool b => match op with
      | .not => K (.bool (!b)) .no
      | _ => False
    | .int k n => match op with
      | .neg => nm k (k.wrap (0 - n)) fun z => K (.int k z) .no
      | .xor => nm k (bitsI .xor k (if k.signed then -1 else k.max) n) fun z => K (.int k z) .no
      | _ => False
    | _ => False
  | .convert src dst x => convA tt st src dst (evalA st x) K
  | .makeSlice t l c => match elemId tt t with
    | none => False
    | some e => match tyOf tt e with
    | some te => litN te.bytes fun tb => match evalA st l with
      | .int kl ln => match evalA st c with
        | .int kc cn => Chk ((kEq kl .i64 && kEq kc .i64)) <| Bnd (0 ≤ ln ∧ ln ≤ cn ∧ tb * cn ≤ 281474976710656 ∧ cn ≤ 9223372036854775807) <| match te.zero with
          | .int k z => Chk (Nat.beq te.size 1) <| nmN ln.toNat fun n => K (.ow st.nxt e) ⟨[(st.nxt, some (.arr k n (List.replicate n z)))], [], 1⟩
          | z => Chk ((okZ z && Nat.beq te.size (sizeA z) && !(Nat.beq te.size 0))) <| nmN ln.toNat fun n => K (.ow st.nxt e) ⟨[(st.nxt, some (.seq te.size n (fun _ => z)))], [], 1⟩
        | _ => False
      | _ => False
    | none => False
  | .slice t x lo hi none => sliceA tt st t (evalA st x) lo hi K
  | .fieldAddr t x f => fieldAddrA tt st t (evalA st x) f K
  | .field t x f => match evalA st x with
    | .st fs => Chk (fieldOf tt t f fs) <| K (fs.getD f .un) .no
    | _ => False
  | .indexAddr t x i => match evalA st i with
    | .int _ n => indexAddrA tt st t (evalA st x) n K
    | _ => False
  | .index t x i => match evalA st i with
    | .int _ n => match evalA st x with
      | .str s => match tyOf tt t with
        | some ⟨.string, _, _, _, _⟩ => Bnd (0 ≤ n ∧ n < (s.size : Int)) <| (nmN n.toNat fun j => nm .u8 (bA s j) fun z => K (.int .u8 z) .no)
        | _ => False
      | .arr k m xs => match tyOf tt t with
        | some ⟨.array len e, _, _, _, _⟩ => match tyOf tt e with
          | some te => Chk ((Nat.beq m len && Nat.beq te.size 1 && !(isAggD te.desc))) <| Bnd (0 ≤ n ∧ n < (m : Int)) <| (nmN n.toNat fun j => nm k (xs.getD j 0) fun z => K (.int k z) .no)
          | none => False
        | _ => False
      | _ => False
    | _ => False
  | .extract x i => match evalA st x with
    | .tup vs => Chk (Nat.blt i vs.length) <| K (vs.getD i .un) .no
    | _ => False
  | .makeInterface t x => match tyOf tt t with
    | some ti => match ti.desc with
      | .interface _ => False
      | _ => Chk ((!isAggA (evalA st x) && okV (evalA st x))) <| K (.ifc t (evalA st x)) .no
    | none => False
  | .call c => match c.callee with
    | .builtin .len => lenArgs tt c.argTypes.toList st c.args.toList fun n rd => nm .i64 (n : Int) fun z => K (.int .i64 z) (.reads rd)
    | .builtin .append => match c.args.toList with
      | [d, x] => match c.argTypes.toList with
        | [ts, tx] => appendA tt st ts tx (evalA st d) (evalA st x) K
        | _ => False
      | _ => False
    | .builtin .copy => match c.args.toList with
      | [d, x] => match c.argTypes.toList with
        | [ts, _] => Chk (fitE tt ts 1) <| copyA st (evalA st d) (evalA st x) K
        | _ => False
      | _ => False
    | .builtin .min => match evals st c.args.toList with
      | [.int k a, .int k' b] => Chk (kEq k k') <| K (.int k (min a b)) .no
      | _ => False
    | .builtin .max => match evals st c.args.toList with
      | [.int k a, .int k' b] => Chk (kEq k k') <| K (.int k (max a b)) .no
      | _ => False
    | .value (.func f) => spOf ct f st (evals st c.args.toList) K
    | _ => False
  | _ => False

def dstOf : List Oper → Nat → Option Tmp
  | o :: _, 0 => o.dst
  | _ :: l, n + 1 => dstOf l n
  | [], _ => none

def setKn (st : St) (t : Nat) (b : Bool) : St := ⟨st.env, st.heap, st.nxt, (t, b) :: st.kn⟩

mutual
/-- A value, brought to its form. -/
def fvB : AV → (AV → Prop) → Prop
  | .un, K => K .un
  | .bool b, K => K (.bool b)
  | .int k n, K => K (.int k n)
  | .str s, K => K (.str s)
  | .nilp, K => K .nilp
  | .ptr id p, K => litN id fun id => K (.ptr id p)
  | .nils, K => K .nils
  | .ow id e, K => litN id fun id => K (.ow id e)
  | .sl id p off len, K => litN id fun id => K (.sl id p off len)
  | .rs v, K => fvB v fun v => K (.rs v)
  | .rp v, K => fvB v fun v => K (.rp v)
  | .nilm, K => K .nilm
  | .mp id, K => litN id fun id => K (.mp id)
  | .nilf, K => K .nilf
  | .fn f a b, K => fvBs a fun a => fvBs b fun b => K (.fn f a b)
  | .nili, K => K .nili
  | .ifc t v, K => fvB v fun v => K (.ifc t v)
  | .glob g, K => K (.glob g)
  | .st fs, K => fvBs fs fun fs => K (.st fs)
  | .arr k n xs, K => K (.arr k n xs)
  | .seq sz n f, K => K (.seq sz n f)
  | .tup vs, K => fvBs vs fun vs => K (.tup vs)
def fvBs : List AV → (List AV → Prop) → Prop
  | [], K => K []
  | v :: l, K => fvB v fun v => fvBs l fun l => K (v :: l)
end

mutual
theorem fvB_eq : ∀ (v : AV) (K : AV → Prop), fvB v K = K v
  | .un, K | .bool _, K | .int _ _, K | .str _, K | .nilp, K | .nils, K | .nilm, K | .nilf, K | .nili, K | .glob _, K | .arr _ _ _, K | .seq _ _ _, K => by simp only [fvB]
  | .ptr _ _, K | .ow _ _, K | .sl _ _ _ _, K | .mp _, K => by simp only [fvB, litN_eq]
  | .rs v, K | .rp v, K | .ifc _ v, K => by simp only [fvB, fvB_eq v]
  | .fn _ a b, K => by simp only [fvB, fvBs_eq a, fvBs_eq b]
  | .st fs, K => by simp only [fvB, fvBs_eq fs]
  | .tup fs, K => by simp only [fvB, fvBs_eq fs]
theorem fvBs_eq : ∀ (l : List AV) (K : List AV → Prop), fvBs l K = K l
  | [], K => by simp only [fvBs]
  | v :: l, K => by simp only [fvBs, fvB_eq v, fvBs_eq l]
end

/-- What is turned, brought to its form, over the rest. -/
def fhB : Heap → Heap → (Heap → Prop) → Prop
  | [], h, K => K h
  | (i, v) :: l, h, K => litN i fun i => match v with
    | none => fhB l h fun l => K ((i, none) :: l)
    | some v => fvB v fun v => fhB l h fun l => K ((i, some v) :: l)

theorem fhB_eq : ∀ (l h : Heap) (K : Heap → Prop), fhB l h K = K (l ++ h)
  | [], h, K => rfl
  | (i, none) :: l, h, K => by simp only [fhB, litN_eq, fhB_eq l]; rfl
  | (i, some v) :: l, h, K => by simp only [fhB, litN_eq, fvB_eq, fhB_eq l]; rfl

/-- The state behind an operation, brought to its form. -/
def stepF (st : St) (e : Eff) (dst : Option Tmp) (v : AV) (K : St → Prop) : Prop :=
  match st with
  | ⟨env, heap, nxt, kn⟩ => match e with
    | ⟨upd, _, al⟩ => fhB upd heap fun heap => litN (nxt + al) fun nxt => match dst with
      | none => K ⟨env, heap, nxt, kn⟩
      | some d => fvB v fun v => match knDrop kn d with
        | [] => K ⟨(d, v) :: env, heap, nxt, []⟩
        | y :: k => K ⟨(d, v) :: env, heap, nxt, y :: k⟩

theorem stepF_eq (st : St) (e : Eff) (dst : Option Tmp) (v : AV) (K : St → Prop) : stepF st e dst v K = K ((st.eff e).set dst v) := by
  obtain ⟨env, heap, nxt, kn⟩ := st
  obtain ⟨upd, rd, al⟩ := e
  cases dst with
  | none => simp only [stepF, fhB_eq, litN_eq, St.set, St.eff]
  | some d =>
    simp only [stepF, fvB_eq, fhB_eq, litN_eq, St.set, St.eff]
    cases hk : knDrop kn d <;> rfl

def knF (st : St) (t : Nat) (b : Bool) (K : St → Prop) : Prop :=
  match st with
  | ⟨env, heap, nxt, kn⟩ => K ⟨env, heap, nxt, (t, b) :: kn⟩

theorem knF_eq (st : St) (t : Nat) (b : Bool) (K : St → Prop) : knF st t b K = K (setKn st t b) := rfl

/-- The operations of a region, one behind the other; what each read and turned is kept. -/
def opsF (tt : Tab) (ct : Specs) (all : List Oper) (o : Oper) (ih : St → List Eff → (St → List Eff → Prop) → Prop) (st : St) (log : List Eff) (K : St → List Eff → Prop) : Prop :=
  let run (st : St) : Prop := opA tt ct st o.op fun v e => stepF st e o.dst v fun st => ih st (e :: log) K
  let skip (st : St) : Prop := stepF st .no o.dst (.tup []) fun st => ih st (.no :: log) K
  match o.guard with
  | none => run st
  | some (j, want) => match dstOf all j with
    | none => False
    | some t => match knl st.kn t with
      | some b => cond (b == want) (run st) (skip st)
      | none => match evalA st (.tmp t) with
        | .bool b => askB b (knF st t true fun st => cond want (run st) (skip st)) (knF st t false fun st => cond want (skip st) (run st))
        | .tup [] => skip st
        | _ => False

noncomputable def opsA (tt : Tab) (ct : Specs) (all : List Oper) (l : List Oper) : St → List Eff → (St → List Eff → Prop) → Prop :=
  List.rec (motive := fun _ => St → List Eff → (St → List Eff → Prop) → Prop) (fun st log K => K st log) (fun o _ ih => opsF tt ct all o ih) l

theorem opsA_nil {tt : Tab} {ct : Specs} {all : List Oper} {st : St} {log : List Eff} {K : St → List Eff → Prop} : opsA tt ct all [] st log K = K st log := rfl
theorem opsA_cons {tt : Tab} {ct : Specs} {all : List Oper} {o : Oper} {rest : List Oper} {st : St} {log : List Eff} {K : St → List Eff → Prop} : opsA tt ct all (o :: rest) st log K = opsF tt ct all o (opsA tt ct all rest) st log K := rfl

/-! A region that draws its order: whatever order it draws, each operation finds what it finds in the text's. -/
def opTmps (o : Oper) : List Nat := o.op.operands.toList.filterMap fun | .tmp t => some t | _ => none
def guardTmp (all : List Oper) (o : Oper) : List Nat :=
  match o.guard with
  | some (j, _) => (dstOf all j).toList
  | none => []

/-- Whom an operation comes behind: a number whose digits tell. -/
def befs : List Oper → List Nat → List Nat
  | [], acc => acc
  | o :: l, acc => befs l (acc ++ [o.after.toList.foldl (fun s e => cond (Region.binds .any e) (s ||| 2 ^ e.on ||| acc.getD e.on 0) s) 0])

def meets (a b : List Nat) : Bool := a.any fun x => b.any fun y => Nat.beq x y

def updIds (e : Eff) : List Nat := e.upd.map (·.1)

def clash (all : List Oper) (x : Oper) (ex : Eff) (y : Oper) (ey : Eff) : Bool :=
  meets x.dst.toList (opTmps y ++ guardTmp all y ++ y.dst.toList) || meets y.dst.toList (opTmps x ++ guardTmp all x) ||
  meets (updIds ex) (ey.rd ++ updIds ey) || meets (updIds ey) ex.rd

def pairsOk (all : List Oper) (x : Oper) (ex : Eff) (bit : Nat) : List Oper → List Eff → List Nat → Bool
  | y :: ys, ey :: es, b :: bs => (b.testBit bit || !clash all x ex y ey) && pairsOk all x ex bit ys es bs
  | [], [], [] => true
  | _, _, _ => false

def indep (all : List Oper) : List Oper → List Eff → List Nat → Nat → Bool
  | x :: xs, e :: es, _ :: bs, i => pairsOk all x e i xs es bs && indep all xs es bs (i + 1)
  | [], [], [], _ => true
  | _, _, _, _ => false

def edgesOk (all : List Oper) : List Oper → Nat → Bool
  | [], _ => true
  | o :: l, i => o.after.toList.all (fun e => !Region.binds .any e || Nat.blt e.on i) && (match o.guard with
      | some (j, _) => o.after.toList.any (fun e => Nat.beq e.on j && Region.binds .any e)
      | none => true) && edgesOk all l (i + 1)

def drawOk (ops : List Oper) (log : List Eff) : Bool := edgesOk ops ops 0 && indep ops ops log.reverse (befs ops []) 0

inductive AExit where
  | normal
  | exit (id : Nat)
  | ret

/-- Every slot that is written lies in the frame. -/
def dstsOk (n : Nat) (ops : List Oper) : Bool := ops.all fun o => match o.dst with | some d => Nat.blt d n | none => true

def codeOk (n : Nat) : Code → Bool
  | .region _ ops _ => dstsOk n ops.toList
  | .seq a b => codeOk n a && codeOk n b
  | .cond _ a b => codeOk n a && codeOk n b
  | .block _ c => codeOk n c
  | .scope c => codeOk n c
  | .loop c => codeOk n c
  | _ => true

end Go.Ax

/- What abstract values and states say of the machine's: definitions, and what follows for their parts. -/
namespace Go.Ax
open Go

mutual
def flat : AV → List AV
  | .st fs => flats fs
  | .arr k _ xs => xs.map (.int k)
  | .seq _ n f => (List.range n).flatMap fun j => flat (f j)
  | v => [v]
def flats : List AV → List AV
  | [] => []
  | a :: l => flat a ++ flats l
end

/-- The shape of a variable. -/
inductive Sh where
  | c
  | num (k : IntKind)
  | st (fs : List Sh)
  | ar (k : IntKind) (n : Nat)
  | sq (sz n : Nat) (s : Sh)

mutual
def Sh.size : Sh → Nat
  | .c => 1
  | .num _ => 1
  | .st fs => Sh.sizes fs
  | .ar _ n => n
  | .sq sz n _ => n * sz
def Sh.sizes : List Sh → Nat
  | [] => 0
  | s :: l => s.size + Sh.sizes l
end

mutual
def HasSh : AV → Sh → Prop
  | .st fs, .st ss => HasShs fs ss
  | .arr k n xs, .ar k' m => k = k' ∧ n = m ∧ xs.length = n
  | .seq sz n f, .sq sz' m s => sz = sz' ∧ n = m ∧ s.size = sz ∧ ∀ j, j < n → HasSh (f j) s
  | .st _, _ => False
  | .arr .., _ => False
  | .seq .., _ => False
  | .tup _, _ => False
  | .un, _ => False
  | .int k _, .num k' => k = k'
  | _, .c => True
  | _, _ => False
def HasShs : List AV → List Sh → Prop
  | [], [] => True
  | a :: l, s :: ss => HasSh a s ∧ HasShs l ss
  | _, _ => False
end

def Sh.off : Sh → List Step → Option (Nat × Sh)
  | s, [] => some (0, s)
  | .st fs, .fld i :: p => match fs[i]? with
    | some s => match s.off p with
      | some (o, t) => some (Sh.sizes (fs.take i) + o, t)
      | none => none
    | none => none
  | .ar k n, [.idx i] => if i < n then some (i, .num k) else none
  | .sq sz n s, .idx i :: p => if i < n then match s.off p with
      | some (o, t) => some (i * sz + o, t)
      | none => none
    else none
  | _, _ => none

/-- Where a tracked object lies: nowhere (a nil row), or from the head of a block; of a row: how many, its capacity, its elements' type and cells. -/
inductive Loc where
  | nil
  | at (b : Nat) (sh : Sh) (row : Option (Nat × Nat × TypeId × Nat))

abbrev PM := Nat → Option Loc
abbrev ZM := Nat → Option Obj

/-- A cell of read-only memory. -/
def zcell (Z : ZM) (a : Addr) (i : Nat) : Option Value :=
  match Z a.block with
  | some (.cells arr _ _) => if a.spot.isSome then none else arr[a.off + i]?
  | _ => none

/-- How many a row has: its cells by its elements' size. -/
def rowN : AV → Option Nat
  | .arr _ n _ => some n
  | .seq _ n _ => some n
  | _ => none

/-- A tree that has a shape. -/
def WfA (v : AV) : Prop := ∃ s, HasSh v s

/-- One cell's value. -/
inductive S (π : PM) (Z : ZM) : AV → Value → Prop where
  | bool (b : Bool) : S π Z (.bool b) (.bool b)
  | int (k : IntKind) (n : Int) : rng k n → S π Z (.int k n) (.int k n)
  | str (s : ByteArray) : s.size ≤ maxLen → S π Z (.str s) (.string s)
  | nilp : S π Z .nilp (.pointer none)
  | ptr (id : Nat) (p : List Step) (b : Nat) (sh : Sh) (r) (o : Nat) (t : Sh) : π id = some (.at b sh r) → sh.off p = some (o, t) → S π Z (.ptr id p) (.pointer (some ⟨b, o, none⟩))
  | nils : S π Z .nils (.slice none 0 0)
  | owNil (id : Nat) (e : TypeId) : π id = some .nil → S π Z (.ow id e) (.slice none 0 0)
  | ow (id b : Nat) (sh : Sh) (n cap : Nat) (e : TypeId) (sz : Nat) : π id = some (.at b sh (some (n, cap, e, sz))) → S π Z (.ow id e) (.slice (some ⟨b, 0, none⟩) n cap)
  | sl (id : Nat) (p : List Step) (off len b : Nat) (sh : Sh) (r) (o : Nat) (t : Sh) (m sz cap : Nat) (B : Addr) : π id = some (.at b sh r) → sh.off p = some (o, t) →
      ((∃ k, t = .ar k m ∧ sz = 1) ∨ ∃ s, t = .sq sz m s) → off + len ≤ m → len ≤ cap → cap ≤ maxLen → ((off = 0 ∨ 0 < len) → B = ⟨b, o + off * sz, none⟩) → S π Z (.sl id p off len) (.slice (some B) len cap)
  | slNil (id : Nat) : π id = some .nil → S π Z (.sl id [] 0 0) (.slice none 0 0)
  | rsNil (v : AV) : rowN v = some 0 → WfA v → S π Z (.rs v) (.slice none 0 0)
  | rs (v : AV) (B : Addr) (n cap : Nat) (us : Nat → Value) : rowN v = some n → WfA v → n ≤ cap → cap ≤ maxLen →
      (∀ (i : Nat) (a : AV), (flat v)[i]? = some a → zcell Z B i = some (us i)) → (∀ (i : Nat) (a : AV), (flat v)[i]? = some a → S π Z a (us i)) → S π Z (.rs v) (.slice (some B) n cap)
  | rp (v : AV) (B : Addr) (us : Nat → Value) : WfA v → B.spot = none →
      (∀ (i : Nat) (a : AV), (flat v)[i]? = some a → zcell Z B i = some (us i)) → (∀ (i : Nat) (a : AV), (flat v)[i]? = some a → S π Z a (us i)) → S π Z (.rp v) (.pointer (some B))
  | nilm : S π Z .nilm (.map none)
  | mp (id b : Nat) (r) : π id = some (.at b .c r) → S π Z (.mp id) (.map (some b))
  | nilf : S π Z .nilf .nilFunc
  | fn (f : Fn) (first cap : List AV) (fs cs : List Value) : fs.length = first.length → cs.length = cap.length → (∀ (i : Nat) (a : AV) (u : Value), first[i]? = some a → fs[i]? = some u → S π Z a u) →
      (∀ (i : Nat) (a : AV) (u : Value), cap[i]? = some a → cs[i]? = some u → S π Z a u) → S π Z (.fn f first cap) (.func f fs.toArray cs.toArray)
  | nili : S π Z .nili .nilIface
  | ifc (t : TypeId) (a : AV) (u : Value) : S π Z a u → S π Z (.ifc t a) (.iface t u)
  | glob (g : Nat) : S π Z (.glob g) (.pointer (some ⟨g, 0, none⟩))

/-- Cells, one by one. -/
def Cells (π : PM) (Z : ZM) (l : List AV) (cs : List Value) : Prop := cs.length = l.length ∧ ∀ (i : Nat) (a : AV) (u : Value), l[i]? = some a → cs[i]? = some u → S π Z a u

/-- A value: of one cell, or of many. -/
def VA (π : PM) (Z : ZM) (a : AV) (v : Value) : Prop :=
  if isAggA a then ∃ cs : List Value, v = .agg cs.toArray ∧ WfA a ∧ Cells π Z (flat a) cs else S π Z a v

/-- A temporary's: nothing is said of `un`. -/
def V (π : PM) (Z : ZM) (a : AV) (v : Value) : Prop :=
  match a with
  | .un => True
  | .tup as => ∃ vs : List Value, v = .tuple vs.toArray ∧ vs.length = as.length ∧ ∀ (i : Nat) (a : AV) (u : Value), as[i]? = some a → vs[i]? = some u → (a = .un ∨ VA π Z a u)
  | a => VA π Z a v

/-- A tracked object. -/
def ObjOk (π : PM) (Z : ZM) (v : AV) (l : Loc) (w : World) : Prop :=
  match l with
  | .nil => rowN v = some 0 ∧ WfA v
  | .at b sh r => HasSh v sh ∧ WfA v ∧ Z b = none ∧ ∃ (cs : List Value) (arr : Array Value) (e : TypeId), w.heap[b]? = some (.cells arr e (0, 0)) ∧ arr.toList.take cs.length = cs ∧ Cells π Z (flat v) cs ∧
      match r with
      | none => True
      | some (n, cap, e', sz) => e = e' ∧ arr.size = cap * sz ∧ n ≤ cap ∧ cap ≤ maxLen ∧ rowOf v = some (n, sz) ∧ cs.length = n * sz

def HM := Nat → Option AV

/-- A world to begin with, which of its blocks may be written, and which ones are read as they are. -/
structure Bs extends World where
  own : Nat → Prop
  rd : Nat → Prop

structure Good (B : Bs) (π : PM) (Z : ZM) (H : Nat → Option AV) (w : World) : Prop where
  os : w.os = B.os
  tape : w.tape = B.tape
  output : w.output = B.output
  size : B.heap.size ≤ w.heap.size
  zin : ∀ b o, Z b = some o → w.heap[b]? = some o
  objs : ∀ id v, H id = some v → ∃ l, π id = some l ∧ ObjOk π Z v l w
  apart : ∀ i j v u b s r s' r', i ≠ j → H i = some v → H j = some u → π i = some (.at b s r) → π j = some (.at b s' r') → False
  zs : ∀ b o, Z b = some o → (B.rd b ∨ B.own b) ∨ B.heap.size ≤ b
  mine : ∀ id b s r, π id = some (.at b s r) → B.own b ∨ B.heap.size ≤ b
  keep : ∀ b, b < B.heap.size → ¬ B.own b → w.heap[b]? = B.heap[b]?

/-- More is tracked, more is known to stay. -/
structure Ext (π π' : PM) (Z Z' : ZM) : Prop where
  pi : ∀ id l, π id = some l → π' id = some l
  z : ∀ b o, Z b = some o → Z' b = some o

theorem Ext.refl (π : PM) (Z : ZM) : Ext π π Z Z := ⟨fun _ _ h => h, fun _ _ h => h⟩
theorem Ext.trans {π π' π'' : PM} {Z Z' Z'' : ZM} (h : Ext π π' Z Z') (h' : Ext π' π'' Z' Z'') : Ext π π'' Z Z'' :=
  ⟨fun id l e => h'.pi id l (h.pi id l e), fun b o e => h'.z b o (h.z b o e)⟩

theorem zcell_ext {Z Z' : ZM} (h : ∀ b o, Z b = some o → Z' b = some o) {a : Addr} {i : Nat} {v : Value} (hc : zcell Z a i = some v) : zcell Z' a i = some v := by
  unfold zcell at *
  cases hz : Z a.block with
  | none => simp [hz] at hc
  | some o => rw [h _ _ hz]; rw [hz] at hc; exact hc

theorem S.ext {π π' : PM} {Z Z' : ZM} (h : Ext π π' Z Z') {a : AV} {v : Value} (hs : S π Z a v) : S π' Z' a v := by
  induction hs with
  | bool b => exact .bool b
  | int k n hr => exact .int k n hr
  | str s hs => exact .str s hs
  | nilp => exact .nilp
  | ptr id p b sh r o t h1 h2 => exact .ptr id p b sh r o t (h.pi _ _ h1) h2
  | nils => exact .nils
  | owNil id e h1 => exact .owNil id e (h.pi _ _ h1)
  | ow id b sh n cap e sz h1 => exact .ow id b sh n cap e sz (h.pi _ _ h1)
  | sl id p off len b sh r o t m sz cap B h1 h2 h3 h4 h5 h6 h7 => exact .sl id p off len b sh r o t m sz cap B (h.pi _ _ h1) h2 h3 h4 h5 h6 h7
  | slNil id h1 => exact .slNil id (h.pi _ _ h1)
  | rsNil v h1 h2 => exact .rsNil v h1 h2
  | rs v B n cap us h1 h2 h3 h4 h5 _ ih => exact .rs v B n cap us h1 h2 h3 h4 (fun i a ha => zcell_ext h.z (h5 i a ha)) ih
  | rp v B us h1 h2 h3 _ ih => exact .rp v B us h1 h2 (fun i a ha => zcell_ext h.z (h3 i a ha)) ih
  | nilm => exact .nilm
  | mp id b r h1 => exact .mp id b r (h.pi _ _ h1)
  | nilf => exact .nilf
  | fn f first cap fs cs h1 h2 _ _ ih1 ih2 => exact .fn f first cap fs cs h1 h2 ih1 ih2
  | nili => exact .nili
  | ifc t a u _ ih => exact .ifc t a u ih
  | glob g => exact .glob g

theorem Cells.ext {π π' : PM} {Z Z' : ZM} (h : Ext π π' Z Z') {l : List AV} {cs : List Value} (hs : Cells π Z l cs) : Cells π' Z' l cs :=
  ⟨hs.1, fun i a u ha hu => (hs.2 i a u ha hu).ext h⟩

theorem VA.ext {π π' : PM} {Z Z' : ZM} (h : Ext π π' Z Z') {a : AV} {v : Value} (hs : VA π Z a v) : VA π' Z' a v := by
  unfold VA at *
  by_cases hg : isAggA a = true
  · rw [if_pos hg] at hs ⊢
    obtain ⟨cs, h1, h2, h3⟩ := hs
    exact ⟨cs, h1, h2, h3.ext h⟩
  · rw [if_neg hg] at hs ⊢
    exact hs.ext h

theorem V.ext {π π' : PM} {Z Z' : ZM} (h : Ext π π' Z Z') {a : AV} {v : Value} (hs : V π Z a v) : V π' Z' a v := by
  unfold V at *
  split at hs
  · trivial
  · obtain ⟨vs, h1, h2, h3⟩ := hs
    exact ⟨vs, h1, h2, fun i a u ha hu => (h3 i a u ha hu).imp id (VA.ext h)⟩
  · exact hs.ext h

theorem Cells.append {π : PM} {Z : ZM} {l m : List AV} {cs ds : List Value} (h : Cells π Z l cs) (h' : Cells π Z m ds) : Cells π Z (l ++ m) (cs ++ ds) := by
  refine ⟨by simp [h.1, h'.1], fun i a u ha hu => ?_⟩
  by_cases hi : i < l.length
  · rw [List.getElem?_append_left hi] at ha
    rw [List.getElem?_append_left (by rw [h.1]; exact hi)] at hu
    exact h.2 i a u ha hu
  · rw [List.getElem?_append_right (by omega)] at ha
    rw [List.getElem?_append_right (by rw [h.1]; omega), h.1] at hu
    exact h'.2 _ a u ha hu

theorem Cells.nil {π : PM} {Z : ZM} : Cells π Z [] [] := ⟨rfl, fun i a u ha _ => by simp at ha⟩

theorem Cells.take {π : PM} {Z : ZM} {l : List AV} {cs : List Value} (h : Cells π Z l cs) (n : Nat) : Cells π Z (l.take n) (cs.take n) := by
  refine ⟨by simp [h.1], fun i a u ha hu => ?_⟩
  rw [List.getElem?_take] at ha hu
  by_cases hi : i < n
  · rw [if_pos hi] at ha hu
    exact h.2 i a u ha hu
  · rw [if_neg hi] at ha
    cases ha

theorem Cells.drop {π : PM} {Z : ZM} {l : List AV} {cs : List Value} (h : Cells π Z l cs) (n : Nat) : Cells π Z (l.drop n) (cs.drop n) := by
  refine ⟨by simp [h.1], fun i a u ha hu => ?_⟩
  rw [List.getElem?_drop] at ha hu
  exact h.2 _ a u ha hu

theorem Cells.one {π : PM} {Z : ZM} {a : AV} {u : Value} (h : S π Z a u) : Cells π Z [a] [u] :=
  ⟨rfl, fun i b v hb hv => by cases i with | zero => simp at hb hv; subst hb; subst hv; exact h | succ i => simp at hb⟩

end Go.Ax

/- Trees, their shapes, their cells. -/
namespace Go.Ax
open Go

mutual
theorem flat_len : ∀ (v : AV) (s : Sh), HasSh v s → (flat v).length = s.size
  | .st fs, .st ss, h => by simp only [HasSh] at h; simp only [flat, Sh.size]; exact flats_len fs ss h
  | .arr k n xs, .ar k' m, h => by simp only [HasSh] at h; simp only [flat, Sh.size]; simp; omega
  | .seq sz n f, .sq sz' m s, h => by
    simp only [HasSh] at h
    obtain ⟨h1, h2, h3, h4⟩ := h
    subst h1; subst h2
    simp only [flat, Sh.size]
    have hl : ∀ j, j < n → (flat (f j)).length = sz := fun j hj => (flat_len (f j) s (h4 j hj)).trans h3
    clear h4
    induction n with
    | zero => simp
    | succ n ih =>
      rw [List.range_succ, List.flatMap_append, List.length_append, ih (fun j hj => hl j (by omega))]
      simp [hl n (by omega), Nat.succ_mul]
  | .int _ _, .num _, _ => rfl
  | .bool _, .c, _ | .int _ _, .c, _ | .str _, .c, _ | .nilp, .c, _ | .ptr _ _, .c, _ | .nils, .c, _ | .ow _ _, .c, _ | .sl _ _ _ _, .c, _ | .rs _, .c, _ | .rp _, .c, _ | .nilm, .c, _ | .mp _, .c, _ | .nilf, .c, _ | .fn _ _ _, .c, _
  | .nili, .c, _ | .ifc _ _, .c, _ | .glob _, .c, _ => rfl
theorem flats_len : ∀ (l : List AV) (ss : List Sh), HasShs l ss → (flats l).length = Sh.sizes ss
  | [], [], _ => rfl
  | a :: l, s :: ss, h => by
    simp only [HasShs] at h
    simp only [flats, Sh.sizes, List.length_append]
    rw [flat_len a s h.1, flats_len l ss h.2]
end

mutual
theorem sizeA_eq : ∀ (v : AV) (s : Sh), HasSh v s → sizeA v = s.size
  | .st fs, .st ss, h => by simp only [HasSh] at h; simp only [sizeA, Sh.size]; exact sizesA_eq fs ss h
  | .arr k n xs, .ar k' m, h => by simp only [HasSh] at h; simp only [sizeA, Sh.size]; omega
  | .seq sz n f, .sq sz' m s, h => by
    simp only [HasSh] at h
    obtain ⟨h1, h2, h3, h4⟩ := h
    subst h1; subst h2
    rfl
  | .int _ _, .num _, _ => rfl
  | .bool _, .c, _ | .int _ _, .c, _ | .str _, .c, _ | .nilp, .c, _ | .ptr _ _, .c, _ | .nils, .c, _ | .ow _ _, .c, _ | .sl _ _ _ _, .c, _ | .rs _, .c, _ | .rp _, .c, _ | .nilm, .c, _ | .mp _, .c, _ | .nilf, .c, _ | .fn _ _ _, .c, _
  | .nili, .c, _ | .ifc _ _, .c, _ | .glob _, .c, _ => rfl
theorem sizesA_eq : ∀ (l : List AV) (ss : List Sh), HasShs l ss → sizesA l = Sh.sizes ss
  | [], [], _ => rfl
  | a :: l, s :: ss, h => by
    simp only [HasShs] at h
    simp only [sizesA, Sh.sizes]
    rw [sizeA_eq a s h.1, sizesA_eq l ss h.2]
end

theorem WfA.size {v : AV} (h : WfA v) : (flat v).length = sizeA v := by
  obtain ⟨s, hs⟩ := h
  rw [flat_len v s hs, sizeA_eq v s hs]

theorem HasShs.at : ∀ {fs : List AV} {ss : List Sh}, HasShs fs ss → fs.length = ss.length ∧ ∀ (i : Nat) (s : Sh), ss[i]? = some s → HasSh (fs.getD i .un) s
  | [], [], _ => ⟨rfl, fun i s h => by simp at h⟩
  | a :: l, s :: ss, h => by
    simp only [HasShs] at h
    obtain ⟨h1, h2⟩ := HasShs.at h.2
    refine ⟨by simp [h1], fun i t ht => ?_⟩
    cases i with
    | zero => simp at ht; subst ht; simpa using h.1
    | succ i => simp at ht; simpa using h2 i t ht

theorem flats_at : ∀ {fs : List AV} {ss : List Sh} (i : Nat) (s : Sh), HasShs fs ss → ss[i]? = some s →
    ∃ pre post, flats fs = pre ++ flat (fs.getD i .un) ++ post ∧ pre.length = Sh.sizes (ss.take i) ∧ Sh.sizes ss = Sh.sizes (ss.take i) + s.size + post.length ∧
      (∀ u, HasSh u s → HasShs (fs.set i u) ss ∧ flats (fs.set i u) = pre ++ flat u ++ post)
  | [], [], i, s, _, hs => by simp at hs
  | a :: l, b :: ss, i, s, h, hs => by
    simp only [HasShs] at h
    cases i with
    | zero =>
      simp at hs; subst hs
      refine ⟨[], flats l, by simp [flats], by simp [Sh.sizes], by simp [Sh.sizes, flats_len l ss h.2], fun u hu => ⟨by simp [HasShs, hu, h.2], by simp [flats]⟩⟩
    | succ i =>
      simp at hs
      obtain ⟨pre, post, h1, h2, h3, h4⟩ := flats_at i s h.2 hs
      refine ⟨flat a ++ pre, post, by simp [flats, h1], by simp [Sh.sizes, flat_len a b h.1, h2], by simp only [Sh.sizes, List.take_succ_cons]; omega, fun u hu => ?_⟩
      obtain ⟨g1, g2⟩ := h4 u hu
      exact ⟨by simp [HasShs, h.1, g1], by simp [flats, g2]⟩

theorem flatMap_at (f : Nat → AV) (sz : Nat) : ∀ (n i : Nat), i < n → (∀ j, j < n → (flat (f j)).length = sz) →
    ∃ pre post, (List.range n).flatMap (fun j => flat (f j)) = pre ++ flat (f i) ++ post ∧ pre.length = i * sz ∧ n * sz = i * sz + sz + post.length ∧
      (∀ u, (flat u).length = sz → (List.range n).flatMap (fun j => flat (cond (Nat.beq j i) u (f j))) = pre ++ flat u ++ post) := by
  intro n
  induction n with
  | zero => intro i hi; omega
  | succ n ih =>
    intro i hi hl
    have hlen : ∀ m, m ≤ n + 1 → ((List.range m).flatMap fun j => flat (f j)).length = m * sz := by
      intro m hm
      induction m with
      | zero => simp
      | succ m ihm => rw [List.range_succ, List.flatMap_append, List.length_append, ihm (by omega)]; simp [hl m (by omega), Nat.succ_mul]
    have hsame : ∀ u m, m ≤ i → (List.range m).flatMap (fun j => flat (cond (Nat.beq j i) u (f j))) = (List.range m).flatMap fun j => flat (f j) := by
      intro u m
      induction m with
      | zero => intro _; rfl
      | succ m ihm =>
        intro hm
        rw [List.range_succ, List.flatMap_append, List.flatMap_append, ihm (by omega)]
        have : Nat.beq m i = false := by cases hb : Nat.beq m i with | false => rfl | true => have := Nat.eq_of_beq_eq_true hb; omega
        simp [this]
    by_cases hin : i < n
    · obtain ⟨pre, post, h1, h2, h3, h4⟩ := ih i hin (fun j hj => hl j (by omega))
      refine ⟨pre, post ++ flat (f n), by rw [List.range_succ, List.flatMap_append, h1]; simp, h2, by simp [hl n (by omega), Nat.succ_mul]; omega, fun u hu => ?_⟩
      rw [List.range_succ, List.flatMap_append, h4 u hu]
      have : Nat.beq n i = false := by cases hb : Nat.beq n i with | false => rfl | true => have := Nat.eq_of_beq_eq_true hb; omega
      simp [this]
    · have e : i = n := by omega
      subst e
      refine ⟨(List.range i).flatMap fun j => flat (f j), [], by rw [List.range_succ, List.flatMap_append]; simp, hlen i (by omega), by simp [Nat.succ_mul], fun u hu => ?_⟩
      rw [List.range_succ, List.flatMap_append, hsame u i (Nat.le_refl _)]
      simp

theorem slice_mid {α : Type} (pre mid post : List α) (o n : Nat) (h : pre.length ≤ o) (h2 : o + n ≤ pre.length + mid.length) :
    ((pre ++ mid ++ post).drop o).take n = (mid.drop (o - pre.length)).take n := by
  rw [List.append_assoc, List.drop_append]
  rw [List.drop_eq_nil_of_le h, List.nil_append, List.drop_append, List.take_append]
  have h3 : n - (mid.length - (o - pre.length)) = 0 := by omega
  simp [h3]

/-- A part of a tree, and its cells. -/
theorem proj_ok : ∀ (p : List Step) (v : AV) (s : Sh) (o : Nat) (t : Sh), HasSh v s → s.off p = some (o, t) →
    HasSh (proj v p) t ∧ o + t.size ≤ s.size ∧ ((flat v).drop o).take t.size = flat (proj v p) := by
  intro p
  induction p with
  | nil =>
    intro v s o t h ho
    have ho' : some (0, s) = some (o, t) := by rw [← ho]; cases s <;> rfl
    simp only [Option.some.injEq, Prod.mk.injEq] at ho'
    obtain ⟨rfl, rfl⟩ := ho'
    have hp : proj v [] = v := by cases v <;> rfl
    rw [hp]
    refine ⟨h, by omega, ?_⟩
    rw [List.drop_zero, List.take_of_length_le]
    rw [flat_len v s h]; omega
  | cons x p ih =>
    intro v s o t h ho
    cases x with
    | fld i =>
      cases s with
      | st ss =>
        cases v <;> simp only [HasSh] at h
        rename_i fs
        simp only [Sh.off] at ho
        cases hs : ss[i]? with
        | none => simp [hs] at ho
        | some s' =>
          simp only [hs] at ho
          cases hp : s'.off p with
          | none => simp [hp] at ho
          | some r =>
            obtain ⟨o', t'⟩ := r
            simp only [hp, Option.some.injEq, Prod.mk.injEq] at ho
            obtain ⟨rfl, rfl⟩ := ho
            obtain ⟨pre, post, h1, h2, h3, _⟩ := flats_at i s' h hs
            have hsh := h.at.2 i s' hs
            obtain ⟨g1, g2, g3⟩ := ih _ _ _ _ hsh hp
            refine ⟨by simpa [proj] using g1, by simp only [Sh.size]; omega, ?_⟩
            simp only [flat, h1, proj]
            rw [slice_mid _ _ _ _ _ (by omega) (by rw [flat_len _ _ hsh]; omega), h2]
            rw [show Sh.sizes (ss.take i) + o' - Sh.sizes (ss.take i) = o' by omega, g3]
      | _ => simp [Sh.off] at ho
    | idx i =>
      cases s with
      | ar k n =>
        cases v <;> simp only [HasSh] at h
        rename_i k' n' xs
        obtain ⟨rfl, rfl, hl⟩ := h
        cases p with
        | nil =>
          simp only [Sh.off] at ho
          split at ho
          · rename_i hi
            simp only [Option.some.injEq, Prod.mk.injEq] at ho
            obtain ⟨rfl, rfl⟩ := ho
            refine ⟨by simp [proj, HasSh], by simp only [Sh.size]; omega, ?_⟩
            have hp : proj (.arr k' n' xs) [.idx i] = .int k' (xs.getD i 0) := rfl
            rw [hp]
            have hi' : i < xs.length := by omega
            simp only [flat, Sh.size]
            rw [List.drop_eq_getElem_cons (by simpa using hi')]
            simp [List.getD, List.getElem?_eq_getElem hi']
          · cases ho
        | cons y q => simp [Sh.off] at ho
      | sq sz n s' =>
        cases v <;> simp only [HasSh] at h
        rename_i sz' n' f
        obtain ⟨rfl, rfl, hsz, hf⟩ := h
        simp only [Sh.off] at ho
        split at ho
        · rename_i hi
          cases hp : s'.off p with
          | none => simp [hp] at ho
          | some r =>
            obtain ⟨o', t'⟩ := r
            simp only [hp, Option.some.injEq, Prod.mk.injEq] at ho
            obtain ⟨rfl, rfl⟩ := ho
            obtain ⟨pre, post, h1, h2, h3, _⟩ := flatMap_at f sz' n' i hi (fun j hj => (flat_len _ _ (hf j hj)).trans hsz)
            obtain ⟨g1, g2, g3⟩ := ih _ _ _ _ (hf i hi) hp
            refine ⟨by simpa [proj] using g1, by simp only [Sh.size]; omega, ?_⟩
            simp only [flat, h1, proj]
            rw [slice_mid _ _ _ _ _ (by omega) (by rw [flat_len _ _ (hf i hi)]; omega), h2]
            rw [show i * sz' + o' - i * sz' = o' by omega, g3]
        · cases ho
      | _ => simp [Sh.off] at ho

theorem splice_mid {α : Type} (pre mid post new : List α) (o n : Nat) (h2 : o + n ≤ mid.length) :
    pre ++ (mid.take o ++ new ++ mid.drop (o + n)) ++ post = (pre ++ mid ++ post).take (pre.length + o) ++ new ++ (pre ++ mid ++ post).drop (pre.length + o + n) := by
  have e1 : (pre ++ mid ++ post).take (pre.length + o) = pre ++ mid.take o := by
    rw [List.append_assoc, List.take_length_add_append, List.take_append_of_le_length (by omega)]
  have e2 : (pre ++ mid ++ post).drop (pre.length + o + n) = mid.drop (o + n) ++ post := by
    rw [List.append_assoc, Nat.add_assoc, List.drop_length_add_append, List.drop_append_of_le_length (by omega)]
  rw [e1, e2]; simp

/-- A part of a tree is turned. -/
theorem upd_ok : ∀ (p : List Step) (v u : AV) (s : Sh) (o : Nat) (t : Sh), HasSh v s → s.off p = some (o, t) → HasSh u t →
    HasSh (upd v p u) s ∧ flat (upd v p u) = (flat v).take o ++ flat u ++ (flat v).drop (o + t.size) := by
  intro p
  induction p with
  | nil =>
    intro v u s o t h ho hu
    have ho' : some (0, s) = some (o, t) := by rw [← ho]; cases s <;> rfl
    simp only [Option.some.injEq, Prod.mk.injEq] at ho'
    obtain ⟨rfl, rfl⟩ := ho'
    have hp : upd v [] u = u := by cases v <;> rfl
    rw [hp]
    refine ⟨hu, ?_⟩
    rw [List.take_zero, List.drop_eq_nil_of_le (by rw [flat_len v s h]; omega)]
    simp
  | cons x p ih =>
    intro v u s o t h ho hu
    have hproj := proj_ok (x :: p) v s o t h ho
    cases x with
    | fld i =>
      cases s with
      | st ss =>
        cases v <;> simp only [HasSh] at h
        rename_i fs
        simp only [Sh.off] at ho
        cases hs : ss[i]? with
        | none => simp [hs] at ho
        | some s' =>
          simp only [hs] at ho
          cases hp : s'.off p with
          | none => simp [hp] at ho
          | some r =>
            obtain ⟨o', t'⟩ := r
            simp only [hp, Option.some.injEq, Prod.mk.injEq] at ho
            obtain ⟨rfl, rfl⟩ := ho
            obtain ⟨pre, post, h1, h2, h3, h4⟩ := flats_at i s' h hs
            have hsh := h.at.2 i s' hs
            obtain ⟨g1, g2⟩ := ih _ u _ _ _ hsh hp hu
            obtain ⟨k1, k2⟩ := h4 _ g1
            have hb := (proj_ok p _ _ _ _ hsh hp).2.1
            refine ⟨by simpa [upd, HasSh] using k1, ?_⟩
            simp only [upd, flat]
            rw [k2, g2, h1, splice_mid _ _ _ _ _ _ (by rw [flat_len _ _ hsh]; omega), h2]
      | _ => simp [Sh.off] at ho
    | idx i =>
      cases s with
      | ar k n =>
        cases v <;> simp only [HasSh] at h
        rename_i k' n' xs
        obtain ⟨rfl, rfl, hl⟩ := h
        cases p with
        | nil =>
          simp only [Sh.off] at ho
          split at ho
          · rename_i hi
            simp only [Option.some.injEq, Prod.mk.injEq] at ho
            obtain ⟨rfl, rfl⟩ := ho
            cases u <;> simp only [HasSh] at hu
            rename_i k2 z
            subst hu
            have hp : upd (.arr k2 n' xs) [.idx i] (.int k2 z) = .arr k2 n' (xs.set i z) := rfl
            rw [hp]
            refine ⟨by simp [HasSh, hl], ?_⟩
            simp only [flat, Sh.size]
            rw [List.map_set, List.set_eq_take_append_cons_drop, if_pos (by simp; omega)]
            simp
          · cases ho
        | cons y q => simp [Sh.off] at ho
      | sq sz n s' =>
        cases v <;> simp only [HasSh] at h
        rename_i sz' n' f
        obtain ⟨rfl, rfl, hsz, hf⟩ := h
        simp only [Sh.off] at ho
        split at ho
        · rename_i hi
          cases hp : s'.off p with
          | none => simp [hp] at ho
          | some r =>
            obtain ⟨o', t'⟩ := r
            simp only [hp, Option.some.injEq, Prod.mk.injEq] at ho
            obtain ⟨rfl, rfl⟩ := ho
            obtain ⟨pre, post, h1, h2, h3, h4⟩ := flatMap_at f sz' n' i hi (fun j hj => (flat_len _ _ (hf j hj)).trans hsz)
            obtain ⟨g1, g2⟩ := ih _ u _ _ _ (hf i hi) hp hu
            have hb := (proj_ok p _ _ _ _ (hf i hi) hp).2.1
            refine ⟨?_, ?_⟩
            · simp only [upd, HasSh]
              refine ⟨trivial, trivial, hsz, fun j hj => ?_⟩
              cases hb : Nat.beq j i with
              | false => simpa using hf j hj
              | true => simpa using g1
            · simp only [upd, flat]
              rw [h4 _ ((flat_len _ _ g1).trans hsz), g2, h1, splice_mid _ _ _ _ _ _ (by rw [flat_len _ _ (hf i hi)]; omega), h2]
        · cases ho
      | _ => simp [Sh.off] at ho

theorem kEq_eq {k k' : IntKind} (h : kEq k k' = true) : k = k' := by
  cases k <;> cases k' <;> first | rfl | (exact absurd h (by decide))

def isSc : AV → Bool
  | .st _ | .arr .. | .seq .. | .tup _ | .un | .int .. => false
  | _ => true

theorem shEq_sc (a u : AV) (s : Sh) (h1 : isSc a = true) (h2 : shEq a u) (h3 : HasSh a s) : HasSh u s := by
  cases a <;> simp [isSc] at h1 <;> cases u <;> simp [shEq] at h2 <;> cases s <;> simp_all [HasSh]

mutual
theorem shEq_ok : ∀ (a u : AV) (s : Sh), shEq a u → HasSh a s → WfA u → HasSh u s
  | .st fs, u, s, h, ha, hu => by
    cases u <;> simp only [shEq] at h
    rename_i gs
    cases s <;> simp only [HasSh] at ha ⊢
    obtain ⟨r, hr⟩ := hu
    cases r <;> simp only [HasSh] at hr
    exact shEqs_ok fs gs _ _ h ha hr
  | .arr k n xs, u, s, h, ha, hu => by
    cases u <;> simp only [shEq] at h
    cases s <;> simp only [HasSh] at ha ⊢
    obtain ⟨r, hr⟩ := hu
    cases r <;> simp only [HasSh] at hr
    obtain ⟨h1, h2⟩ := h
    exact ⟨(kEq_eq h1) ▸ ha.1, by omega, by omega⟩
  | .int k n, u, s, h, ha, _ => by
    cases u <;> simp only [shEq] at h
    have hk := kEq_eq h
    subst hk
    cases s <;> simp only [HasSh] at ha ⊢
    exact ha
  | .seq _ _ _, u, _, h, _, _ => by cases u <;> simp [shEq] at h
  | .tup _, u, _, h, _, _ => by cases u <;> simp [shEq] at h
  | .un, u, _, h, _, _ => by cases u <;> simp [shEq] at h
  | .bool _, u, s, h, ha, _ => shEq_sc _ u s rfl h ha
  | .str _, u, s, h, ha, _ => shEq_sc _ u s rfl h ha
  | .nilp, u, s, h, ha, _ => shEq_sc _ u s rfl h ha
  | .ptr _ _, u, s, h, ha, _ => shEq_sc _ u s rfl h ha
  | .nils, u, s, h, ha, _ => shEq_sc _ u s rfl h ha
  | .ow _ _, u, s, h, ha, _ => shEq_sc _ u s rfl h ha
  | .sl _ _ _ _, u, s, h, ha, _ => shEq_sc _ u s rfl h ha
  | .rs _, u, s, h, ha, _ => shEq_sc _ u s rfl h ha
  | .rp _, u, s, h, ha, _ => shEq_sc _ u s rfl h ha
  | .nilm, u, s, h, ha, _ => shEq_sc _ u s rfl h ha
  | .mp _, u, s, h, ha, _ => shEq_sc _ u s rfl h ha
  | .nilf, u, s, h, ha, _ => shEq_sc _ u s rfl h ha
  | .fn _ _ _, u, s, h, ha, _ => shEq_sc _ u s rfl h ha
  | .nili, u, s, h, ha, _ => shEq_sc _ u s rfl h ha
  | .ifc _ _, u, s, h, ha, _ => shEq_sc _ u s rfl h ha
  | .glob _, u, s, h, ha, _ => shEq_sc _ u s rfl h ha
theorem shEqs_ok : ∀ (l m : List AV) (ss rs : List Sh), shEq.shEqs l m → HasShs l ss → HasShs m rs → HasShs m ss
  | [], m, ss, rs, h, ha, hm => by
    cases m <;> simp only [shEq.shEqs] at h
    exact ha
  | a :: l, m, ss, rs, h, ha, hm => by
    cases m <;> simp only [shEq.shEqs] at h
    cases ss <;> simp only [HasShs] at ha ⊢
    cases rs <;> simp only [HasShs] at hm
    exact ⟨shEq_ok a _ _ h.1 ha.1 ⟨_, hm.1⟩, shEqs_ok l _ _ _ h.2 ha.2 hm.2⟩
end

/-- One cell's tree. -/
theorem flat_sc {v : AV} (h : isAggA v = false) : flat v = [v] := by cases v <;> first | rfl | simp [isAggA] at h

theorem HasSh.sc {v : AV} {s : Sh} (h : HasSh v s) (hs : isAggA v = false) : s.size = 1 := by
  have := flat_len v s h
  rw [flat_sc hs] at this
  simpa using this.symm

theorem wf_sc {π : PM} {Z : ZM} {a : AV} {v : Value} (h : S π Z a v) : WfA a ∧ isAggA a = false := by
  cases h <;> exact ⟨⟨.c, trivial⟩, rfl⟩

theorem VA.cells {π : PM} {Z : ZM} {a : AV} {v : Value} (h : VA π Z a v) : WfA a ∧ Cells π Z (flat a) v.cells.toList := by
  unfold VA at h
  by_cases hg : isAggA a = true
  · rw [if_pos hg] at h
    obtain ⟨cs, rfl, hw, hc⟩ := h
    exact ⟨hw, by simpa [Value.cells] using hc⟩
  · rw [if_neg hg] at h
    have hs := wf_sc h
    refine ⟨hs.1, ?_⟩
    rw [flat_sc hs.2]
    have : v.cells = #[v] := by cases h <;> rfl
    rw [this]
    exact Cells.one h

theorem VA.of_cells {π : PM} {Z : ZM} {a : AV} {cs : List Value} (hw : WfA a) (hg : isAggA a = true) (h : Cells π Z (flat a) cs) : VA π Z a (.agg cs.toArray) := by
  unfold VA
  rw [if_pos hg]
  exact ⟨cs, rfl, hw, h⟩

theorem VA.of_cell {π : PM} {Z : ZM} {a : AV} {cs : List Value} (hg : isAggA a = false) (h : Cells π Z (flat a) cs) : ∃ v, cs = [v] ∧ VA π Z a v := by
  rw [flat_sc hg] at h
  match cs, h.1 with
  | [v], _ => exact ⟨v, rfl, by unfold VA; rw [hg]; simpa using h.2 0 a v rfl rfl⟩

end Go.Ax

/- What an operation leaves: the common steps of all proofs. -/
namespace Go.Ax
open Go

structure TyOk (P : Program) (t : TypeId) (ti : TI) : Prop where
  und : P.underlying t = some ti.desc
  info : ∃ i, P.info? t = some i ∧ i.size = ti.size ∧ i.bytes = ti.bytes ∧ (ti.zero = .un ∨ ∃ zv, i.zero = some zv ∧ VA (fun _ => none) (fun _ => none) ti.zero zv ∧ sizeA ti.zero = ti.size)
  eq : ti.eqok = true → P.stoodInHeld t = false ∧ P.eqGuardType P.depth t = false ∧ ∀ fs, ti.desc = .struct fs → ∀ f ∈ fs.toList, f.name ≠ "_"

def TabOk (P : Program) (tt : Tab) : Prop := ∀ t ti, tyOf tt t = some ti → TyOk P t ti

def Outc (P : Program) (r : Result Next) (post : Value → World → Prop) : Prop :=
  match r with
  | .ok (.value v) w => post v w
  | .ok .skip w => post undef w
  | .ok (.enter f args) w => Calls P f args w fun e w' => ∃ v, e = .returned v ∧ post v w'
  | _ => False

def hup (H : Nat → Option AV) (u : Heap) : Nat → Option AV := fun id => if known u id then lkH u id else H id

def After (B : Bs) (π : PM) (Z : ZM) (H : Nat → Option AV) (nxt : Nat) (v : AV) (e : Eff) (u : Value) (w' : World) : Prop :=
  ∃ π' Z', Ext π π' Z Z' ∧ (∀ id l, π' id = some l → π id = some l ∨ (nxt ≤ id ∧ id < nxt + e.al)) ∧ V π' Z' v u ∧ Good B π' Z' (hup H e.upd) w'

def OpS (P : Program) (st : St) (o : Oper) (v : AV) (e : Eff) : Prop :=
  ∀ (B : Bs) (π : PM) (Z : ZM) (H : Nat → Option AV) (w : World) (ρ : Operand → Value), (∀ x ∈ o.op.operands.toList, V π Z (evalA st x) (ρ x)) → Good B π Z H w →
    (∀ id ∈ e.rd, H id = lkH st.heap id) → (∀ id, st.nxt ≤ id → id < st.nxt + e.al → π id = none) → Outc P ((execOp ρ o).run P w) (After B π Z H st.nxt v e)

def KnOk (st : St) : Prop := ∀ t b, knl st.kn t = some b → lkE st.env t = .bool b

theorem hup_nil (H : Nat → Option AV) : hup H [] = H := by funext id; simp [hup, known]

theorem after_same {B : Bs} {π : PM} {Z : ZM} {H : Nat → Option AV} {nxt : Nat} {v : AV} {rd : List Nat} {u : Value} {w : World} (hg : Good B π Z H w) (hv : V π Z v u) :
    After B π Z H nxt v (.reads rd) u w :=
  ⟨π, Z, .refl _ _, fun _ _ h => .inl h, hv, by simpa [Eff.reads, hup_nil] using hg⟩

theorem after_no {B : Bs} {π : PM} {Z : ZM} {H : Nat → Option AV} {nxt : Nat} {v : AV} {u : Value} {w : World} (hg : Good B π Z H w) (hv : V π Z v u) :
    After B π Z H nxt v .no u w := after_same (rd := []) hg hv

theorem ObjOk.step {π π' : PM} {Z Z' : ZM} {v : AV} {l : Loc} {w w' : World} (h : ObjOk π Z v l w) (hx : Ext π π' Z Z')
    (hb : ∀ b sh r, l = .at b sh r → w'.heap[b]? = w.heap[b]? ∧ Z' b = none) : ObjOk π' Z' v l w' := by
  cases l with
  | nil => exact h
  | «at» b sh r =>
    obtain ⟨h1, h2, _, cs, arr, e, h4, h5, h6, h7⟩ := h
    obtain ⟨g1, g2⟩ := hb b sh r rfl
    exact ⟨h1, h2, g2, cs, arr, e, by rw [g1]; exact h4, h5, h6.ext hx, h7⟩

theorem Good.lt {B : Bs} {π : PM} {Z : ZM} {H : Nat → Option AV} {w : World} (hg : Good B π Z H w) {id : Nat} {v : AV} (h : H id = some v) {b : Nat} {sh : Sh} {r}
    (hp : π id = some (.at b sh r)) : b < w.heap.size := by
  obtain ⟨l, hl, ho⟩ := hg.objs id v h
  rw [hp] at hl
  cases hl
  obtain ⟨_, _, _, _, _, _, h4, _⟩ := ho
  exact (Array.getElem?_eq_some_iff.1 h4).1

theorem Good.zlt {B : Bs} {π : PM} {Z : ZM} {H : Nat → Option AV} {w : World} (hg : Good B π Z H w) {b : Nat} {o : Obj} (h : Z b = some o) : b < w.heap.size :=
  (Array.getElem?_eq_some_iff.1 (hg.zin b o h)).1

theorem Good.step {B : Bs} {π π' : PM} {Z Z' : ZM} {H H' : Nat → Option AV} {w w' : World} (hg : Good B π Z H w) (hx : Ext π π' Z Z') (hos : w'.os = w.os) (ht : w'.tape = w.tape)
    (ho : w'.output = w.output) (hs : w.heap.size ≤ w'.heap.size) (hz : ∀ b o, Z' b = some o → w'.heap[b]? = some o)
    (hobj : ∀ id v, H' id = some v → (H id = some v ∧ ∀ b sh r, π id = some (.at b sh r) → w'.heap[b]? = w.heap[b]? ∧ Z' b = none) ∨ ∃ l, π' id = some l ∧ ObjOk π' Z' v l w')
    (hap : ∀ i j v u b s r s' r', i ≠ j → H' i = some v → H' j = some u → π' i = some (.at b s r) → π' j = some (.at b s' r') → False)
    (hzs : ∀ b o, Z' b = some o → Z b = some o ∨ w.heap.size ≤ b)
    (hnw : ∀ id b s r, π' id = some (.at b s r) → w.heap.size ≤ b ∨ ∃ id' s' r', π id' = some (.at b s' r'))
    (hkp : ∀ b, b < w.heap.size → (∀ id s r, π id ≠ some (.at b s r)) → w'.heap[b]? = w.heap[b]?) : Good B π' Z' H' w' where
  os := hos.trans hg.os
  tape := ht.trans hg.tape
  output := ho.trans hg.output
  size := Nat.le_trans hg.size hs
  zin := hz
  objs := fun id v h => by
    rcases hobj id v h with ⟨h1, h2⟩ | h
    · obtain ⟨l, hl, hok⟩ := hg.objs id v h1
      exact ⟨l, hx.pi id l hl, hok.step hx fun b sh r e => by subst e; exact h2 b sh r hl⟩
    · exact h
  apart := hap
  zs := fun b o h => by
    rcases hzs b o h with h | h
    · exact hg.zs b o h
    · exact .inr (Nat.le_trans hg.size h)
  mine := fun id b s r h => by
    rcases hnw id b s r h with h | ⟨id', s', r', h⟩
    · exact .inr (Nat.le_trans hg.size h)
    · exact hg.mine id' b s' r' h
  keep := fun b hb hn => (hkp b (Nat.lt_of_lt_of_le hb hg.size) fun id s r h => by
    rcases hg.mine id b s r h with h | h
    · exact hn h
    · exact absurd hb (Nat.not_lt.2 h)).trans (hg.keep b hb hn)

theorem setP_at {π : PM} {id : Nat} {l : Loc} {j b : Nat} {s : Sh} {r} (h : (fun j => if j = id then some l else π j) j = some (.at b s r)) : l = .at b s r ∨ π j = some (.at b s r) := by
  simp only at h
  split at h
  · exact .inl (Option.some.inj h)
  · exact .inr h

def setP (π : PM) (id : Nat) (l : Loc) : PM := fun j => if j = id then some l else π j

theorem setP_ext {π : PM} {Z : ZM} {id : Nat} {l : Loc} (h : π id = none) : Ext π (setP π id l) Z Z :=
  ⟨fun j l' e => by unfold setP; split; · rename_i hj; subst hj; rw [h] at e; cases e
                    · exact e, fun _ _ e => e⟩

theorem push_at (w : World) (o : Obj) (b : Nat) (hb : b < w.heap.size) : (w.heap.push o)[b]? = w.heap[b]? := by
  rw [Array.getElem?_push]; simp [Nat.ne_of_lt hb]

/-- A new object, in a new block, at a new id. -/
theorem good_new {B : Bs} {π : PM} {Z : ZM} {H : Nat → Option AV} {w : World} (hg : Good B π Z H w) (id : Nat) (hid : π id = none) (v : AV) (sh : Sh) (r) (o : Obj)
    (hobj : ∀ w' : World, w'.heap[w.heap.size]? = some o → ObjOk (setP π id (.at w.heap.size sh r)) Z v (.at w.heap.size sh r) w') :
    Good B (setP π id (.at w.heap.size sh r)) Z (hup H [(id, some v)]) { w with heap := w.heap.push o } := by
  have hfree : H id = none := by
    cases h : H id with
    | none => rfl
    | some u => obtain ⟨l, hl, _⟩ := hg.objs id u h; rw [hid] at hl; cases hl
  have hH : ∀ j u, hup H [(id, some v)] j = some u → (j = id ∧ u = v) ∨ (j ≠ id ∧ H j = some u) := by
    intro j u h
    unfold hup at h
    simp only [known, lkH] at h
    cases hb : Nat.beq id j with
    | true =>
      have := Nat.eq_of_beq_eq_true hb
      simp [hb] at h
      exact .inl ⟨this.symm, h.symm⟩
    | false =>
      simp [hb] at h
      exact .inr ⟨fun e => by subst e; simp at hb, h⟩
  refine hg.step (setP_ext hid) rfl rfl rfl (by simp) (fun b o' hz => ?_) (fun j u h => ?_) (fun i j u u' b s r1 s' r2 hij hi hj pi pj => ?_) (fun _ _ h => .inl h) (fun j b s r h => by
    rcases setP_at h with h | h
    · cases h; exact .inl (Nat.le_refl _)
    · exact .inr ⟨j, s, r, h⟩) (fun b hb _ => push_at _ _ _ hb)
  · show (w.heap.push o)[b]? = _
    rw [push_at _ _ _ (hg.zlt hz)]
    exact hg.zin b o' hz
  · rcases hH j u h with ⟨rfl, rfl⟩ | ⟨hj, h⟩
    · exact .inr ⟨_, by simp [setP], hobj _ (by simp)⟩
    · refine .inl ⟨h, fun b sh' r' hp => ⟨push_at _ _ _ (hg.lt h hp), ?_⟩⟩
      obtain ⟨l, hl, hok⟩ := hg.objs j u h
      rw [hp] at hl; cases hl
      exact hok.2.2.1
  · rcases hH i u hi with ⟨rfl, rfl⟩ | ⟨hi', hi2⟩ <;> rcases hH j u' hj with ⟨rfl, rfl⟩ | ⟨hj', hj2⟩
    · exact hij rfl
    · simp [setP, hj'] at pi pj
      have := hg.lt hj2 pj
      omega
    · simp [setP, hi'] at pi pj
      have := hg.lt hi2 pi
      omega
    · simp [setP, hi', hj'] at pi pj
      exact hg.apart i j u u' b s r1 s' r2 hij hi2 hj2 pi pj

theorem after_new {B : Bs} {π : PM} {Z : ZM} {H : Nat → Option AV} {w : World} {nxt : Nat} {rd : List Nat} (hg : Good B π Z H w) (hid : π nxt = none) (v x : AV) (u : Value) (sh : Sh) (r) (o : Obj)
    (hobj : ∀ w' : World, w'.heap[w.heap.size]? = some o → ObjOk (setP π nxt (.at w.heap.size sh r)) Z v (.at w.heap.size sh r) w')
    (hx : V (setP π nxt (.at w.heap.size sh r)) Z x u) :
    After B π Z H nxt x ⟨[(nxt, some v)], rd, 1⟩ u { w with heap := w.heap.push o } :=
  ⟨_, Z, setP_ext hid, fun id l h => by
    unfold setP at h
    split at h
    · rename_i e; subst e; exact .inr ⟨Nat.le_refl _, Nat.lt_succ_self _⟩
    · exact .inl h, hx, good_new hg nxt hid v sh r o hobj⟩

theorem hup_one {H : Nat → Option AV} {id : Nat} {x : Option AV} (j : Nat) : hup H [(id, x)] j = if j = id then x else H j := by
  unfold hup
  simp only [known, lkH]
  by_cases h : j = id
  · subst h; simp
  · have : Nat.beq id j = false := by
      cases hb : Nat.beq id j with
      | false => rfl
      | true => exact absurd (Nat.eq_of_beq_eq_true hb).symm h
    simp [this, h]

theorem setRow_at (w : World) (b : Nat) (arr arr' : Array Value) (e : TypeId) (fr : Nat × Nat) (h : w.heap[b]? = some (.cells arr e fr)) :
    (w.setRow b arr').heap[b]? = some (.cells arr' e fr) ∧ (∀ j, j ≠ b → (w.setRow b arr').heap[j]? = w.heap[j]?) ∧ (w.setRow b arr').heap.size = w.heap.size ∧
      (w.setRow b arr').os = w.os ∧ (w.setRow b arr').tape = w.tape ∧ (w.setRow b arr').output = w.output := by
  refine ⟨setRow_heap w b arr arr' e fr h, fun j hj => ?_, by simp [World.setRow], rfl, rfl, rfl⟩
  simp [World.setRow, Array.getElem?_modify, Ne.symm hj]

/-- A tracked block is written, its shape kept. -/
theorem good_set {B : Bs} {π : PM} {Z : ZM} {H : Nat → Option AV} {w : World} (hg : Good B π Z H w) (id : Nat) (v v' : AV) (b : Nat) (sh : Sh) (r) (hH : H id = some v) (hp : π id = some (.at b sh r))
    (arr arr' : Array Value) (e : TypeId) (hb : w.heap[b]? = some (.cells arr e (0, 0)))
    (hobj : ∀ w' : World, w'.heap[b]? = some (.cells arr' e (0, 0)) → Z b = none → ObjOk π Z v' (.at b sh r) w') : Good B π Z (hup H [(id, some v')]) (w.setRow b arr') := by
  obtain ⟨h1, h2, h3, h4, h5, h6⟩ := setRow_at w b arr arr' e (0, 0) hb
  have hZ : Z b = none := by
    obtain ⟨l, hl, hok⟩ := hg.objs id v hH
    rw [hp] at hl; cases hl
    exact hok.2.2.1
  have hH' : ∀ j u, hup H [(id, some v')] j = some u → ∃ u0, H j = some u0 := by
    intro j u h
    rw [hup_one] at h
    split at h
    · rename_i e; subst e; exact ⟨v, hH⟩
    · exact ⟨u, h⟩
  refine hg.step (.refl _ _) h4 h5 h6 (by omega) (fun c o hz => ?_) (fun j u h => ?_) (fun i j u u' c s r1 s' r2 hij hi hj pi pj => ?_) (fun _ _ h => .inl h) (fun j c s r h => .inr ⟨j, s, r, h⟩) (fun c _ hn => h2 c fun e => hn id sh r (by rw [e]; exact hp))
  · have hc : c ≠ b := fun e => by subst e; rw [hZ] at hz; cases hz
    rw [h2 c hc]
    exact hg.zin c o hz
  · rw [hup_one] at h
    split at h
    · rename_i e; subst e
      simp only [Option.some.injEq] at h
      subst h
      exact .inr ⟨_, hp, hobj _ h1 hZ⟩
    · rename_i hj
      refine .inl ⟨h, fun c s r' pj => ?_⟩
      have hc : c ≠ b := fun e => by subst e; exact hg.apart j id u v c s r' sh r hj h hH pj hp
      obtain ⟨l, hl, hok⟩ := hg.objs j u h
      rw [pj] at hl; cases hl
      exact ⟨h2 c hc, hok.2.2.1⟩
  · obtain ⟨u0, hi⟩ := hH' i u hi
    obtain ⟨u1, hj⟩ := hH' j u' hj
    exact hg.apart i j u0 u1 c s r1 s' r2 hij hi hj pi pj

theorem S_oneCell {π : PM} {Z : ZM} {a : AV} {v : Value} (h : S π Z a v) : v.oneCell' = true := by cases h <;> rfl

theorem Cells_oneCell {π : PM} {Z : ZM} {l : List AV} {cs : List Value} (h : Cells π Z l cs) : ∀ v ∈ cs, v.oneCell' = true := by
  intro v hv
  obtain ⟨i, hi, rfl⟩ := List.mem_iff_getElem.1 hv
  have hi' : i < l.length := by rw [← h.1]; exact hi
  exact S_oneCell (h.2 i l[i] cs[i] (List.getElem?_eq_getElem hi') (List.getElem?_eq_getElem hi))

theorem run_isAgg {P : Program} {t : TypeId} {d : TypeDesc} (h : P.underlying t = some d) (w : World) : (isAgg t).run P w = .ok (isAggD d) w := by
  simp only [isAgg, Sem.run_bind, run_underlying h, Result.andThen_ok]
  cases d <;> rfl

theorem run_sizeOf {P : Program} {t : TypeId} {i : TypeInfo} (h : P.info? t = some i) (w : World) : (sizeOf t).run P w = .ok i.size w := by
  simp [sizeOf, typeInfo, h]

theorem cell_of_block {w : World} {b : Nat} {arr : Array Value} {e : TypeId} {fr : Nat × Nat} (h : w.heap[b]? = some (.cells arr e fr)) (o : Nat) : w.cell? ⟨b, o, none⟩ = arr[o]? := by
  simp [World.cell?, h]

theorem add_at (b o j : Nat) : (⟨b, o, none⟩ : Addr).add j = ⟨b, o + j, none⟩ := by unfold Addr.add; split <;> simp_all

/-- A variable is read, cell by cell. -/
theorem run_loadVar_cells {P : Program} {t : TypeId} {ti : TI} (ht : TyOk P t ti) (w : World) (A : Addr) (cs : List Value) (hA : A.spot = none) (hsz : cs.length = ti.size)
    (hc : ∀ i v, cs[i]? = some v → w.cell? ⟨A.block, A.off + i, none⟩ = some v) (h1 : isAggD ti.desc = false → ∃ v, cs = [v]) :
    (loadVar t A).run P w = .ok (if isAggD ti.desc then .agg cs.toArray else cs.headD undef) w := by
  obtain ⟨i, hi, hs, _, _⟩ := ht.info
  obtain ⟨b, o, sp⟩ := A
  simp only at hA; subst hA
  simp only [loadVar, Sem.run_bind, run_isAgg ht.und, Result.andThen_ok]
  cases hd : isAggD ti.desc with
  | true =>
    have hl := run_loadCells_list (P := P) w ⟨b, o, none⟩ cs (fun j v hv => by rw [add_at]; exact hc j v hv)
    simp [run_sizeOf hi, hs, ← hsz, hl]
  | false =>
    obtain ⟨v, rfl⟩ := h1 hd
    have := hc 0 v rfl
    simp only [Nat.add_zero] at this
    simp [load, Sem.run, this]

/-- A variable is written. -/
theorem run_storeVar_cells {P : Program} {t : TypeId} {ti : TI} (ht : TyOk P t ti) (w : World) (b o : Nat) (u : Value) (arr : Array Value) (e : TypeId) (hsz : u.cells.toList.length = ti.size)
    (hb : w.heap[b]? = some (.cells arr e (0, 0))) (ho : o + ti.size ≤ arr.size) (h1 : ∀ v ∈ u.cells.toList, v.oneCell' = true) :
    (storeVar t ⟨b, o, none⟩ u).run P w = .ok () (w.setRow b (arr.toList.take o ++ u.cells.toList ++ arr.toList.drop (o + ti.size)).toArray) := by
  obtain ⟨i, hi, hs, _, _⟩ := ht.info
  have hu : u.cells.size = i.size := by rw [hs]; simpa using hsz
  have hr := run_storeCells_at (P := P) b o e u.cells.toList 0 arr w hb (by rw [hsz]; omega) h1
  rw [Nat.add_zero, hsz] at hr
  simp only [storeVar, Sem.run_bind, run_sizeOf hi, Result.andThen_ok, hu, ne_eq, not_true_eq_false, if_false]
  simpa using hr

end Go.Ax

/- The operations, one by one: moves, reads, writes, new variables. -/
namespace Go.Ax
open Go

section
variable {P : Program} {tt : Tab} {ct : Specs} {st : St} {o : Oper} {K : KV} {B : Bs} {π : PM} {Z : ZM} {w : World} {ρ : Operand → Value}

abbrev Sound1 (P : Program) (st : St) (o : Oper) (K : KV) : Prop := ∃ v e, K v e ∧ OpS P st o v e

theorem s_move (x : Operand) (ho : o.op = .move x) (h : opA tt ct st (.move x) K) : Sound1 P st o K := by
  refine ⟨_, _, h, fun B π Z H w ρ hρ hg _ _ => ?_⟩
  have : (execOp ρ o).run P w = .ok (.value (ρ x)) w := by simp [execOp, ho]
  rw [this]
  exact after_no hg (hρ x (by simp [ho, Op.operands]))

theorem s_assign (x : Operand) (ho : o.op = .assign x) (h : opA tt ct st (.assign x) K) : Sound1 P st o K := by
  refine ⟨_, _, h, fun B π Z H w ρ hρ hg _ _ => ?_⟩
  have : (execOp ρ o).run P w = .ok (.value (ρ x)) w := by simp [execOp, ho]
  rw [this]
  exact after_no hg (hρ x (by simp [ho, Op.operands]))

theorem V_bool {b : Bool} {v : Value} (h : V π Z (.bool b) v) : v = .bool b := by
  simp only [V, VA, isAggA] at h
  simp at h
  cases h; rfl

theorem V_int {k : IntKind} {n : Int} {v : Value} (h : V π Z (.int k n) v) : v = .int k n ∧ rng k n := by
  simp only [V, VA, isAggA] at h
  simp at h
  cases h; exact ⟨rfl, ‹_›⟩

theorem V_str {s : ByteArray} {v : Value} (h : V π Z (.str s) v) : v = .string s ∧ s.size ≤ maxLen := by
  simp only [V, VA, isAggA] at h
  simp at h
  cases h; exact ⟨rfl, ‹_›⟩

theorem V_sc {a : AV} {v : Value} (hs : isSc a = true) : V π Z a v ↔ S π Z a v := by
  cases a <;> simp [isSc] at hs <;> simp [V, VA, isAggA]

theorem V_sc' {a : AV} {v : Value} (hs : (isAggA a || (a matches .tup _) || (a matches .un)) = false) : V π Z a v ↔ S π Z a v := by
  cases a <;> simp [isAggA] at hs <;> simp [V, VA, isAggA]

theorem V_VA {a : AV} {v : Value} (h1 : a ≠ .un) (h2 : ∀ l, a ≠ .tup l) : V π Z a v ↔ VA π Z a v := by
  cases a <;> first | (exact absurd rfl h1) | (exact absurd rfl (h2 _)) | exact Iff.rfl

theorem VA_V {a : AV} {v : Value} (h : VA π Z a v) : V π Z a v := by
  cases a <;> first | trivial | exact h

theorem kn_of (hk : KnOk st) {c : Operand} {b : Bool} (h : (match c with | .tmp t => knl st.kn t | _ => none) = some b) : evalA st c = .bool b := by
  cases c <;> simp at h
  exact hk _ _ h

theorem s_pick (c a b : Operand) (ho : o.op = .pick c a b) (hk : KnOk st) (h : opA tt ct st (.pick c a b) K) : Sound1 P st o K := by
  have key : ∀ (y : Bool), evalA st c = .bool y → K (cond y (evalA st a) (evalA st b)) .no → Sound1 P st o K := by
    intro y hy hK
    refine ⟨_, _, hK, fun B π Z H w ρ hρ hg _ _ => ?_⟩
    have hc := hρ c (by simp [ho, Op.operands])
    rw [hy] at hc
    have hc' := V_bool hc
    have : (execOp ρ o).run P w = .ok (.value (if y then ρ a else ρ b)) w := by simp [execOp, ho, hc', asBool]
    rw [this]
    refine after_no hg ?_
    cases y
    · simpa using hρ b (by simp [ho, Op.operands])
    · simpa using hρ a (by simp [ho, Op.operands])
  simp only [Chk, Bnd, Str, Kn, Drw, opA] at h
  split at h
  · rename_i e; exact key true (kn_of hk e) h
  · rename_i e; exact key false (kn_of hk e) h
  · split at h
    · rename_i v e
      cases v
      · exact key false e (h.2 rfl)
      · exact key true e (h.1 rfl)
    · exact h.elim

theorem fits_ok {t : TypeId} {v : AV} (hT : TabOk P tt) (h : fitsT tt t v = true) : ∃ ti, TyOk P t ti ∧ sizeA v = ti.size ∧ isAggD ti.desc = isAggA v := by
  unfold fitsT at h
  split at h
  · rename_i ti hti
    simp at h
    exact ⟨ti, hT t ti hti, h.1, h.2⟩
  · cases h

/-- A tracked object by its pointer. -/
theorem ptr_inv {id : Nat} {p : List Step} {v : AV} {u : Value} {H : Nat → Option AV} (hg : Good B π Z H w) (hH : H id = some v) (h : V π Z (.ptr id p) u) :
    ∃ b sh r o' t, π id = some (.at b sh r) ∧ sh.off p = some (o', t) ∧ u = .pointer (some ⟨b, o', none⟩) ∧ HasSh v sh ∧ ObjOk π Z v (.at b sh r) w := by
  rw [V_sc rfl] at h
  cases h with
  | ptr _ _ b sh r o' t h1 h2 =>
    obtain ⟨l, hl, hok⟩ := hg.objs id v hH
    rw [h1] at hl; cases hl
    exact ⟨b, sh, r, o', t, h1, h2, rfl, hok.1, hok⟩

theorem take_cells {arr : Array Value} {cs : List Value} (h : arr.toList.take cs.length = cs) : ∀ (i : Nat) (v : Value), cs[i]? = some v → arr[i]? = some v := by
  intro i v hv
  rw [← h, List.getElem?_take] at hv
  split at hv
  · simpa using hv
  · cases hv

theorem take_len {arr : Array Value} {cs : List Value} (h : arr.toList.take cs.length = cs) : cs.length ≤ arr.size := by
  have := congrArg List.length h
  simp at this
  omega

/-- The cells of a part of a tracked object. -/
theorem part_cells {v : AV} {b : Nat} {sh : Sh} {r} {p : List Step} {o' : Nat} {t : Sh} (hok : ObjOk π Z v (.at b sh r) w) (ho : sh.off p = some (o', t)) :
    ∃ cs : List Value, WfA (proj v p) ∧ Cells π Z (flat (proj v p)) cs ∧ (∀ i u, cs[i]? = some u → w.cell? ⟨b, o' + i, none⟩ = some u) := by
  obtain ⟨h1, _, _, cs, arr, e, h4, h5, h6, _⟩ := hok
  obtain ⟨g1, g2, g3⟩ := proj_ok p v sh o' t h1 ho
  refine ⟨(cs.drop o').take t.size, ⟨t, g1⟩, by rw [← g3]; exact (h6.drop o').take t.size, fun i u hu => ?_⟩
  rw [cell_of_block h4]
  rw [List.getElem?_take] at hu
  split at hu
  · rw [List.getElem?_drop] at hu
    exact take_cells h5 _ _ hu
  · cases hu

/-- A whole variable, read. -/
theorem load_of {t : TypeId} {v : AV} {ti : TI} (ht : TyOk P t ti) (hs : sizeA v = ti.size) (ha : isAggD ti.desc = isAggA v) (hw : WfA v) (A : Addr) (hA : A.spot = none) (cs : List Value) (hc : Cells π Z (flat v) cs)
    (hm : ∀ i u, cs[i]? = some u → w.cell? ⟨A.block, A.off + i, none⟩ = some u) : ∃ u, (loadVar t A).run P w = .ok u w ∧ VA π Z v u := by
  have hl : cs.length = ti.size := by rw [hc.1, hw.size, hs]
  refine ⟨_, run_loadVar_cells ht w A cs hA hl hm (fun hd => ?_), ?_⟩
  · rw [ha] at hd
    obtain ⟨u, hu, _⟩ := VA.of_cell hd hc
    exact ⟨u, hu⟩
  · cases hd : isAggA v with
    | true => rw [ha, hd]; exact VA.of_cells hw hd hc
    | false =>
      obtain ⟨u, hu, hva⟩ := VA.of_cell hd hc
      rw [ha, hd, hu]
      simpa using hva

theorem withR_inv {v : AV} {K : AV → Prop} (h : withR v K) (hr : ∀ k z, v = .int k z → rng k z) : K v ∧ v ≠ .un := by
  cases v <;> simp only [Chk, Bnd, Str, Kn, Drw, withR] at h
  case int k z => exact ⟨h _ rfl (hr k z rfl), by simp⟩
  all_goals exact ⟨h, by simp⟩

theorem rng_of_VA {v : AV} {u : Value} (h : VA π Z v u) : ∀ k z, v = .int k z → rng k z := by
  intro k z e
  subst e
  exact (V_int (VA_V h)).2

theorem notTup {v : AV} (h : WfA v) : ∀ l, v ≠ .tup l := by
  intro l e; subst e; obtain ⟨s, hs⟩ := h; simp [HasSh] at hs

theorem notUn {v : AV} (h : WfA v) : v ≠ .un := by
  intro e; subst e; obtain ⟨s, hs⟩ := h; simp [HasSh] at hs

theorem rp_inv {v : AV} {u : Value} {H : Nat → Option AV} (hg : Good B π Z H w) (h : V π Z (.rp v) u) :
    ∃ A cs, u = .pointer (some A) ∧ A.spot = none ∧ WfA v ∧ Cells π Z (flat v) cs ∧ ∀ i x, cs[i]? = some x → w.cell? ⟨A.block, A.off + i, none⟩ = some x := by
  rw [V_sc rfl] at h
  cases h with
  | rp _ A us h1 h2 h3 h4 =>
    refine ⟨A, (List.range (flat v).length).map us, rfl, h2, h1, ⟨by simp, fun i a x ha hx => ?_⟩, fun i x hx => ?_⟩
    · have hi : i < (flat v).length := (List.getElem?_eq_some_iff.1 ha).1
      simp [List.getElem?_map, List.getElem?_range hi] at hx
      subst hx
      exact h4 i a ha
    · have hi : i < (flat v).length := by
        have := (List.getElem?_eq_some_iff.1 hx).1
        simpa using this
      simp [List.getElem?_map, List.getElem?_range hi] at hx
      subst hx
      have hz := h3 i _ (List.getElem?_eq_getElem hi)
      unfold zcell at hz
      cases hzb : Z A.block with
      | none => simp [hzb] at hz
      | some o =>
        have hb := hg.zin _ _ hzb
        cases o <;> simp [hzb] at hz
        rename_i arr e fr
        rw [cell_of_block hb]
        exact hz.2

theorem s_load (t : TypeId) (a : Operand) (ho : o.op = .load t a) (hT : TabOk P tt) (hρ : ∀ x ∈ o.op.operands.toList, V π Z (evalA st x) (ρ x)) (hg : Good B π Z (lkH st.heap) w)
    (h : opA tt ct st (.load t a) K) : Sound1 P st o K := by
  have hmem : a ∈ o.op.operands.toList := by simp [ho, Op.operands]
  simp only [Chk, Bnd, Str, Kn, Drw, opA] at h
  split at h
  · rename_i id p he
    split at h
    · rename_i v hv
      obtain ⟨hf, hw⟩ := h
      obtain ⟨ti, ht, hs, ha⟩ := fits_ok hT hf
      have key : ∀ (B : Bs) (π : PM) (Z : ZM) (H : Nat → Option AV) (w : World) (u : Value), Good B π Z H w → H id = some v → V π Z (.ptr id p) u →
          ∃ x, (Instr.loadAt t u).run P w = .ok x w ∧ VA π Z (proj v p) x := by
        intro B π Z H w u hg hH hu
        obtain ⟨b, sh, r, o', t', h1, h2, rfl, h3, hok⟩ := ptr_inv hg hH hu
        obtain ⟨cs, g1, g2, g3⟩ := part_cells hok h2
        obtain ⟨x, hx, hva⟩ := load_of ht hs ha g1 ⟨b, o', none⟩ rfl cs g2 g3
        exact ⟨x, by simpa [Instr.loadAt, Instr.sureAddr] using hx, hva⟩
      have h0 := hρ a hmem
      rw [he] at h0
      obtain ⟨x, _, hva⟩ := key B π Z _ w _ hg hv h0
      obtain ⟨hK, hun⟩ := withR_inv hw (rng_of_VA hva)
      refine ⟨_, _, hK, fun B π Z H w ρ hρ hg hrd _ => ?_⟩
      have h1 := hρ a hmem
      rw [he] at h1
      obtain ⟨x, hx, hva⟩ := key B π Z H w _ hg ((hrd id (by simp [Eff.reads])).trans hv) h1
      have : (execOp ρ o).run P w = .ok (.value x) w := by simp [execOp, ho, hx]
      rw [this]
      exact after_same hg (VA_V hva)
    · exact h.elim
  · rename_i v he
    obtain ⟨hf, hw⟩ := h
    obtain ⟨ti, ht, hs, ha⟩ := fits_ok hT hf
    have key : ∀ (B : Bs) (π : PM) (Z : ZM) (H : Nat → Option AV) (w : World) (u : Value), Good B π Z H w → V π Z (.rp v) u →
        ∃ x, (Instr.loadAt t u).run P w = .ok x w ∧ VA π Z v x := by
      intro B π Z H w u hg hu
      obtain ⟨A, cs, rfl, g0, g1, g2, g3⟩ := rp_inv hg hu
      obtain ⟨x, hx, hva⟩ := load_of ht hs ha g1 A g0 cs g2 g3
      exact ⟨x, by simpa [Instr.loadAt, Instr.sureAddr] using hx, hva⟩
    have h0 := hρ a hmem
    rw [he] at h0
    obtain ⟨x, _, hva⟩ := key B π Z _ w _ hg h0
    obtain ⟨hK, hun⟩ := withR_inv hw (rng_of_VA hva)
    refine ⟨_, _, hK, fun B π Z H w ρ hρ hg _ _ => ?_⟩
    have h1 := hρ a hmem
    rw [he] at h1
    obtain ⟨x, hx, hva⟩ := key B π Z H w _ hg h1
    have : (execOp ρ o).run P w = .ok (.value x) w := by simp [execOp, ho, hx]
    rw [this]
    exact after_no hg (VA_V hva)
  · exact h.elim

theorem WfA_of_V {a : AV} {v : Value} (h : V π Z a v) (h1 : a ≠ .un) (h2 : ∀ l, a ≠ .tup l) : WfA a ∧ Cells π Z (flat a) v.cells.toList :=
  ((V_VA h1 h2).1 h).cells

theorem shEq_notUn {a b : AV} (h : shEq a b) : b ≠ .un ∧ ∀ l, b ≠ .tup l := by
  constructor
  · intro e; subst e; cases a <;> simp [shEq] at h
  · intro l e; subst e; cases a <;> simp [shEq] at h

theorem splice_take {α : Type} (A X : List α) (o k n : Nat) (hX : X.length = k) (hk : o + k ≤ n) (hn : n ≤ A.length) :
    (A.take o ++ X ++ A.drop (o + k)).take n = (A.take n).take o ++ X ++ (A.take n).drop (o + k) := by
  rw [List.take_take, show min o n = o by omega, List.drop_take, List.take_append, List.take_of_length_le (l := A.take o ++ X) (by simp; omega)]
  congr 2
  simp; omega

theorem rowN_sh {v u : AV} {s : Sh} (h : HasSh v s) (h' : HasSh u s) : rowOf v = rowOf u := by
  cases s <;> cases v <;> simp only [HasSh] at h <;> cases u <;> simp only [HasSh] at h' <;> simp [rowOf] <;> omega

theorem s_store (t : TypeId) (a x : Operand) (ho : o.op = .store t a x) (hT : TabOk P tt) (h : opA tt ct st (.store t a x) K) : Sound1 P st o K := by
  have hmem : a ∈ o.op.operands.toList := by simp [ho, Op.operands]
  have hmemx : x ∈ o.op.operands.toList := by simp [ho, Op.operands]
  simp only [Chk, Bnd, Str, Kn, Drw, opA] at h
  split at h
  · rename_i id p he
    split at h
    · rename_i v hv
      obtain ⟨hf, hse, hK⟩ := h
      obtain ⟨ti, ht, hs, ha⟩ := fits_ok hT hf
      refine ⟨_, _, hK, fun B π Z H w ρ hρ hg hrd _ => ?_⟩
      have hH := (hrd id (by simp)).trans hv
      have h1 := hρ a hmem
      rw [he] at h1
      have h2 := hρ x hmemx
      obtain ⟨n1, n2⟩ := shEq_notUn hse
      obtain ⟨hwx, hcx⟩ := WfA_of_V h2 n1 n2
      obtain ⟨b, sh, r, o', t', hp, hoff, hu, hsh, hok⟩ := ptr_inv hg hH h1
      obtain ⟨g1, g2, g3⟩ := proj_ok p v sh o' t' hsh hoff
      have hxs := shEq_ok _ _ t' hse g1 hwx
      obtain ⟨k1, k2⟩ := upd_ok p v (evalA st x) sh o' t' hsh hoff hxs
      have htsz : t'.size = ti.size := by rw [← hs, sizeA_eq _ _ hxs]
      obtain ⟨_, _, _, cs, arr, e, h4, h5, h6, h7⟩ := hok
      have hlen : cs.length = sh.size := by rw [h6.1, flat_len v sh hsh]
      have hle := take_len h5
      have hxl : (ρ x).cells.toList.length = ti.size := by rw [hcx.1, hwx.size, hs]
      have hrun := run_storeVar_cells (P := P) ht w b o' (ρ x) arr e hxl h4 (by omega) (Cells_oneCell hcx)
      have : (execOp ρ o).run P w = .ok .skip (w.setRow b (arr.toList.take o' ++ (ρ x).cells.toList ++ arr.toList.drop (o' + ti.size)).toArray) := by
        simp only [execOp, ho, Instr.storeAt, Instr.sureAddr, hu, Sem.run_bind, Sem.run_pure, Result.andThen_ok, hrun]
      rw [this]
      refine ⟨π, Z, .refl _ _, fun _ _ h => .inl h, trivial, good_set hg id v _ b sh r hH hp arr _ e h4 (fun w' hw' hZ => ?_)⟩
      refine ⟨k1, ⟨sh, k1⟩, hZ, cs.take o' ++ (ρ x).cells.toList ++ cs.drop (o' + ti.size), _, e, hw', ?_, ?_, ?_⟩
      ·
        have hxl' : (ρ x).cells.size = ti.size := by simpa using hxl
        have hl : (cs.take o' ++ (ρ x).cells.toList ++ cs.drop (o' + ti.size)).length = cs.length := by simp [hxl']; omega
        rw [hl]
        exact (splice_take arr.toList (ρ x).cells.toList o' ti.size cs.length hxl (by omega) (by simpa using hle)).trans (by rw [h5])
      · rw [k2, htsz]
        exact ((h6.take o').append hcx).append (h6.drop _)
      · cases r with
        | none => trivial
        | some q =>
          obtain ⟨n, cap, e', sz⟩ := q
          obtain ⟨q1, q2, q3, q4, q5, q6⟩ := h7
          have hxl' : (ρ x).cells.size = ti.size := by simpa using hxl
          refine ⟨q1, ?_, q3, q4, ?_, ?_⟩
          · rw [← q2]; simp [hxl']; omega
          · rw [← q5]; exact rowN_sh k1 hsh
          · rw [← q6]; simp [hxl']; omega
    · exact h.elim
  · exact h.elim

end
end Go.Ax

/- The operations, one by one: new variables, numbers, parts. -/
namespace Go.Ax
open Go

section
variable {P : Program} {tt : Tab} {ct : Specs} {st : St} {o : Oper} {K : KV} {B : Bs} {π : PM} {Z : ZM} {w : World} {ρ : Operand → Value}

theorem VA0 {a : AV} {v : Value} (h : VA (fun _ => none) (fun _ => none) a v) : VA π Z a v :=
  h.ext ⟨fun _ _ e => (by cases e), fun _ _ e => (by cases e)⟩

/-- A new boxed variable. -/
theorem after_box {H : Nat → Option AV} {nxt : Nat} (hg : Good B π Z H w) (hfr : ∀ id, nxt ≤ id → id < nxt + 1 → π id = none) {v : AV} {u : Value} (hv : VA π Z v u) (t : TypeId) :
    After B π Z H nxt (.ptr nxt []) ⟨[(nxt, some v)], [], 1⟩ (.pointer (some ⟨w.heap.size, 0, none⟩)) { w with heap := w.heap.push (.cells u.cells t (0, 0)) } := by
  have hn := hfr nxt (Nat.le_refl _) (Nat.lt_succ_self _)
  obtain ⟨⟨sh, hsh⟩, hc⟩ := hv.cells
  have hx := setP_ext (Z := Z) (l := .at w.heap.size sh none) hn
  refine after_new hg hn v _ _ sh none _ (fun w' hw' => ⟨hsh, ⟨sh, hsh⟩, ?_, u.cells.toList, u.cells, t, hw', List.take_length, hc.ext hx, trivial⟩) ?_
  · cases hz : Z w.heap.size with
    | none => rfl
    | some q => exact absurd (hg.zlt hz) (Nat.lt_irrefl _)
  · rw [V_sc rfl]
    exact .ptr nxt [] w.heap.size sh none 0 sh (by simp [setP]) (by cases sh <;> rfl)

theorem zero_ok {t : TypeId} {ti : TI} (ht : TyOk P t ti) (hz : okZ ti.zero = true) : ∃ i zv, P.info? t = some i ∧ i.size = ti.size ∧ i.bytes = ti.bytes ∧ i.zero = some zv ∧ VA (fun _ => none) (fun _ => none) ti.zero zv ∧ sizeA ti.zero = ti.size := by
  obtain ⟨i, hi, h1, h2, h3⟩ := ht.info
  rcases h3 with h3 | ⟨zv, h3, h4, h5⟩
  · rw [h3] at hz; cases hz
  · exact ⟨i, zv, hi, h1, h2, h3, h4, h5⟩

theorem s_alloc (t : TypeId) (ho : o.op = .alloc t) (hT : TabOk P tt) (h : opA tt ct st (.alloc t) K) : Sound1 P st o K := by
  simp only [Chk, Bnd, Str, Kn, Drw, opA] at h
  split at h
  · rename_i ti hti
    obtain ⟨hz, hK⟩ := h
    obtain ⟨i, zv, hi, _, _, hzv, hva, _⟩ := zero_ok (hT t ti hti) hz
    refine ⟨_, _, hK, fun B π Z H w ρ hρ hg hrd hfr => ?_⟩
    have : (execOp ρ o).run P w = .ok (.value (.pointer (some ⟨w.heap.size, 0, none⟩))) { w with heap := w.heap.push (.cells zv.cells t (0, 0)) } := by
      simp [execOp, ho, Instr.alloc, zeroValue, typeInfo, hi, hzv, newVar, newRow, newObj, Sem.run]
    rw [this]
    exact after_box hg hfr (VA0 hva) t
  · exact h.elim

theorem VA_notUn {a : AV} {v : Value} (h : VA π Z a v) : a ≠ .un ∧ ∀ l, a ≠ .tup l := by
  have := h.cells.1
  exact ⟨notUn this, notTup this⟩

theorem okV_ok {a : AV} (h : okV a = true) : a ≠ .un ∧ ∀ l, a ≠ .tup l := by
  constructor
  · intro e; subst e; cases h
  · intro l e; subst e; cases h

theorem s_box (t : TypeId) (x : Operand) (ho : o.op = .box t x) (h : opA tt ct st (.box t x) K) : Sound1 P st o K := by
  simp only [Chk, Bnd, Str, Kn, Drw, opA, Bool.and_eq_true] at h
  obtain ⟨⟨_, hv⟩, hK⟩ := h
  have hno := okV_ok hv
  refine ⟨_, _, hK, fun B π Z H w ρ hρ hg hrd hfr => ?_⟩
  have hv := (V_VA hno.1 hno.2).1 (hρ x (by simp [ho, Op.operands]))
  have : (execOp ρ o).run P w = .ok (.value (.pointer (some ⟨w.heap.size, 0, none⟩))) { w with heap := w.heap.push (.cells (ρ x).cells t (0, 0)) } := by
    simp [execOp, ho, Instr.box, newVar, newRow, newObj, Sem.run]
  rw [this]
  exact after_box hg hfr hv t

theorem s_nilCheck (x : Operand) (ho : o.op = .nilCheck x) (h : opA tt ct st (.nilCheck x) K) : Sound1 P st o K := by
  have hmem : x ∈ o.op.operands.toList := by simp [ho, Op.operands]
  simp only [Chk, Bnd, Str, Kn, Drw, opA] at h
  split at h
  · rename_i id p he
    refine ⟨_, _, h, fun B π Z H w ρ hρ hg _ _ => ?_⟩
    have h1 := hρ x hmem
    rw [he] at h1
    have h2 := (V_sc rfl).1 h1
    have : (execOp ρ o).run P w = .ok (.value (ρ x)) w := by
      cases hx : ρ x <;> rw [hx] at h2 <;> cases h2
      simp [execOp, ho, hx]
    rw [this]
    exact after_no hg h1
  · rename_i v he
    refine ⟨_, _, h, fun B π Z H w ρ hρ hg _ _ => ?_⟩
    have h1 := hρ x hmem
    rw [he] at h1
    have h2 := (V_sc rfl).1 h1
    have : (execOp ρ o).run P w = .ok (.value (ρ x)) w := by
      cases hx : ρ x <;> rw [hx] at h2 <;> cases h2
      simp [execOp, ho, hx]
    rw [this]
    exact after_no hg h1
  · exact h.elim

theorem wrap_i8 (n : Int) : IntKind.i8.wrap n = (n + 128) % 256 - 128 := by
  simp [IntKind.wrap, IntKind.bits, IntKind.signed]; split <;> omega
theorem wrap_i16 (n : Int) : IntKind.i16.wrap n = (n + 32768) % 65536 - 32768 := by
  simp [IntKind.wrap, IntKind.bits, IntKind.signed]; split <;> omega

theorem rng_wrap (k : IntKind) (n : Int) : rng k (k.wrap n) := by
  cases k <;> simp only [rng, wrap_i8, wrap_i16, IntKind.wrap_i32, IntKind.wrap_i64, IntKind.wrap_u8, IntKind.wrap_u16, IntKind.wrap_u32, IntKind.wrap_u64] <;> omega

theorem rng_tmod (k : IntKind) (x y : Int) (h : rng k x) : rng k (x.tmod y) := by
  have h1 : (x.tmod y).natAbs ≤ x.natAbs := by rw [Int.natAbs_tmod]; exact Nat.mod_le _ _
  have h2 : 0 ≤ x → 0 ≤ x.tmod y := fun h => Int.tmod_nonneg _ h
  have h3 : x ≤ 0 → x.tmod y ≤ 0 := fun h => by
    have := Int.tmod_nonneg (a := -x) y (by omega)
    rw [Int.neg_tmod] at this
    omega
  cases k <;> simp only [rng] at * <;> omega

theorem rng_fdiv (k : IntKind) (x : Int) (m : Nat) (h : rng k x) : rng k (x.fdiv (2 ^ m)) := by
  have hp : (0 : Int) < 2 ^ m := Int.pow_pos (by omega)
  rw [Int.fdiv_eq_ediv_of_nonneg _ (by omega)]
  have h1 : 0 ≤ x → 0 ≤ x / 2 ^ m := fun h => Int.ediv_nonneg h (by omega)
  have h2 : 0 ≤ x → x / 2 ^ m ≤ x := fun h => Int.ediv_le_self _ h
  have h3 : x < 0 → x ≤ x / 2 ^ m := fun h => by
    have hx : x * 2 ^ m ≤ x := by
      have := Int.mul_le_mul_of_nonpos_left (a := x) (b := 2 ^ m) (c := 1) (by omega) (by omega)
      omega
    exact (Int.le_ediv_iff_mul_le hp).2 hx
  have h4 : x < 0 → x / 2 ^ m < 0 := fun h => Int.ediv_neg_of_neg_of_pos h hp
  cases k <;> simp only [rng] at * <;> omega

theorem rng_min (k : IntKind) (x y : Int) (h : rng k x) (h' : rng k y) : rng k (min x y) := by
  cases k <;> simp only [rng] at * <;> omega
theorem rng_max (k : IntKind) (x y : Int) (h : rng k x) (h' : rng k y) : rng k (max x y) := by
  cases k <;> simp only [rng] at * <;> omega

theorem V_mk_int {k : IntKind} {n : Int} (h : rng k n) : V π Z (.int k n) (.int k n) := (V_sc' rfl).2 (.int k n h)

end
end Go.Ax

/- The operations, one by one: equality, arithmetic. -/
namespace Go.Ax
open Go

section
variable {P : Program} {tt : Tab} {ct : Specs} {st : St} {o : Oper} {K : KV} {B : Bs} {π : PM} {Z : ZM} {w : World} {ρ : Operand → Value}

theorem run_part {t : TypeId} {ti : TI} (ht : TyOk P t ti) {a : AV} (ha : isAggD ti.desc = isAggA a) (hw : WfA a) (cs : Array Value) (off : Nat)
    (hc : Cells π Z (flat a) ((cs.toList.drop off).take ti.size)) : ∃ u, (part t cs off).run P w = .ok u w ∧ VA π Z a u := by
  obtain ⟨i, hi, h1, _, _⟩ := ht.info
  cases hd : isAggA a with
  | true =>
    refine ⟨.agg (cs.extract off (off + ti.size)), ?_, ?_⟩
    · simp [part, run_isAgg ht.und, ha, hd, run_sizeOf hi, h1]
    · have : cs.extract off (off + ti.size) = ((cs.toList.drop off).take ti.size).toArray := by
        apply Array.ext'
        simp [List.take_drop, Array.toList_extract]
      rw [this]
      exact VA.of_cells hw hd hc
  | false =>
    obtain ⟨u, hu, hva⟩ := VA.of_cell hd hc
    have hg : cs[off]? = some u := by
      have h0 : ((cs.toList.drop off).take ti.size)[0]? = some u := by rw [hu]; rfl
      rw [List.getElem?_take] at h0
      split at h0
      · simpa using h0
      · cases h0
    exact ⟨u, by simp [part, run_isAgg ht.und, ha, hd, hg], hva⟩

theorem agg_inv {a : AV} {v : Value} (h : VA π Z a v) (hg : isAggA a = true) : ∃ cs : List Value, v = .agg cs.toArray ∧ WfA a ∧ Cells π Z (flat a) cs := by
  unfold VA at h; rw [if_pos hg] at h; exact h

theorem arr_inv {k : IntKind} {n : Nat} {xs : List Int} {v : Value} (h : VA π Z (.arr k n xs) v) : v = .agg (xs.map (Value.int k)).toArray ∧ xs.length = n ∧ ∀ x ∈ xs, rng k x := by
  obtain ⟨cs, rfl, ⟨s, hs⟩, hc⟩ := agg_inv h rfl
  have hl : xs.length = n := by cases s <;> simp only [HasSh] at hs; exact hs.2.2
  have key : ∀ (i : Nat) (x : Int), xs[i]? = some x → cs[i]? = some (.int k x) ∧ rng k x := by
    intro i x hx
    have hi : i < cs.length := by rw [hc.1]; simp [flat]; exact (List.getElem?_eq_some_iff.1 hx).1
    have := hc.2 i (.int k x) cs[i] (by simp [flat, hx]) (List.getElem?_eq_getElem hi)
    generalize hu : cs[i] = u at this
    cases this
    exact ⟨by rw [List.getElem?_eq_getElem hi, hu], ‹_›⟩
  refine ⟨?_, hl, fun x hx => ?_⟩
  · congr 2
    apply List.ext_getElem?
    intro i
    by_cases hi : i < xs.length
    · rw [(key i xs[i] (List.getElem?_eq_getElem hi)).1]; simp [hi]
    · rw [List.getElem?_eq_none (l := cs) (by rw [hc.1]; simp [flat]; omega), List.getElem?_eq_none (by simp; omega)]
  · obtain ⟨i, hi, rfl⟩ := List.mem_iff_getElem.1 hx
    exact (key i _ (List.getElem?_eq_getElem hi)).2

theorem eqItems_ints {e : TypeId} {ti : TI} {k k' : IntKind} (ht : TyOk P e ti) (hd : ti.desc = .int k') (d : Nat) (xs ys : List Int) (n : Nat) (hx : xs.length = n) (hy : ys.length = n) :
    ∀ (m j : Nat), j + m = n → (Op.eqItems (d + 1) e 1 (xs.map (Value.int k)).toArray (ys.map (Value.int k)).toArray (List.range' j m)).run P w = .ok (decide (xs.drop j = ys.drop j)) w := by
  have hu : P.underlying e = some (.int k') := by rw [← hd]; exact ht.und
  intro m
  induction m with
  | zero =>
    intro j hj
    have h1 : xs.drop j = [] := List.drop_eq_nil_of_le (by omega)
    have h2 : ys.drop j = [] := List.drop_eq_nil_of_le (by omega)
    simp [Op.eqItems, List.range', h1, h2]
  | succ m ih =>
    intro j hj
    have hjx : j < xs.length := by omega
    have hjy : j < ys.length := by omega
    have p1 : (part e (xs.map (Value.int k)).toArray (j * 1)).run P w = .ok (.int k xs[j]) w := by
      simp [part, run_isAgg ht.und, hd, isAggD, hjx]
    have p2 : (part e (ys.map (Value.int k)).toArray (j * 1)).run P w = .ok (.int k ys[j]) w := by
      simp [part, run_isAgg ht.und, hd, isAggD, hjy]
    simp only [List.range'_succ, Op.eqItems, Sem.run_bind, p1, p2, Result.andThen_ok, run_equalIn_int w d e k k' _ _ hu]
    have e1 : (decide (xs.drop j = ys.drop j)) = (decide (xs[j] = ys[j]) && decide (xs.drop (j + 1) = ys.drop (j + 1))) := by
      rw [List.drop_eq_getElem_cons hjx, List.drop_eq_getElem_cons hjy]
      simp only [List.cons.injEq, Bool.decide_and]
    have e2 := ih (j + 1) (by omega)
    rw [e1]
    by_cases hxy : xs[j] = ys[j]
    · rw [hxy]
      simp only [beq_self_eq_true, Bool.not_true, Bool.false_eq_true, if_false, e2, decide_true, Bool.true_and]
    · have h0 : (xs[j] == ys[j]) = false := beq_eq_false_iff_ne.2 hxy
      simp only [h0, Bool.not_false, if_true, Sem.run_pure, decide_eq_false hxy, Bool.false_and]

theorem ba_eq (x y : ByteArray) : (x.toList == y.toList) = decide (x = y) := by
  have h : (x.toList = y.toList) ↔ x = y := by
    rw [ByteArray.toList_eq, ByteArray.toList_eq]
    obtain ⟨⟨a⟩⟩ := x
    obtain ⟨⟨b⟩⟩ := y
    simp
  by_cases hxy : x = y
  · subst hxy; simp
  · have : ¬ x.toList = y.toList := fun e => hxy (h.1 e)
    simp [hxy, this]

theorem fits_tab {t : TypeId} {v : AV} (h : fitsT tt t v = true) : ∃ ti, tyOf tt t = some ti ∧ sizeA v = ti.size ∧ isAggD ti.desc = isAggA v := by
  unfold fitsT at h
  split at h
  · rename_i ti hti
    simp at h
    exact ⟨ti, hti, h.1, h.2⟩
  · cases h

theorem WfA.head {x : AV} {xs : List AV} (h : WfA (.st (x :: xs))) : WfA x ∧ WfA (.st xs) := by
  obtain ⟨s, hs⟩ := h
  cases s <;> simp only [HasSh] at hs
  rename_i ss
  cases ss <;> simp only [HasShs] at hs
  rename_i s ss
  exact ⟨⟨s, hs.1⟩, ⟨.st ss, hs.2⟩⟩

theorem eqT_sound (hT : TabOk P tt) : ∀ (n : Nat), (∀ (t : TypeId) (a b : AV) (r : Bool), eqT tt n t a b = some r → ∀ (d : Nat), n < d → ∀ (va vb : Value), VA π Z a va → VA π Z b vb → (Op.equalIn d t va vb).run P w = .ok r w) ∧
    (∀ (fs : List Field) (xs ys : List AV) (off : Nat) (r : Bool), eqT.eqF tt n fs xs ys off = some r → (∀ f ∈ fs, f.name ≠ "_") → ∀ (d : Nat), n < d → ∀ (cs ds : List Value), WfA (.st xs) → WfA (.st ys) →
      Cells π Z (flats xs) (cs.drop off) → Cells π Z (flats ys) (ds.drop off) → (Op.eqFields d cs.toArray ds.toArray fs).run P w = .ok r w) := by
  intro n
  induction n with
  | zero =>
    refine ⟨fun t a b r h => by simp [eqT] at h, ?_⟩
    intro fs xs ys off r h _ d _ cs ds _ _ _ _
    cases fs with
    | nil => cases xs <;> cases ys <;> simp [eqT.eqF] at h; subst h; simp [Op.eqFields]
    | cons f fs =>
      cases xs <;> cases ys <;> simp only [eqT.eqF, eqT, cond] at h
      all_goals first | (cases h; done) | (split at h <;> cases h)
  | succ n ih =>
    obtain ⟨ih1, ih2⟩ := ih
    have first : ∀ (t : TypeId) (a b : AV) (r : Bool), eqT tt (n + 1) t a b = some r → ∀ (d : Nat), n + 1 < d → ∀ (va vb : Value), VA π Z a va → VA π Z b vb → (Op.equalIn d t va vb).run P w = .ok r w := by
      intro t a b r h d hd va vb hva hvb
      obtain ⟨d, rfl⟩ : ∃ e, d = e + 1 := ⟨d - 1, by omega⟩
      cases a
      case bool x =>
        cases b <;> simp only [eqT] at h <;> try (cases h; done)
        split at h
        · rename_i hti
          have hu := (hT _ _ hti).und
          have e1 := V_bool (VA_V hva)
          have e2 := V_bool (VA_V hvb)
          subst e1; subst e2
          cases h
          simpa using run_equalIn_bool w d t _ _ hu
        · cases h
      case int k x =>
        cases b <;> simp only [eqT] at h <;> try (cases h; done)
        rename_i k' y
        split at h
        · rename_i hti
          have hu := (hT _ _ hti).und
          have e1 := (V_int (VA_V hva)).1
          have e2 := (V_int (VA_V hvb)).1
          subst e1; subst e2
          cases hk : kEq k k' with
          | false => rw [hk] at h; cases h
          | true =>
            rw [hk] at h
            have := kEq_eq hk
            subst this
            simp only [cond, Option.some.injEq] at h
            subst h
            rw [run_equalIn_int w d t k _ x y hu]
            rfl
        · cases h
      case str x =>
        cases b <;> simp only [eqT] at h <;> try (cases h; done)
        split at h
        · rename_i y _ _ _ _ _ hti
          have hu := (hT _ _ hti).und
          have e1 := (V_str (VA_V hva)).1
          have e2 := (V_str (VA_V hvb)).1
          subst e1; subst e2
          simp only [Option.some.injEq] at h
          subst h
          rw [run_equalIn_string w d t x y hu, ba_eq]
        · cases h
      case nilp =>
        have e1 : va = .pointer none := by have := (V_sc rfl).1 (VA_V hva); cases this; rfl
        subst e1
        cases b <;> simp only [eqT] at h <;> try (cases h; done)
        all_goals
          split at h
          · rename_i hti
            have hu := (hT _ _ hti).und
            have hb := (V_sc rfl).1 (VA_V hvb)
            simp only [Option.some.injEq] at h
            subst h
            cases hb <;> simp [Op.equalIn, run_underlying hu]
          · cases h
      case ptr id p =>
        have ha := (V_sc rfl).1 (VA_V hva)
        cases b <;> simp only [eqT] at h <;> try (cases h; done)
        split at h
        · rename_i hti
          have hu := (hT _ _ hti).und
          have hb := (V_sc rfl).1 (VA_V hvb)
          simp only [Option.some.injEq] at h
          subst h
          cases hb
          cases ha
          simp [Op.equalIn, run_underlying hu]
        · cases h
      case rp v =>
        have ha := (V_sc rfl).1 (VA_V hva)
        cases b <;> simp only [eqT] at h <;> try (cases h; done)
        split at h
        · rename_i hti
          have hu := (hT _ _ hti).und
          have hb := (V_sc rfl).1 (VA_V hvb)
          simp only [Option.some.injEq] at h
          subst h
          cases hb
          cases ha
          simp [Op.equalIn, run_underlying hu]
        · cases h
      case arr k m xs =>
        cases b <;> simp only [eqT] at h <;> try (cases h; done)
        rename_i k' m' ys
        split at h
        · rename_i len e sz by_ z_ q_ hti
          split at h
          · rename_i kk sz1 b1 z1 q1 hte
            have ht := hT _ _ hti
            have hte := hT _ _ hte
            cases hc : (kEq k k' && Nat.beq m len && Nat.beq m' len && Nat.beq sz1 1) with
            | false => rw [hc] at h; cases h
            | true =>
              rw [hc] at h
              simp only [Bool.and_eq_true] at hc
              obtain ⟨⟨⟨c1, c2⟩, c3⟩, c4⟩ := hc
              have e1 := kEq_eq c1
              have e2 := Nat.eq_of_beq_eq_true c2
              have e3 := Nat.eq_of_beq_eq_true c3
              have e4 := Nat.eq_of_beq_eq_true c4
              subst e1; subst e2; subst e3; subst e4
              simp only [cond, Option.some.injEq] at h
              subst h
              obtain ⟨rfl, hx, _⟩ := arr_inv hva
              obtain ⟨rfl, hy, _⟩ := arr_inv hvb
              obtain ⟨i, hi, hs, _⟩ := hte.info
              rw [run_equalIn_array w d _ _ ht.und hi]
              have hco : P.cellsOf e = 1 := by simp [Program.cellsOf, hi, hs]
              rw [hco]
              obtain ⟨d, rfl⟩ : ∃ x, d = x + 1 := ⟨d - 1, by omega⟩
              have := eqItems_ints (P := P) (w := w) (k := k) hte rfl d xs ys m' hx hy m' 0 (by omega)
              rw [List.range_eq_range']
              simpa using this
          · cases h
        · cases h
      case st xs =>
        cases b <;> simp only [eqT] at h <;> try (cases h; done)
        rename_i ys
        split at h
        · rename_i fs sz1 b1 z1 hti
          have ht := hT _ _ hti
          obtain ⟨q1, q2, q3⟩ := ht.eq rfl
          obtain ⟨cs, rfl, w1, c1⟩ := agg_inv hva rfl
          obtain ⟨ds, rfl, w2, c2⟩ := agg_inv hvb rfl
          have hfo : P.fieldsOf t = fs := by simp [Program.fieldsOf, ht.und]
          rw [run_equalIn_struct w d t _ _ (by rw [hfo]; exact ht.und) q1, hfo]
          exact ih2 fs.toList xs ys 0 r h (q3 fs rfl) d (by omega) cs ds w1 w2 (by simpa [flat] using c1) (by simpa [flat] using c2)
        · cases h
      all_goals (simp only [eqT] at h; cases h)
    refine ⟨first, ?_⟩
    intro fs
    induction fs with
    | nil =>
      intro xs ys off r h _ d _ cs ds _ _ _ _
      cases xs <;> cases ys <;> simp only [eqT.eqF] at h <;> cases h
      simp [Op.eqFields]
    | cons f fs ihf =>
      intro xs ys off r h hne d hd cs ds hwx hwy hcx hcy
      cases xs <;> cases ys <;> simp only [eqT.eqF] at h <;> try (cases h; done)
      rename_i x xs y ys
      cases hc : (Nat.beq f.offset off && fitsT tt f.type x && fitsT tt f.type y) with
      | false => rw [hc] at h; cases h
      | true =>
        rw [hc] at h
        simp only [Bool.and_eq_true] at hc
        obtain ⟨⟨c1, c2⟩, c3⟩ := hc
        have e1 := Nat.eq_of_beq_eq_true c1
        obtain ⟨ti, hti, s1, s2⟩ := fits_tab c2
        obtain ⟨ti', hti', s3, s4⟩ := fits_tab c3
        rw [hti] at hti'
        cases hti'
        have ht := hT _ _ hti
        simp only [cond] at h
        cases hq : eqT tt (n + 1) f.type x y with
        | none => rw [hq] at h; cases h
        | some b =>
          rw [hq] at h
          cases hq2 : eqT.eqF tt (n + 1) fs xs ys (off + sizeA x) with
          | none => rw [hq2] at h; cases h
          | some c =>
            rw [hq2] at h
            simp only [Option.some.injEq] at h
            subst h
            have w1 := hwx.head
            have w2 := hwy.head
            have l1 : (flat x).length = ti.size := by rw [w1.1.size, s1]
            have l2 : (flat y).length = ti.size := by rw [w2.1.size, s3]
            have a1 : Cells π Z (flat x) ((cs.toArray.toList.drop f.offset).take ti.size) := by
              have := hcx.take ti.size
              rw [e1]
              simpa [flats, ← l1] using this
            have a2 : Cells π Z (flat y) ((ds.toArray.toList.drop f.offset).take ti.size) := by
              have := hcy.take ti.size
              rw [e1]
              simpa [flats, ← l2] using this
            obtain ⟨u, hu, vu⟩ := run_part (P := P) (w := w) ht s2 w1.1 cs.toArray f.offset a1
            obtain ⟨v, hv, vv⟩ := run_part (P := P) (w := w) ht s4 w2.1 ds.toArray f.offset a2
            have b1 := hcx.drop ti.size
            have b2 := hcy.drop ti.size
            have hrest := ihf xs ys (off + sizeA x) c hq2 (fun g hg => hne g (by simp [hg])) d hd cs ds w1.2 w2.2
              (by simpa [flats, ← l1, s1, List.drop_drop] using b1) (by simpa [flats, ← l2, s1, List.drop_drop] using b2)
            have hname : f.name ≠ "_" := hne f (by simp)
            have heq := first f.type x y b hq d hd u v vu vv
            simp only [Op.eqFields, hname, ne_eq, not_false_eq_true, if_true, Sem.run_bind, hu, hv, heq, Result.andThen_ok]
            cases b
            · simp
            · simpa using hrest

theorem run_eqGuard {op : BinOp} {t : TypeId} {x y : Operand} {a : AV} {va vb : Value} (hT : TabOk P tt) (ha : VA π Z a va) (hg : eqGd tt t a = true) (hn : a ≠ .nili) :
    (eqGuard op t x y va vb).run P w = .ok () w := by
  have key : op = .eql ∨ op = .neq → (eqGuard op t x y va vb).run P w = .ok () w := by
    intro hop
    cases hd : isAggA a with
    | true =>
      obtain ⟨cs, rfl, _, _⟩ := agg_inv ha hd
      unfold eqGd at hg
      rw [hd] at hg
      simp only at hg
      split at hg
      · rename_i hti
        subst hg
        obtain ⟨_, q2, _⟩ := (hT _ _ hti).eq rfl
        rcases hop with rfl | rfl <;> cases vb <;> simp [eqGuard, q2, program, Sem.run]
      · cases hg
    | false =>
      unfold VA at ha
      rw [hd] at ha
      simp only [Bool.false_eq_true, if_false] at ha
      rcases hop with rfl | rfl <;> cases ha <;> first | (exact absurd rfl hn) | rfl
  cases op <;> first | exact key (.inl rfl) | exact key (.inr rfl) | rfl

/-- What a binary operation comes to, wherever. -/
def BinS (P : Program) (op : BinOp) (t : TypeId) (x y : Operand) (a b v : AV) : Prop :=
  ∀ (π : PM) (Z : ZM) (w : World) (va vb : Value), V π Z a va → V π Z b vb → ∃ u, ((do eqGuard op t x y va vb; binOp op t va vb : Sem Value)).run P w = .ok u w ∧ V π Z v u

theorem eqGuard_int {op : BinOp} {t : TypeId} {x y : Operand} {k k' : IntKind} {a b : Int} : (eqGuard op t x y (.int k a) (.int k' b)).run P w = .ok () w := by
  cases op <;> rfl

theorem eqGuard_str {op : BinOp} {t : TypeId} {x y : Operand} {a b : ByteArray} : (eqGuard op t x y (.string a) (.string b)).run P w = .ok () w := by
  cases op <;> rfl

theorem eq_sound {op : BinOp} {t : TypeId} {x y : Operand} {a b : AV} {r : Bool} (hT : TabOk P tt) (h : eqT tt 20 t a b = some r) (hg : eqGd tt t a = true) (va vb : Value) (ha : V π Z a va) (hb : V π Z b vb) :
    VA π Z a va ∧ VA π Z b vb ∧ (Op.equal t va vb).run P w = .ok r w ∧ (eqGuard op t x y va vb).run P w = .ok () w := by
  have h1 : a ≠ .un ∧ (∀ l, a ≠ .tup l) ∧ a ≠ .nili := by
    refine ⟨?_, ?_, ?_⟩
    · rintro rfl; simp [eqT] at h
    · rintro l rfl; simp [eqT] at h
    · rintro rfl; simp [eqT] at h
  have h2 : b ≠ .un ∧ (∀ l, b ≠ .tup l) := by
    refine ⟨?_, ?_⟩
    · rintro rfl; cases a <;> simp [eqT] at h
    · rintro l rfl; cases a <;> simp [eqT] at h
  have ha' := (V_VA h1.1 h1.2.1).1 ha
  have hb' := (V_VA h2.1 h2.2).1 hb
  exact ⟨ha', hb', (eqT_sound hT 20).1 t a b r h Op.maxDepth (by decide) va vb ha' hb', run_eqGuard hT ha' hg h1.2.2⟩

theorem cmpI_run {op : BinOp} (h : isCmp op = true) (a b : Int) : (Op.intCmp op a b).run P w = .ok (.bool (cmpI op a b)) w := by
  cases op <;> simp [isCmp] at h <;> simp [Op.intCmp, cmpI] <;> rfl

theorem bitsI_run (op : BinOp) (k : IntKind) (a b : Int) (h : op = .and ∨ op = .or ∨ op = .xor ∨ op = .andNot) : (Op.intBits op k a b).run P w = .ok (.int k (bitsI op k a b)) w := by
  rcases h with rfl | rfl | rfl | rfl <;> rfl

theorem rng_bits (op : BinOp) (k : IntKind) (a b : Int) : rng k (bitsI op k a b) := rng_wrap _ _

theorem bin_int {op : BinOp} {t : TypeId} {x y : Operand} {k k' : IntKind} {a b z : Int} (hr : rng k z) (h : ∀ w : World, (binOp op t (.int k a) (.int k' b)).run P w = .ok (.int k z) w) :
    BinS P op t x y (.int k a) (.int k' b) (.int k z) := by
  intro π Z w va vb ha hb
  obtain ⟨rfl, _⟩ := V_int ha
  obtain ⟨rfl, _⟩ := V_int hb
  exact ⟨_, by simp only [Sem.run_bind, eqGuard_int, Result.andThen_ok, h w], V_mk_int hr⟩

theorem bin_cmp {op : BinOp} {t : TypeId} {x y : Operand} {k : IntKind} {a b : Int} (h : isCmp op = true) : BinS P op t x y (.int k a) (.int k b) (.bool (cmpI op a b)) := by
  intro π Z w va vb ha hb
  obtain ⟨rfl, _⟩ := V_int ha
  obtain ⟨rfl, _⟩ := V_int hb
  have : (binOp op t (.int k a) (.int k b)).run P w = .ok (.bool (cmpI op a b)) w := by
    rw [← cmpI_run (P := P) h]
    cases op <;> simp [isCmp] at h <;> simp [binOp]
  exact ⟨_, by simp only [Sem.run_bind, eqGuard_int, Result.andThen_ok, this], (V_sc rfl).2 (.bool _)⟩

def notNum : Value → Bool
  | .int .. | .float .. | .complex .. | .string _ => false
  | _ => true

theorem binOp_eql {t : TypeId} {va vb : Value} (h : notNum va = true) : binOp .eql t va vb = (do pure (.bool (← Op.equal t va vb))) := by
  cases va <;> simp [notNum] at h <;> cases vb <;> rfl

theorem binOp_neq {t : TypeId} {va vb : Value} (h : notNum va = true) : binOp .neq t va vb = (do pure (.bool (!(← Op.equal t va vb)))) := by
  cases va <;> simp [notNum] at h <;> cases vb <;> rfl

theorem notNum_of {a : AV} {va : Value} (h : VA π Z a va) (h1 : ∀ k n, a ≠ .int k n) (h2 : ∀ s, a ≠ .str s) : notNum va = true := by
  unfold VA at h
  cases hd : isAggA a with
  | true =>
    rw [hd] at h
    obtain ⟨cs, rfl, _⟩ := h
    rfl
  | false =>
    rw [hd] at h
    simp only [Bool.false_eq_true, if_false] at h
    cases h <;> first | rfl | (exact absurd rfl (h1 _ _)) | (exact absurd rfl (h2 _))

/-- One binary operation: what it comes to, given what is known of its operands' ranges. -/
theorem binA_sound {op : BinOp} {t : TypeId} {x y : Operand} {a b : AV} {K' : AV → Prop} (hT : TabOk P tt) (h : binA tt op t a b K') (hr : ∀ k n, a = .int k n → rng k n) : ∃ v, K' v ∧ BinS P op t x y a b v := by
  unfold binA Bnd Chk at h
  split at h
  · rename_i k n
    split at h
    · rename_i k' m
      have hr1 := hr k n rfl
      split at h
      · exact ⟨_, h.2 _ rfl (rng_wrap _ _), bin_int (rng_wrap _ _) fun w => by simp [binOp, Op.shift, show ¬ m < 0 by omega]⟩
      · exact ⟨_, h.2 _ rfl (rng_fdiv _ _ _ hr1), bin_int (rng_fdiv _ _ _ hr1) fun w => by simp [binOp, Op.shift, show ¬ m < 0 by omega]⟩
      · rename_i hs1 hs2
        split at h
        · rename_i hk
          have := kEq_eq hk
          subst this
          split at h
          · rename_i hc
            exact ⟨_, h, bin_cmp hc⟩
          · unfold binI Bnd at h
            split at h
            · exact ⟨_, h _ rfl (rng_wrap _ _), bin_int (rng_wrap _ _) fun w => by simp [binOp, Op.intArith]⟩
            · exact ⟨_, h _ rfl (rng_wrap _ _), bin_int (rng_wrap _ _) fun w => by simp [binOp, Op.intArith]⟩
            · exact ⟨_, h _ rfl (rng_wrap _ _), bin_int (rng_wrap _ _) fun w => by simp [binOp, Op.intArith]⟩
            · exact ⟨_, h.2 _ rfl (rng_wrap _ _), bin_int (rng_wrap _ _) fun w => by simp [binOp, Op.intDiv, h.1]⟩
            · exact ⟨_, h.2 _ rfl (rng_tmod _ _ _ hr1), bin_int (rng_tmod _ _ _ hr1) fun w => by simp [binOp, Op.intDiv, h.1]⟩
            · exact ⟨_, h _ rfl (rng_bits _ _ _ _), bin_int (rng_bits _ _ _ _) fun w => by simp [binOp, bitsI_run]⟩
            · exact ⟨_, h _ rfl (rng_bits _ _ _ _), bin_int (rng_bits _ _ _ _) fun w => by simp [binOp, bitsI_run]⟩
            · exact ⟨_, h _ rfl (rng_bits _ _ _ _), bin_int (rng_bits _ _ _ _) fun w => by simp [binOp, bitsI_run]⟩
            · exact ⟨_, h _ rfl (rng_bits _ _ _ _), bin_int (rng_bits _ _ _ _) fun w => by simp [binOp, bitsI_run]⟩
            · exact h.elim
        · exact h.elim
    · exact h.elim
  · rename_i s
    split at h
    · rename_i s'
      split at h
      · refine ⟨_, h, fun π Z w va vb ha hb => ?_⟩
        obtain ⟨rfl, _⟩ := V_str ha
        obtain ⟨rfl, _⟩ := V_str hb
        exact ⟨_, by simp only [Sem.run_bind, eqGuard_str, Result.andThen_ok, binOp, Op.stringOp, Sem.run_pure, ba_eq], (V_sc rfl).2 (.bool _)⟩
      · refine ⟨_, h, fun π Z w va vb ha hb => ?_⟩
        obtain ⟨rfl, _⟩ := V_str ha
        obtain ⟨rfl, _⟩ := V_str hb
        exact ⟨_, by simp only [Sem.run_bind, eqGuard_str, Result.andThen_ok, binOp, Op.stringOp, Sem.run_pure, ba_eq], (V_sc rfl).2 (.bool _)⟩
      · refine ⟨_, h.2, fun π Z w va vb ha hb => ?_⟩
        obtain ⟨rfl, _⟩ := V_str ha
        obtain ⟨rfl, _⟩ := V_str hb
        have hle : ¬ (((s.size + s'.size : Nat) : Int) > IntKind.i64.max) := by have := h.1; simp [IntKind.max, IntKind.signed, IntKind.bits]; omega
        refine ⟨_, by simp only [Sem.run_bind, eqGuard_str, Result.andThen_ok, binOp, Op.stringOp, if_neg hle, Sem.run_pure], (V_sc rfl).2 (.str _ ?_)⟩
        have := h.1
        rw [ByteArray.size_append]
        simp only [maxLen]; omega
      · refine ⟨_, h, fun π Z w va vb ha hb => ?_⟩
        obtain ⟨rfl, _⟩ := V_str ha
        obtain ⟨rfl, _⟩ := V_str hb
        exact ⟨_, by simp only [Sem.run_bind, eqGuard_str, Result.andThen_ok, binOp, Op.stringOp, Sem.run_pure, ba_eq], (V_sc rfl).2 (.bool _)⟩
      · refine ⟨_, h, fun π Z w va vb ha hb => ?_⟩
        obtain ⟨rfl, _⟩ := V_str ha
        obtain ⟨rfl, _⟩ := V_str hb
        exact ⟨_, by simp only [Sem.run_bind, eqGuard_str, Result.andThen_ok, binOp, Op.stringOp, Sem.run_pure, ba_eq], (V_sc rfl).2 (.bool _)⟩
      · refine ⟨_, h, fun π Z w va vb ha hb => ?_⟩
        obtain ⟨rfl, _⟩ := V_str ha
        obtain ⟨rfl, _⟩ := V_str hb
        exact ⟨_, by simp only [Sem.run_bind, eqGuard_str, Result.andThen_ok, binOp, Op.stringOp, Sem.run_pure, ba_eq], (V_sc rfl).2 (.bool _)⟩
      · refine ⟨_, h, fun π Z w va vb ha hb => ?_⟩
        obtain ⟨rfl, _⟩ := V_str ha
        obtain ⟨rfl, _⟩ := V_str hb
        exact ⟨_, by simp only [Sem.run_bind, eqGuard_str, Result.andThen_ok, binOp, Op.stringOp, Sem.run_pure, ba_eq], (V_sc rfl).2 (.bool _)⟩
      · exact h.elim
    · exact h.elim
  · rename_i n1 n2
    have hgen : ∀ (r : Bool), eqT tt 20 t a b = some r → eqGd tt t a = true → BinS P .eql t x y a b (.bool r) ∧ BinS P .neq t x y a b (.bool (!r)) := by
      intro r h1 h2
      constructor
      · intro π Z w va vb ha hb
        obtain ⟨ha', hb', g1, g2⟩ := eq_sound (w := w) (x := x) (y := y) (op := .eql) hT h1 h2 va vb ha hb
        refine ⟨.bool r, ?_, (V_sc rfl).2 (.bool r)⟩
        simp only [Sem.run_bind, g2, Result.andThen_ok, binOp_eql (notNum_of ha' n1 n2), g1, Sem.run_pure]
      · intro π Z w va vb ha hb
        obtain ⟨ha', hb', g1, g2⟩ := eq_sound (w := w) (x := x) (y := y) (op := .neq) hT h1 h2 va vb ha hb
        refine ⟨.bool (!r), ?_, (V_sc rfl).2 (.bool (!r))⟩
        simp only [Sem.run_bind, g2, Result.andThen_ok, binOp_neq (notNum_of ha' n1 n2), g1, Sem.run_pure]
    split at h
    · split at h
      · exact ⟨_, h.2, (hgen _ ‹_› h.1).1⟩
      · exact h.elim
    · split at h
      · exact ⟨_, h.2, (hgen _ ‹_› h.1).2⟩
      · exact h.elim
    · exact h.elim

end
end Go.Ax

/- The operations, one by one: parts, places, lengths. -/
namespace Go.Ax
open Go

section
variable {P : Program} {tt : Tab} {ct : Specs} {st : St} {o : Oper} {K : KV} {B : Bs} {π : PM} {Z : ZM} {w : World} {ρ : Operand → Value}

theorem s_binOp (op : BinOp) (t : TypeId) (x y : Operand) (t' : TypeId) (ho : o.op = .binOp op t x y t') (hT : TabOk P tt) (hρ : ∀ x ∈ o.op.operands.toList, V π Z (evalA st x) (ρ x))
    (h : opA tt ct st (.binOp op t x y t') K) : Sound1 P st o K := by
  have hx : x ∈ o.op.operands.toList := by simp [ho, Op.operands]
  have hy : y ∈ o.op.operands.toList := by simp [ho, Op.operands]
  simp only [Chk, Bnd, Str, Kn, Drw, opA] at h
  obtain ⟨v, hK, hb⟩ := binA_sound (P := P) (x := x) (y := y) hT h (fun k n e => (V_int (e ▸ hρ x hx)).2)
  refine ⟨v, .no, hK, fun B π Z H w ρ hρ hg _ _ => ?_⟩
  obtain ⟨u, hu, hv⟩ := hb π Z w _ _ (hρ x hx) (hρ y hy)
  have : (execOp ρ o).run P w = .ok (.value u) w := by
    have e : execOp ρ o = (do let r ← (do eqGuard op t x y (ρ x) (ρ y); binOp op t (ρ x) (ρ y) : Sem Value); pure (.value r)) := by simp [execOp, ho]
    rw [e, Sem.run_bind, hu]; rfl
  rw [this]
  exact after_no hg hv

theorem s_unOp (op : UnOp) (t : TypeId) (x : Operand) (ho : o.op = .unOp op t x) (h : opA tt ct st (.unOp op t x) K) : Sound1 P st o K := by
  have hx : x ∈ o.op.operands.toList := by simp [ho, Op.operands]
  simp only [Chk, Bnd, Str, Kn, Drw, opA] at h
  split at h
  · rename_i b he
    split at h
    · refine ⟨_, _, h, fun B π Z H w ρ hρ hg _ _ => ?_⟩
      have h1 := hρ x hx
      rw [he] at h1
      have e := V_bool h1
      have : (execOp ρ o).run P w = .ok (.value (.bool (!b))) w := by simp [execOp, ho, e, Op.unary]
      rw [this]
      exact after_no hg ((V_sc rfl).2 (.bool _))
    · exact h.elim
  · rename_i k n he
    split at h
    · refine ⟨_, _, h _ rfl (rng_wrap _ _), fun B π Z H w ρ hρ hg _ _ => ?_⟩
      have h1 := hρ x hx
      rw [he] at h1
      have e := (V_int h1).1
      have : (execOp ρ o).run P w = .ok (.value (.int k (k.wrap (0 - n)))) w := by simp [execOp, ho, e, Op.unary, Op.intArith]
      rw [this]
      exact after_no hg (V_mk_int (rng_wrap _ _))
    · refine ⟨_, _, h _ rfl (rng_bits _ _ _ _), fun B π Z H w ρ hρ hg _ _ => ?_⟩
      have h1 := hρ x hx
      rw [he] at h1
      have e := (V_int h1).1
      have : (execOp ρ o).run P w = .ok (.value (.int k (bitsI .xor k (if k.signed then -1 else k.max) n))) w := by
        simp only [execOp, ho, e, Op.unary, Sem.run_bind, bitsI_run .xor k _ n (.inr (.inr (.inl rfl))), Result.andThen_ok, Sem.run_pure]
      rw [this]
      exact after_no hg (V_mk_int (rng_bits _ _ _ _))
    · exact h.elim
  · exact h.elim

theorem s_extract (x : Operand) (i : Nat) (ho : o.op = .extract x i) (h : opA tt ct st (.extract x i) K) : Sound1 P st o K := by
  have hx : x ∈ o.op.operands.toList := by simp [ho, Op.operands]
  simp only [Chk, Bnd, Str, Kn, Drw, opA] at h
  split at h
  · rename_i vs he
    obtain ⟨hi, hK⟩ := h
    have hi' : i < vs.length := by simpa [Nat.blt_eq] using hi
    refine ⟨_, _, hK, fun B π Z H w ρ hρ hg _ _ => ?_⟩
    have h1 := hρ x hx
    rw [he] at h1
    obtain ⟨us, hu, hl, hc⟩ := h1
    have hget : us[i]? = some (us[i]'(by omega)) := List.getElem?_eq_getElem (by omega)
    have : (execOp ρ o).run P w = .ok (.value (us[i]'(by omega))) w := by simp [execOp, ho, hu, Instr.extract, show i < us.length by omega]
    rw [this]
    refine after_no hg ?_
    have hg1 : vs.getD i .un = vs[i] := by simp [List.getD, hi']
    rw [hg1]
    rcases hc i vs[i] _ (List.getElem?_eq_getElem hi') hget with h0 | h0
    · rw [h0]; trivial
    · exact VA_V h0
  · exact h.elim

/-- A struct's field: its place and its type. -/
theorem fieldOf_ok {t : TypeId} {f : Nat} {fs : List AV} (hT : TabOk P tt) (h : fieldOf tt t f fs = true) : ∃ fds fd ti, P.underlying t = some (.struct fds) ∧ fds[f]? = some fd ∧ fd.offset = sizesTo fs f ∧ f < fs.length ∧
    TyOk P fd.type ti ∧ sizeA (fs.getD f .un) = ti.size ∧ ti.size ≠ 0 ∧ isAggD ti.desc = isAggA (fs.getD f .un) := by
  unfold fieldOf at h
  split at h
  · rename_i fds s b z e hti
    split at h
    · rename_i fd hfd
      simp only [Bool.and_eq_true] at h
      obtain ⟨⟨h1, h2⟩, h3⟩ := h
      split at h3
      · rename_i ti hti2
        simp at h3
        obtain ⟨⟨a1, a2⟩, a3⟩ := h3
        exact ⟨fds, fd, ti, (hT _ _ hti).und, by simpa using hfd, Nat.eq_of_beq_eq_true h1, by simpa [Nat.blt_eq] using h2, hT _ _ hti2, a1, (fun e0 => by rw [e0] at a2; cases a2), a3⟩
      · cases h3
    · cases h
  · cases h

theorem sizesTo_eq : ∀ {fs : List AV} {ss : List Sh} (f : Nat), HasShs fs ss → sizesTo fs f = Sh.sizes (ss.take f)
  | [], [], f, _ => by simp [sizesTo, Sh.sizes]
  | a :: l, s :: ss, f, h => by
    simp only [HasShs] at h
    cases f with
    | zero => simp [sizesTo, Sh.sizes]
    | succ f => simp only [sizesTo, List.take_succ_cons, Sh.sizes, sizeA_eq a s h.1, sizesTo_eq f h.2]

theorem off_snoc : ∀ (p : List Step) (s : Sh) (o : Nat) (t : Sh) (q : List Step) (o' : Nat) (t' : Sh), s.off p = some (o, t) → t.off q = some (o', t') → s.off (p ++ q) = some (o + o', t') := by
  intro p
  induction p with
  | nil =>
    intro s o t q o' t' h h'
    have ho' : some (0, s) = some (o, t) := by rw [← h]; cases s <;> rfl
    simp only [Option.some.injEq, Prod.mk.injEq] at ho'
    obtain ⟨rfl, rfl⟩ := ho'
    simpa using h'
  | cons x p ih =>
    intro s o t q o' t' h h'
    cases x with
    | fld i =>
      cases s <;> simp only [Sh.off, List.cons_append] at h ⊢ <;> try (cases h; done)
      rename_i ss
      cases hs : ss[i]? with
      | none => simp [hs] at h
      | some s' =>
        simp only [hs] at h ⊢
        cases hp : s'.off p with
        | none => simp [hp] at h
        | some r =>
          obtain ⟨o1, t1⟩ := r
          simp only [hp, Option.some.injEq, Prod.mk.injEq] at h
          obtain ⟨rfl, rfl⟩ := h
          rw [ih _ _ _ _ _ _ hp h']
          simp [Nat.add_assoc]
    | idx i =>
      cases s <;> simp only [Sh.off, List.cons_append] at h ⊢ <;> try (cases h; done)
      case ar k n =>
        cases p with
        | nil =>
          simp only [Sh.off] at h
          split at h
          · rename_i hi
            simp only [Option.some.injEq, Prod.mk.injEq] at h
            obtain ⟨rfl, rfl⟩ := h
            cases q with
            | nil =>
              have e : (Sh.num k).off [] = some (0, .num k) := rfl
              rw [e] at h'
              simp only [Option.some.injEq, Prod.mk.injEq] at h'
              obtain ⟨rfl, rfl⟩ := h'
              simp [Sh.off, hi]
            | cons y q => cases y <;> simp [Sh.off] at h'
          · cases h
        | cons y p => simp [Sh.off] at h
      case sq sz n s' =>
        split at h
        · rename_i hi
          rw [if_pos hi]
          cases hp : s'.off p with
          | none => simp [hp] at h
          | some r =>
            obtain ⟨o1, t1⟩ := r
            simp only [hp, Option.some.injEq, Prod.mk.injEq] at h
            obtain ⟨rfl, rfl⟩ := h
            rw [ih _ _ _ _ _ _ hp h']
            simp [Nat.add_assoc]
        · cases h

theorem st_sh {fs : List AV} {s : Sh} (h : HasSh (.st fs) s) : ∃ ss, s = .st ss ∧ HasShs fs ss := by
  cases s <;> simp only [HasSh] at h
  exact ⟨_, rfl, h⟩

theorem off_fld {fs : List AV} {ss : List Sh} {f : Nat} (h : HasShs fs ss) (hf : f < fs.length) : ∃ s', ss[f]? = some s' ∧ (Sh.st ss).off [.fld f] = some (sizesTo fs f, s') := by
  have hf' : f < ss.length := by rw [← h.at.1]; exact hf
  refine ⟨ss[f], List.getElem?_eq_getElem hf', ?_⟩
  simp only [Sh.off, List.getElem?_eq_getElem hf', Nat.add_zero, sizesTo_eq f h]

theorem run_fieldPlace {fd : Field} {ti : TI} (ht : TyOk P fd.type ti) (h0 : ti.size ≠ 0) (b o' : Nat) : (fieldPlace ⟨b, o', none⟩ fd).run P w = .ok ⟨b, o' + fd.offset, none⟩ w := by
  obtain ⟨i, hi, hs, _⟩ := ht.info
  simp only [fieldPlace, Sem.run_bind, run_sizeOf hi, Result.andThen_ok, hs, if_neg h0, Sem.run_pure, add_at]

theorem s_fieldAddr (t : TypeId) (x : Operand) (f : Nat) (ho : o.op = .fieldAddr t x f) (hT : TabOk P tt) (h : opA tt ct st (.fieldAddr t x f) K) : Sound1 P st o K := by
  have hx : x ∈ o.op.operands.toList := by simp [ho, Op.operands]
  simp only [Chk, Bnd, Str, Kn, Drw, opA, fieldAddrA] at h
  split at h
  · rename_i id p he
    split at h
    · rename_i v hv
      split at h
      · rename_i fs hfs
        obtain ⟨hf, hK⟩ := h
        obtain ⟨fds, fd, ti, hu, hfd, hoff, hlt, hty, hsz, hnz, hag⟩ := fieldOf_ok hT hf
        refine ⟨_, _, hK, fun B π Z H w ρ hρ hg hrd _ => ?_⟩
        have h1 := hρ x hx
        rw [he] at h1
        obtain ⟨b, sh, r, o', t', hp, hoff2, hpu, hsh, hok⟩ := ptr_inv hg ((hrd id (by simp [Eff.reads])).trans hv) h1
        obtain ⟨g1, _, _⟩ := proj_ok p v sh o' t' hsh hoff2
        rw [hfs] at g1
        obtain ⟨ss, rfl, hss⟩ := st_sh g1
        obtain ⟨s', _, hs'⟩ := off_fld hss hlt
        have : (execOp ρ o).run P w = .ok (.value (.pointer (some ⟨b, o' + fd.offset, none⟩))) w := by
          simp [execOp, ho, Instr.fieldAt, run_underlying hu, hfd, hpu, Instr.sureAddr, run_fieldPlace hty hnz]
        rw [this]
        refine after_same hg ((V_sc rfl).2 (.ptr id _ b sh r _ s' hp ?_))
        rw [hoff]
        exact off_snoc _ _ _ _ _ _ _ hoff2 hs'
      · exact h.elim
    · exact h.elim
  · rename_i fs he
    obtain ⟨hf, hK⟩ := h
    obtain ⟨fds, fd, ti, hu, hfd, hoff, hlt, hty, hsz, hnz, hag⟩ := fieldOf_ok hT hf
    refine ⟨_, _, hK, fun B π Z H w ρ hρ hg hrd _ => ?_⟩
    have h1 := hρ x hx
    rw [he] at h1
    have h2 := (V_sc rfl).1 h1
    generalize hpu : ρ x = u at h2
    cases h2 with
    | rp _ A us w1 w2 w3 w4 =>
      obtain ⟨s, hs⟩ := w1
      obtain ⟨ss, rfl, hss⟩ := st_sh hs
      obtain ⟨s', hs1, hs'⟩ := off_fld hss hlt
      obtain ⟨pre, post, p1, p2, p3, _⟩ := flats_at f s' hss hs1
      obtain ⟨A1, A2, A3⟩ := A
      simp only at w2; subst w2
      have : (execOp ρ o).run P w = .ok (.value (.pointer (some ⟨A1, A2 + fd.offset, none⟩))) w := by
        simp [execOp, ho, Instr.fieldAt, run_underlying hu, hfd, hpu, Instr.sureAddr, run_fieldPlace hty hnz]
      rw [this]
      have hpre : pre.length = fd.offset := by rw [p2, ← sizesTo_eq f hss, hoff]
      have hcell : ∀ (i : Nat) (a : AV), (flat (fs.getD f .un))[i]? = some a → (flat (.st fs))[fd.offset + i]? = some a := by
        intro i a ha
        have hi := (List.getElem?_eq_some_iff.1 ha).1
        simp only [flat, p1]
        rw [List.append_assoc, List.getElem?_append_right (by omega), hpre, Nat.add_sub_cancel_left, List.getElem?_append_left hi]
        exact ha
      refine after_no hg ((V_sc rfl).2 (.rp _ _ (fun i => us (fd.offset + i)) ⟨s', hss.at.2 f s' hs1⟩ rfl (fun i a ha => ?_) (fun i a ha => w4 _ a (hcell i a ha))))
      have := w3 _ a (hcell i a ha)
      unfold zcell at this ⊢
      simp only [Nat.add_assoc] at this ⊢
      exact this
  · exact h.elim

theorem s_field (t : TypeId) (x : Operand) (f : Nat) (ho : o.op = .field t x f) (hT : TabOk P tt) (h : opA tt ct st (.field t x f) K) : Sound1 P st o K := by
  have hx : x ∈ o.op.operands.toList := by simp [ho, Op.operands]
  simp only [Chk, Bnd, Str, Kn, Drw, opA] at h
  split at h
  · rename_i fs he
    obtain ⟨hf, hK⟩ := h
    obtain ⟨fds, fd, ti, hu, hfd, hoff, hlt, hty, hsz, hnz, hag⟩ := fieldOf_ok hT hf
    refine ⟨_, _, hK, fun B π Z H w ρ hρ hg hrd _ => ?_⟩
    have h1 := hρ x hx
    rw [he] at h1
    obtain ⟨cs, hcs, ⟨s, hs⟩, hc⟩ := agg_inv ((V_VA (by simp) (by simp)).1 h1) rfl
    obtain ⟨ss, rfl, hss⟩ := st_sh hs
    obtain ⟨s', hs1, hs'⟩ := off_fld hss hlt
    obtain ⟨g1, g2, g3⟩ := proj_ok [.fld f] (.st fs) (.st ss) _ s' hs hs'
    have e1 : proj (.st fs) [.fld f] = fs.getD f .un := by simp [proj]
    rw [e1] at g1 g3
    have hsz' : s'.size = ti.size := by rw [← hsz, sizeA_eq _ _ g1]
    obtain ⟨u, hur, hva⟩ := run_part (P := P) (w := w) hty hag ⟨s', g1⟩ cs.toArray fd.offset (by
      have := (hc.drop (sizesTo fs f)).take s'.size
      rw [g3] at this
      rw [hoff, ← hsz']
      exact this)
    have : (execOp ρ o).run P w = .ok (.value u) w := by
      simp [execOp, ho, Instr.field, run_underlying hu, hfd, hcs, asAgg, hur]
    rw [this]
    exact after_no hg (VA_V hva)
  · exact h.elim

end
end Go.Ax

/- The operations, one by one: elements and slices. -/
namespace Go.Ax
open Go

section
variable {P : Program} {tt : Tab} {ct : Specs} {st : St} {o : Oper} {K : KV} {B : Bs} {π : PM} {Z : ZM} {w : World} {ρ : Operand → Value}

theorem beq0 {n : Nat} (h : (!(Nat.beq n 0)) = true) : 0 < n := by
  cases n with
  | zero => simp at h
  | succ n => exact Nat.succ_pos n

theorem fitE_ok {t : TypeId} {sz : Nat} (hT : TabOk P tt) (h : fitE tt t sz = true) : ∃ e te, P.underlying t = some (.slice e) ∧ TyOk P e te ∧ te.size = sz ∧ 0 < sz := by
  unfold fitE at h
  split at h
  · rename_i te hte
    simp only [Bool.and_eq_true] at h
    unfold elemT elemId at hte
    split at hte
    · rename_i e he
      split at he
      · rename_i _ _ _ _ hti
        cases he
        exact ⟨e, te, (hT _ _ hti).und, hT _ _ hte, Nat.eq_of_beq_eq_true h.1, beq0 h.2⟩
      · cases he
    · cases hte
  · cases h

theorem fitA_ok {t : TypeId} {n sz : Nat} (hT : TabOk P tt) (h : fitA tt t n sz = true) : ∃ e te, P.underlying t = some (.array n e) ∧ TyOk P e te ∧ te.size = sz ∧ 0 < sz ∧ n ≤ 9223372036854775807 := by
  unfold fitA at h
  split at h
  · rename_i len e _ _ _ _ hti
    split at h
    · rename_i te hte
      simp only [Bool.and_eq_true] at h
      have h2 := Nat.eq_of_beq_eq_true h.1.2
      subst h2
      exact ⟨e, te, (hT _ _ hti).und, hT _ _ hte, Nat.eq_of_beq_eq_true h.1.1.1, beq0 h.1.1.2, Nat.le_of_ble_eq_true h.2⟩
    · cases h
  · cases h

theorem run_indexAt_slice {t e : TypeId} {te : TI} (hu : P.underlying t = some (.slice e)) (he : TyOk P e te) (A : Addr) (len cap : Nat) (k : IntKind) (i : Int) (h : 0 ≤ i ∧ i < (len : Int)) :
    (Instr.indexAt t (.slice (some A) len cap) (.int k i)).run P w = .ok (.pointer (some (A.add (i.toNat * te.size)))) w := by
  obtain ⟨j, hj, hs, _⟩ := he.info
  simp only [Instr.indexAt, asIntOf, Sem.run_bind, Sem.run_pure, Result.andThen_ok, run_underlying hu, if_pos h, run_sizeOf hj, hs]

theorem run_indexAt_array {t e : TypeId} {te : TI} {len : Nat} (hu : P.underlying t = some (.array len e)) (he : TyOk P e te) (A : Addr) (k : IntKind) (i : Int) (h : 0 ≤ i ∧ i < (len : Int)) :
    (Instr.indexAt t (.pointer (some A)) (.int k i)).run P w = .ok (.pointer (some (A.add (i.toNat * te.size)))) w := by
  obtain ⟨j, hj, hs, _⟩ := he.info
  simp only [Instr.indexAt, asIntOf, Sem.run_bind, Sem.run_pure, Result.andThen_ok, run_underlying hu, Instr.sureAddr, if_pos h, run_sizeOf hj, hs]

theorem rowOf_sh {v : AV} {sh : Sh} {n sz : Nat} (h : HasSh v sh) (hr : rowOf v = some (n, sz)) : (∃ k, sh = .ar k n ∧ sz = 1) ∨ ∃ s, sh = .sq sz n s := by
  cases v <;> simp only [rowOf] at hr <;> try (cases hr; done)
  · cases hr
    cases sh <;> simp only [HasSh] at h
    obtain ⟨rfl, rfl, _⟩ := h
    exact .inl ⟨_, rfl, rfl⟩
  · cases hr
    cases sh <;> simp only [HasSh] at h
    obtain ⟨rfl, rfl, _⟩ := h
    exact .inr ⟨_, rfl⟩

theorem rowOf_N {v : AV} {n sz : Nat} (hr : rowOf v = some (n, sz)) : rowN v = some n := by
  cases v <;> simp only [rowOf] at hr <;> cases hr <;> rfl

theorem off_idx {sh : Sh} {n sz i : Nat} (h : (∃ k, sh = .ar k n ∧ sz = 1) ∨ ∃ s, sh = .sq sz n s) (hi : i < n) : ∃ t, sh.off [.idx i] = some (i * sz, t) := by
  rcases h with ⟨k, rfl, rfl⟩ | ⟨s, rfl⟩
  · exact ⟨.num k, by simp [Sh.off, hi]⟩
  · exact ⟨s, by simp [Sh.off, hi]⟩

theorem flat_seq_at {sz n : Nat} {f : Nat → AV} (h : WfA (.seq sz n f)) {i : Nat} (hi : i < n) : WfA (f i) ∧ (flat (f i)).length = sz ∧ ∀ (j : Nat) (a : AV), (flat (f i))[j]? = some a → (flat (.seq sz n f))[i * sz + j]? = some a := by
  obtain ⟨s, hs⟩ := h
  cases s <;> simp only [HasSh] at hs
  obtain ⟨rfl, rfl, hsz, hf⟩ := hs
  have hl := (flat_len _ _ (hf i hi)).trans hsz
  refine ⟨⟨_, hf i hi⟩, hl, fun j a ha => ?_⟩
  obtain ⟨pre, post, h1, h2, h3, _⟩ := flatMap_at f _ _ i hi (fun j hj => (flat_len _ _ (hf j hj)).trans hsz)
  have hj := (List.getElem?_eq_some_iff.1 ha).1
  simp only [flat, h1]
  rw [List.append_assoc, List.getElem?_append_right (by omega), h2, Nat.add_sub_cancel_left, List.getElem?_append_left hj]
  exact ha

theorem zcell_spot {A : Addr} {i : Nat} {v : Value} (h : zcell Z A i = some v) : A.spot = none := by
  unfold zcell at h
  split at h
  · split at h
    · cases h
    · rename_i hs; simpa using hs
  · cases h

/-- One element of read-only memory. -/
theorem rp_elem {v x : AV} {A : Addr} {us : Nat → Value} (h3 : ∀ (i : Nat) (a : AV), (flat v)[i]? = some a → zcell Z A i = some (us i)) (h4 : ∀ (i : Nat) (a : AV), (flat v)[i]? = some a → S π Z a (us i))
    (off : Nat) (hw : WfA x) (hne : 0 < (flat x).length) (hx : ∀ (j : Nat) (a : AV), (flat x)[j]? = some a → (flat v)[off + j]? = some a) : V π Z (.rp x) (.pointer (some (A.add off))) := by
  have hsp : A.spot = none := by
    have h0 := h3 _ _ (hx 0 _ (List.getElem?_eq_getElem hne))
    exact zcell_spot h0
  obtain ⟨b, o, sp⟩ := A
  simp only at hsp; subst hsp
  rw [add_at]
  refine (V_sc rfl).2 (.rp x _ (fun j => us (off + j)) hw rfl (fun j a ha => ?_) (fun j a ha => h4 _ a (hx j a ha)))
  have := h3 _ a (hx j a ha)
  unfold zcell at this ⊢
  simp only [Nat.add_assoc] at this ⊢
  exact this

theorem arr_at {k : IntKind} {n : Nat} {xs : List Int} (h : WfA (.arr k n xs)) {i : Nat} (hi : i < n) : ∀ (j : Nat) (a : AV), (flat (.int k (xs.getD i 0)))[j]? = some a → (flat (.arr k n xs))[i + j]? = some a := by
  obtain ⟨s, hs⟩ := h
  cases s <;> simp only [HasSh] at hs
  intro j a ha
  cases j with
  | zero =>
    simp [flat] at ha
    subst ha
    have hi' : i < xs.length := by omega
    simp [flat, hi']
  | succ j => simp [flat] at ha

theorem arr_len {k : IntKind} {n : Nat} {xs : List Int} (h : WfA (.arr k n xs)) : xs.length = n := by
  obtain ⟨s, hs⟩ := h
  cases s <;> simp only [HasSh] at hs
  exact hs.2.2

theorem toNat_lt {i : Int} {n : Nat} (h : 0 ≤ i ∧ i < (n : Int)) : i.toNat < n := by omega

theorem s_indexAddr (t : TypeId) (x i : Operand) (ho : o.op = .indexAddr t x i) (hT : TabOk P tt) (h : opA tt ct st (.indexAddr t x i) K) : Sound1 P st o K := by
  have hx : x ∈ o.op.operands.toList := by simp [ho, Op.operands]
  have hi : i ∈ o.op.operands.toList := by simp [ho, Op.operands]
  simp only [Chk, Bnd, Str, Kn, Drw, opA] at h
  split at h
  · rename_i ki n hie
    have hrunS : ∀ (π : PM) (Z : ZM) (w : World) (ρ : Operand → Value) (e : TypeId) (te : TI) (A : Addr) (len cap : Nat), ρ x = .slice (some A) len cap → V π Z (.int ki n) (ρ i) → P.underlying t = some (.slice e) → TyOk P e te →
        (0 ≤ n ∧ n < (len : Int)) → (execOp ρ o).run P w = .ok (.value (.pointer (some (A.add (n.toNat * te.size))))) w := by
      intro π Z w ρ e te A len cap hu hv hue hte hb
      have e := (V_int hv).1
      simp [execOp, ho, hu, e, run_indexAt_slice hue hte A len cap ki n hb]
    have hrunA : ∀ (π : PM) (Z : ZM) (w : World) (ρ : Operand → Value) (e : TypeId) (te : TI) (A : Addr) (len : Nat), ρ x = .pointer (some A) → V π Z (.int ki n) (ρ i) → P.underlying t = some (.array len e) → TyOk P e te →
        (0 ≤ n ∧ n < (len : Int)) → (execOp ρ o).run P w = .ok (.value (.pointer (some (A.add (n.toNat * te.size))))) w := by
      intro π Z w ρ e te A len hu hv hue hte hb
      have e := (V_int hv).1
      simp [execOp, ho, hu, e, run_indexAt_array hue hte A ki n hb]
    unfold indexAddrA Chk Bnd at h
    split at h
    · -- rs arr
      rename_i k m xs he
      obtain ⟨hf, hb, hK⟩ := h
      obtain ⟨e, te, hu, hte, hsz, _⟩ := fitE_ok hT hf
      refine ⟨_, _, hK _ rfl, fun B π Z H w ρ hρ hg _ _ => ?_⟩
      have h1 := hρ x hx
      rw [he] at h1
      have h2 := hρ i hi
      rw [hie] at h2
      have h3 := (V_sc rfl).1 h1
      generalize hpu : ρ x = u at h3
      cases h3 with
      | rsNil _ q1 q2 => simp [rowN] at q1; omega
      | rs _ A nn cap us q1 q2 q3 q4 q5 q6 =>
        simp [rowN] at q1; subst q1
        rw [hrunS π Z w ρ e te A _ cap hpu h2 hu hte hb, hsz, Nat.mul_one]
        exact after_no hg (rp_elem q5 q6 _ ⟨.c, trivial⟩ (by simp [flat]) (arr_at q2 (toNat_lt hb)))
    · -- rs seq
      rename_i sz m f he
      obtain ⟨hf, hb, hK⟩ := h
      obtain ⟨e, te, hu, hte, hsz, hpos⟩ := fitE_ok hT hf
      refine ⟨_, _, hK _ rfl, fun B π Z H w ρ hρ hg _ _ => ?_⟩
      have h1 := hρ x hx
      rw [he] at h1
      have h2 := hρ i hi
      rw [hie] at h2
      have h3 := (V_sc rfl).1 h1
      generalize hpu : ρ x = u at h3
      cases h3 with
      | rsNil _ q1 q2 => simp [rowN] at q1; omega
      | rs _ A nn cap us q1 q2 q3 q4 q5 q6 =>
        simp [rowN] at q1; subst q1
        obtain ⟨f1, f2, f3⟩ := flat_seq_at q2 (toNat_lt hb)
        rw [hrunS π Z w ρ e te A _ cap hpu h2 hu hte hb, hsz]
        exact after_no hg (rp_elem q5 q6 _ f1 (by omega) f3)
    · -- rp arr
      rename_i k m xs he
      obtain ⟨hf, hb, hK⟩ := h
      obtain ⟨e, te, hu, hte, hsz, _⟩ := fitA_ok hT hf
      refine ⟨_, _, hK _ rfl, fun B π Z H w ρ hρ hg _ _ => ?_⟩
      have h1 := hρ x hx
      rw [he] at h1
      have h2 := hρ i hi
      rw [hie] at h2
      have h3 := (V_sc rfl).1 h1
      generalize hpu : ρ x = u at h3
      cases h3 with
      | rp _ A us q2 q3 q5 q6 =>
        rw [hrunA π Z w ρ e te A _ hpu h2 hu hte hb, hsz, Nat.mul_one]
        exact after_no hg (rp_elem q5 q6 _ ⟨.c, trivial⟩ (by simp [flat]) (arr_at q2 (toNat_lt hb)))
    · -- rp seq
      rename_i sz m f he
      obtain ⟨hf, hb, hK⟩ := h
      obtain ⟨e, te, hu, hte, hsz, hpos, _⟩ := fitA_ok hT hf
      refine ⟨_, _, hK _ rfl, fun B π Z H w ρ hρ hg _ _ => ?_⟩
      have h1 := hρ x hx
      rw [he] at h1
      have h2 := hρ i hi
      rw [hie] at h2
      have h3 := (V_sc rfl).1 h1
      generalize hpu : ρ x = u at h3
      cases h3 with
      | rp _ A us q2 q3 q5 q6 =>
        obtain ⟨f1, f2, f3⟩ := flat_seq_at q2 (toNat_lt hb)
        rw [hrunA π Z w ρ e te A _ hpu h2 hu hte hb, hsz]
        exact after_no hg (rp_elem q5 q6 _ f1 (by omega) f3)
    · -- ow
      rename_i id eo he
      split at h
      · rename_i v hv
        split at h
        · rename_i m sz hr
          obtain ⟨hf, hb, hK⟩ := h
          obtain ⟨e, te, hu, hte, hsz, hpos⟩ := fitE_ok hT hf
          refine ⟨_, _, hK _ rfl, fun B π Z H w ρ hρ hg hrd _ => ?_⟩
          have h1 := hρ x hx
          rw [he] at h1
          have h2 := hρ i hi
          rw [hie] at h2
          have h3 := (V_sc rfl).1 h1
          generalize hpu : ρ x = u at h3
          obtain ⟨l, hl, hok⟩ := hg.objs id v ((hrd id (by simp [Eff.reads])).trans hv)
          cases h3 with
          | owNil _ _ q1 =>
            rw [q1] at hl; cases hl
            have := hok.1
            rw [rowOf_N hr] at this
            cases this
            omega
          | ow _ b sh nn cap _ sz' q1 =>
            rw [q1] at hl; cases hl
            obtain ⟨k1, k2, k3, cs, arr, e2, k4, k5, k6, k7, k8, k9, k10, k11, k12⟩ := hok
            rw [hr] at k11
            cases k11
            obtain ⟨t', ht'⟩ := off_idx (rowOf_sh k1 hr) (toNat_lt hb)
            rw [hrunS π Z w ρ e te _ _ cap hpu h2 hu hte hb, hsz, add_at, Nat.zero_add]
            exact after_same hg ((V_sc rfl).2 (.ptr id _ b sh _ _ t' q1 ht'))
        · exact h.elim
      · exact h.elim
    · -- sl
      rename_i id p off len he
      split at h
      · rename_i v hv
        split at h
        · rename_i m sz hr
          obtain ⟨hf, hb, hK⟩ := h
          obtain ⟨e, te, hu, hte, hsz, hpos⟩ := fitE_ok hT hf
          refine ⟨_, _, hK _ rfl, fun B π Z H w ρ hρ hg hrd _ => ?_⟩
          have h1 := hρ x hx
          rw [he] at h1
          have h2 := hρ i hi
          rw [hie] at h2
          have h3 := (V_sc rfl).1 h1
          generalize hpu : ρ x = u at h3
          obtain ⟨l, hl, hok⟩ := hg.objs id v ((hrd id (by simp [Eff.reads])).trans hv)
          cases h3 with
          | slNil _ q1 => omega
          | sl _ _ _ _ b sh r o' t' m' sz' cap BB q1 q2 q3 q4 q5 q6 q7 =>
            rw [q1] at hl; cases hl
            have k1 := hok.1
            obtain ⟨g1, _, _⟩ := proj_ok p v sh o' t' k1 q2
            have hs' := rowOf_sh g1 hr
            have hmm : m' = m ∧ sz' = sz := by
              rcases q3 with ⟨k, rfl, rfl⟩ | ⟨s, rfl⟩ <;> rcases hs' with ⟨k', h8, rfl⟩ | ⟨s', h8⟩ <;> cases h8 <;> exact ⟨rfl, rfl⟩
            obtain ⟨rfl, rfl⟩ := hmm
            have hBB := q7 (.inr (by omega))
            subst hBB
            obtain ⟨t2, ht2⟩ := off_idx hs' (show off + n.toNat < m' by have := toNat_lt hb; omega)
            rw [hrunS π Z w ρ e te _ _ cap hpu h2 hu hte hb, hsz, add_at]
            refine after_same hg ((V_sc rfl).2 (.ptr id _ b sh _ _ t2 q1 ?_))
            rw [Nat.add_assoc, ← Nat.add_mul]
            exact off_snoc _ _ _ _ _ _ _ q2 ht2
        · exact h.elim
      · exact h.elim
    · -- ptr
      rename_i id p he
      split at h
      · rename_i v hv
        split at h
        · rename_i m sz hr
          obtain ⟨hf, hb, hK⟩ := h
          obtain ⟨e, te, hu, hte, hsz, hpos, _⟩ := fitA_ok hT hf
          refine ⟨_, _, hK _ rfl, fun B π Z H w ρ hρ hg hrd _ => ?_⟩
          have h1 := hρ x hx
          rw [he] at h1
          have h2 := hρ i hi
          rw [hie] at h2
          obtain ⟨b, sh, r, o', t', hp, hoff, hpu, hsh, hok⟩ := ptr_inv hg ((hrd id (by simp [Eff.reads])).trans hv) h1
          obtain ⟨g1, _, _⟩ := proj_ok p v sh o' t' hsh hoff
          obtain ⟨t2, ht2⟩ := off_idx (rowOf_sh g1 hr) (toNat_lt hb)
          rw [hrunA π Z w ρ e te _ _ hpu h2 hu hte hb, hsz, add_at]
          exact after_same hg ((V_sc rfl).2 (.ptr id _ b sh _ _ t2 hp (off_snoc _ _ _ _ _ _ _ hoff ht2)))
        · exact h.elim
      · exact h.elim
    · exact h.elim
  · exact h.elim

theorem s_index (t : TypeId) (x i : Operand) (ho : o.op = .index t x i) (hT : TabOk P tt) (hρ : ∀ x ∈ o.op.operands.toList, V π Z (evalA st x) (ρ x)) (h : opA tt ct st (.index t x i) K) : Sound1 P st o K := by
  have hx : x ∈ o.op.operands.toList := by simp [ho, Op.operands]
  have hi : i ∈ o.op.operands.toList := by simp [ho, Op.operands]
  simp only [Chk, Bnd, Str, Kn, Drw, opA] at h
  split at h
  · rename_i ki n hie
    split at h
    · rename_i s he
      split at h
      · rename_i sz1 b1 z1 q1 hti
        obtain ⟨hb, hK⟩ := h
        have hu := (hT _ _ hti).und
        have hlt : n.toNat < s.size := toNat_lt hb
        have hbyte : bA s n.toNat = ((s[n.toNat]'hlt).toNat : Int) := by
          unfold bA
          have hl : n.toNat < s.data.toList.length := by simpa using hlt
          simp only [List.getD, List.getElem?_eq_getElem hl, Option.getD_some]
          rfl
        have hr : rng .u8 (bA s n.toNat) := by rw [hbyte]; have := (s[n.toNat]'hlt).toNat_lt; simp only [rng]; omega
        refine ⟨_, _, hK _ rfl _ rfl hr, fun B π Z H w ρ hρ hg _ _ => ?_⟩
        have h1 := hρ x hx
        rw [he] at h1
        have h2 := hρ i hi
        rw [hie] at h2
        have e1 := (V_str h1).1
        have e2 := (V_int h2).1
        have : (execOp ρ o).run P w = .ok (.value (.int .u8 (bA s n.toNat))) w := by
          simp only [execOp, ho, e1, e2, Instr.index, asIntOf, Sem.run_bind, Sem.run_pure, Result.andThen_ok, run_underlying hu, if_pos hb.1, hbyte]
          have : s[n.toNat]? = some (s[n.toNat]'hlt) := getElem?_pos s n.toNat hlt
          simp [this]
        rw [this]
        exact after_no hg (V_mk_int hr)
      · exact h.elim
    · rename_i k m xs he
      split at h
      · rename_i len e sz1 b1 z1 q1 hti
        split at h
        · rename_i te hte
          obtain ⟨hc, hb, hK⟩ := h
          simp only [Bool.and_eq_true, Bool.not_eq_true'] at hc
          obtain ⟨⟨c1, c2⟩, c3⟩ := hc
          have c1 := Nat.eq_of_beq_eq_true c1
          have c2 := Nat.eq_of_beq_eq_true c2
          subst c1
          have hu := (hT _ _ hti).und
          have hty := hT _ _ hte
          have h0 := hρ x hx
          rw [he] at h0
          obtain ⟨_, hlx, hrx⟩ := arr_inv ((V_VA (by simp) (by simp)).1 h0)
          have hlt : n.toNat < xs.length := by rw [hlx]; exact toNat_lt hb
          have hg1 : xs.getD n.toNat 0 = xs[n.toNat] := by simp [List.getD, hlt]
          have hr : rng k (xs.getD n.toNat 0) := by rw [hg1]; exact hrx _ (List.getElem_mem hlt)
          refine ⟨_, _, hK _ rfl _ rfl hr, fun B π Z H w ρ hρ hg _ _ => ?_⟩
          have h1 := hρ x hx
          rw [he] at h1
          have h2 := hρ i hi
          rw [hie] at h2
          obtain ⟨e1, _, _⟩ := arr_inv ((V_VA (by simp) (by simp)).1 h1)
          have e2 := (V_int h2).1
          obtain ⟨j, hj, hs, _⟩ := hty.info
          have : (execOp ρ o).run P w = .ok (.value (.int k (xs.getD n.toNat 0))) w := by
            simp only [execOp, ho, e1, e2, Instr.index, asIntOf, Sem.run_bind, Sem.run_pure, Result.andThen_ok, run_underlying hu, if_pos hb, run_sizeOf hj, hs, c2, Nat.mul_one, part, run_isAgg hty.und, c3]
            simp [hlt]
          rw [this]
          exact after_no hg (V_mk_int hr)
        · exact h.elim
      · exact h.elim
    · exact h.elim
  · exact h.elim

end
end Go.Ax

/- The operations, one by one: slices of slices, lengths. -/
namespace Go.Ax
open Go

section
variable {P : Program} {tt : Tab} {ct : Specs} {st : St} {o : Oper} {K : KV} {B : Bs} {π : PM} {Z : ZM} {w : World} {ρ : Operand → Value}

/-- A bound, told: none, or a number. -/
def BndIs (st : St) (o : Option Operand) (d n : Nat) : Prop := (o = none ∧ n = d) ∨ ∃ x k i, o = some x ∧ evalA st x = .int k i ∧ 0 ≤ i ∧ n = i.toNat

theorem bnd_inv {o : Option Operand} {d : Nat} {K : Nat → Prop} (h : bnd st o d K) : ∃ n, BndIs st o d n ∧ K n := by
  unfold bnd Bnd at h
  split at h
  · exact ⟨d, .inl ⟨rfl, rfl⟩, h⟩
  · rename_i x
    split at h
    · rename_i k i he
      exact ⟨_, .inr ⟨x, k, i, rfl, he, h.1, rfl⟩, h.2 _ rfl⟩
    · exact h.elim

/-- A bound as the machine has it. -/
def BndV (o : Option Value) (d n : Nat) : Prop := (o = none ∧ n = d) ∨ ∃ k i, o = some (.int k i) ∧ 0 ≤ i ∧ n = i.toNat

theorem BndIs.val {o : Option Operand} {d n : Nat} (h : BndIs st o d n) (hρ : ∀ x, o = some x → V π Z (evalA st x) (ρ x)) : BndV (o.map ρ) d n := by
  rcases h with ⟨rfl, rfl⟩ | ⟨x, k, i, rfl, he, h0, rfl⟩
  · exact .inl ⟨rfl, rfl⟩
  · have := hρ x rfl
    rw [he] at this
    exact .inr ⟨k, i, by simp [(V_int this).1], h0, rfl⟩

theorem run_sliceBound {k : IntKind} {i : Int} {y : Nat} {c : BoundsCode} (h0 : 0 ≤ i) (h : i.toNat ≤ y) : (Instr.sliceBound (.int k i) y c).run P w = .ok i.toNat w := by
  have : 0 ≤ i ∧ i ≤ (y : Int) := ⟨h0, by omega⟩
  simp only [Instr.sliceBound, asIntOf, Sem.run_bind, Sem.run_pure, Result.andThen_ok, if_pos this]

theorem run_sliceBounds {isS : Bool} {len cap l h : Nat} {lo hi : Option Value} (hl : BndV lo 0 l) (hh : BndV hi len h) (h1 : l ≤ h) (h2 : h ≤ len) (h3 : len ≤ cap) :
    (Instr.sliceBounds isS len cap lo hi none).run P w = .ok (l, h, cap) w := by
  rcases hh with ⟨rfl, rfl⟩ | ⟨k, i, rfl, h0, rfl⟩
  · rcases hl with ⟨rfl, rfl⟩ | ⟨k', i', rfl, h0', rfl⟩
    · rfl
    · simp [Instr.sliceBounds, run_sliceBound h0' h1]
  · have e1 : i.toNat ≤ cap := by omega
    rcases hl with ⟨rfl, rfl⟩ | ⟨k', i', rfl, h0', rfl⟩
    · simp [Instr.sliceBounds, run_sliceBound h0 e1]
    · simp [Instr.sliceBounds, run_sliceBound h0 e1, run_sliceBound h0' h1]

theorem rs_wf {v : AV} {u : Value} (h : S π Z (.rs v) u) : WfA v := by cases h <;> assumption

/-- A slice's slice. -/
theorem run_slice_slice {t e : TypeId} {te : TI} (hu : P.underlying t = some (.slice e)) (he : TyOk P e te) {a : Option Addr} {len cap l h : Nat} {lo hi : Option Value} (hl : BndV lo 0 l) (hh : BndV hi len h)
    (h1 : l ≤ h) (h2 : h ≤ len) (h3 : len ≤ cap) :
    (Instr.sliceAt t (.slice a len cap) lo hi none).run P w = .ok (.slice (if cap = l then a else a.map (·.add (l * te.size))) (h - l) (cap - l)) w := by
  obtain ⟨j, hj, hs, _⟩ := he.info
  simp only [Instr.sliceAt, Instr.slice, Sem.run_bind, Result.andThen_ok, run_underlying hu, run_sliceBounds hl hh h1 h2 h3, run_sizeOf hj, hs, Sem.run_pure]

theorem run_slice_array {t e : TypeId} {te : TI} {n : Nat} (hu : P.underlying t = some (.array n e)) (he : TyOk P e te) {a : Addr} {l h : Nat} {lo hi : Option Value} (hl : BndV lo 0 l) (hh : BndV hi n h)
    (h1 : l ≤ h) (h2 : h ≤ n) : (Instr.sliceAt t (.pointer (some a)) lo hi none).run P w = .ok (.slice (some (if n = l then a else a.add (l * te.size))) (h - l) (n - l)) w := by
  obtain ⟨j, hj, hs, _⟩ := he.info
  simp only [Instr.sliceAt, Instr.sureAddr, Sem.run_bind, Result.andThen_ok, run_underlying hu, run_sliceBounds hl hh h1 h2 (Nat.le_refl _), run_sizeOf hj, hs, Sem.run_pure]

theorem run_slice_str {t : TypeId} (hu : P.underlying t = some .string) {s : ByteArray} {l h : Nat} {lo hi : Option Value} (hl : BndV lo 0 l) (hh : BndV hi s.size h) (h1 : l ≤ h) (h2 : h ≤ s.size) :
    (Instr.sliceAt t (.string s) lo hi none).run P w = .ok (.string (s.extract l h)) w := by
  simp [Instr.sliceAt, Instr.slice, run_underlying hu, run_sliceBounds hl hh h1 h2 (Nat.le_refl _)]

theorem isStr_ok {t : TypeId} (hT : TabOk P tt) (h : isStr tt t = true) : P.underlying t = some .string := by
  unfold isStr at h
  split at h
  · rename_i hti
    exact (hT _ _ hti).und
  · cases h

/-- Read-only rows, cut. -/
theorem rs_cut {v x : AV} {n sz l h : Nat} {u : Value} (hS : S π Z (.rs v) u) (hv : rowOf v = some (n, sz)) (hx : rowN x = some (h - l)) (hw : WfA x) (h1 : l ≤ h) (h2 : h ≤ n)
    (hc : ∀ (j : Nat) (a : AV), (flat x)[j]? = some a → (flat v)[l * sz + j]? = some a) :
    ∃ a cap, u = .slice a n cap ∧ n ≤ cap ∧ V π Z (.rs x) (.slice (if cap = l then a else a.map (·.add (l * sz))) (h - l) (cap - l)) := by
  have hlen : (flat x).length = 0 ∨ 0 < (flat x).length := by omega
  cases hS with
  | rsNil _ q1 q2 =>
    rw [rowOf_N hv] at q1; cases q1
    have e1 : l = 0 := by omega
    have e2 : h = 0 := by omega
    subst e1; subst e2
    exact ⟨none, 0, rfl, Nat.le_refl _, by simpa using (V_sc rfl).2 (S.rsNil x hx hw)⟩
  | rs _ A nn cap us q1 q2 q3 q4 q5 q6 =>
    rw [rowOf_N hv] at q1; cases q1
    refine ⟨some A, cap, rfl, q3, (V_sc rfl).2 ?_⟩
    have e0 : (if cap = l then some A else (some A).map (·.add (l * sz))) = some (if cap = l then A else A.add (l * sz)) := by split <;> rfl
    rw [e0]
    refine S.rs x _ _ _ (fun j => us (l * sz + j)) hx hw (by omega) (by omega) (fun j a ha => ?_) (fun j a ha => q6 _ a (hc j a ha))
    have hz := q5 _ a (hc j a ha)
    have hsp := zcell_spot hz
    have hjn : cap ≠ l := by
      intro e
      have hi := (List.getElem?_eq_some_iff.1 (hc j a ha)).1
      have hfl : (flat v).length = n * sz := by
        obtain ⟨s, hs⟩ := q2
        rw [flat_len v s hs]
        rcases rowOf_sh hs hv with ⟨k, rfl, rfl⟩ | ⟨s', rfl⟩ <;> simp [Sh.size]
      have : n = l := by omega
      subst this
      omega
    rw [if_neg hjn]
    obtain ⟨b, o, sp⟩ := A
    simp only at hsp; subst hsp
    rw [add_at]
    unfold zcell at hz ⊢
    simp only [Nat.add_assoc] at hz ⊢
    exact hz

theorem arr_cut {k : IntKind} {n l h : Nat} {xs : List Int} (hw : WfA (.arr k n xs)) (h1 : l ≤ h) (h2 : h ≤ n) : WfA (.arr k (h - l) ((xs.drop l).take (h - l))) ∧
    ∀ (j : Nat) (a : AV), (flat (.arr k (h - l) ((xs.drop l).take (h - l))))[j]? = some a → (flat (.arr k n xs))[l * 1 + j]? = some a := by
  have hl := arr_len hw
  refine ⟨⟨.ar k (h - l), rfl, rfl, by simp; omega⟩, fun j a ha => ?_⟩
  simp only [flat, List.getElem?_map, List.getElem?_take] at ha ⊢
  split at ha
  · rw [List.getElem?_drop] at ha
    rw [Nat.mul_one]
    exact ha
  · simp at ha

theorem seq_shift {sz n l m : Nat} {f : Nat → AV} (hw : WfA (.seq sz n f)) (h : l + m ≤ n) : WfA (.seq sz m (fun j => f (l + j))) ∧
    ∀ (j : Nat) (a : AV), (flat (.seq sz m (fun j => f (l + j))))[j]? = some a → (flat (.seq sz n f))[l * sz + j]? = some a := by
  obtain ⟨s, hs⟩ := hw
  cases s <;> simp only [HasSh] at hs
  rename_i sz' n' s
  obtain ⟨rfl, rfl, hsz, hf⟩ := hs
  refine ⟨⟨.sq _ m s, rfl, rfl, hsz, fun j hj => hf _ (by omega)⟩, fun j a ha => ?_⟩
  have hlen : ∀ q, q ≤ n → ((List.range q).flatMap fun j => flat (f j)).length = q * sz := by
    intro q
    induction q with
    | zero => intro _; simp
    | succ q ihq => intro hq; rw [List.range_succ, List.flatMap_append, List.length_append, ihq (by omega)]; simp [(flat_len _ _ (hf q (by omega))).trans hsz, Nat.succ_mul]
  have hsplit : (List.range n).flatMap (fun j => flat (f j)) = (List.range l).flatMap (fun j => flat (f j)) ++ ((List.range m).flatMap (fun j => flat (f (l + j))) ++ (List.range (n - (l + m))).flatMap (fun j => flat (f (l + m + j)))) := by
    have e : n = l + (m + (n - (l + m))) := by omega
    conv => lhs; rw [e]
    rw [List.range_add, List.flatMap_append, List.flatMap_map, List.range_add, List.flatMap_append, List.flatMap_map]
    simp only [Nat.add_assoc]
  simp only [flat] at ha ⊢
  rw [hsplit, List.getElem?_append_right (by rw [hlen l (by omega)]; omega), hlen l (by omega), Nat.add_sub_cancel_left]
  have hj := (List.getElem?_eq_some_iff.1 ha).1
  rw [List.getElem?_append_left hj]
  exact ha

theorem s_slice (t : TypeId) (x : Operand) (lo hi : Option Operand) (ho : o.op = .slice t x lo hi none) (hT : TabOk P tt) (h : opA tt ct st (.slice t x lo hi none) K) : Sound1 P st o K := by
  have hx : x ∈ o.op.operands.toList := by simp [ho, Op.operands]
  have hlo : ∀ y, lo = some y → y ∈ o.op.operands.toList := by rintro y rfl; simp [ho, Op.operands]
  have hhi : ∀ y, hi = some y → y ∈ o.op.operands.toList := by rintro y rfl; simp [ho, Op.operands]
  have hex : ∀ (w : World) (ρ : Operand → Value) (r : Value), (Instr.sliceAt t (ρ x) (lo.map ρ) (hi.map ρ) none).run P w = .ok r w → (execOp ρ o).run P w = .ok (.value r) w := by
    intro w ρ r hr
    simp [execOp, ho, hr]
  simp only [Chk, Bnd, Str, Kn, Drw, opA, sliceA] at h
  split at h
  · -- string
    rename_i s he
    obtain ⟨hstr, h⟩ := h
    obtain ⟨l, hl, h⟩ := bnd_inv h
    obtain ⟨h', hh, ⟨h1, h2⟩, hK⟩ := bnd_inv h
    refine ⟨_, _, hK, fun B π Z H w ρ hρ hg _ _ => ?_⟩
    have q1 := hρ x hx
    rw [he] at q1
    obtain ⟨e1, e2⟩ := V_str q1
    have := run_slice_str (P := P) (w := w) (isStr_ok hT hstr) (s := s) (hl.val fun y hy => hρ y (hlo y hy)) (hh.val fun y hy => hρ y (hhi y hy)) h1 h2
    rw [hex w ρ _ (by rw [e1]; exact this)]
    refine after_no hg ((V_sc rfl).2 (.str _ ?_))
    rw [ByteArray.size_extract]
    omega
  · -- rs arr
    rename_i k n xs he
    obtain ⟨hf, h⟩ := h
    obtain ⟨e, te, hu, hte, hsz, _⟩ := fitE_ok hT hf
    obtain ⟨l, hl, h⟩ := bnd_inv h
    obtain ⟨h', hh, ⟨h1, h2⟩, hK⟩ := bnd_inv h
    refine ⟨_, _, hK, fun B π Z H w ρ hρ hg _ _ => ?_⟩
    have q1 := hρ x hx
    rw [he] at q1
    have q2 := (V_sc rfl).1 q1
    have hw := rs_wf q2
    obtain ⟨c1, c2⟩ := arr_cut hw h1 h2
    obtain ⟨a, cap, hpu, hcap, hv⟩ := rs_cut q2 (sz := 1) rfl rfl c1 h1 h2 c2
    have := run_slice_slice (P := P) (w := w) hu hte (a := a) (cap := cap) (hl.val fun y hy => hρ y (hlo y hy)) (hh.val fun y hy => hρ y (hhi y hy)) h1 h2 hcap
    rw [hex w ρ _ (by rw [hpu]; exact this), hsz]
    exact after_no hg hv
  · -- rs seq
    rename_i sz n f he
    obtain ⟨hf, h⟩ := h
    obtain ⟨e, te, hu, hte, hsz, _⟩ := fitE_ok hT hf
    obtain ⟨l, hl, h⟩ := bnd_inv h
    obtain ⟨h', hh, ⟨h1, h2⟩, hK⟩ := bnd_inv h
    refine ⟨_, _, hK, fun B π Z H w ρ hρ hg _ _ => ?_⟩
    have q1 := hρ x hx
    rw [he] at q1
    have q2 := (V_sc rfl).1 q1
    have hw := rs_wf q2
    obtain ⟨c1, c2⟩ := seq_shift (l := l) (m := h' - l) hw (by omega)
    obtain ⟨a, cap, hpu, hcap, hv⟩ := rs_cut q2 (sz := sz) rfl rfl c1 h1 h2 c2
    have := run_slice_slice (P := P) (w := w) hu hte (a := a) (cap := cap) (hl.val fun y hy => hρ y (hlo y hy)) (hh.val fun y hy => hρ y (hhi y hy)) h1 h2 hcap
    rw [hex w ρ _ (by rw [hpu]; exact this), hsz]
    exact after_no hg hv
  · -- ow
    rename_i id eo he
    split at h
    · rename_i v hv
      split at h
      · rename_i n sz hr
        obtain ⟨hf, h⟩ := h
        obtain ⟨e, te, hu, hte, hsz, _⟩ := fitE_ok hT hf
        obtain ⟨l, hl, h⟩ := bnd_inv h
        obtain ⟨h', hh, ⟨h1, h2⟩, hK⟩ := bnd_inv h
        refine ⟨_, _, hK, fun B π Z H w ρ hρ hg hrd _ => ?_⟩
        have q1 := hρ x hx
        rw [he] at q1
        have q2 := (V_sc rfl).1 q1
        generalize hpu : ρ x = u at q2
        obtain ⟨lc, hlc, hok⟩ := hg.objs id v ((hrd id (by simp [Eff.reads])).trans hv)
        cases q2 with
        | owNil _ _ p1 =>
          rw [p1] at hlc; cases hlc
          have hN := hok.1
          rw [rowOf_N hr] at hN; cases hN
          have e1 : l = 0 := by omega
          have e2 : h' = 0 := by omega
          subst e1; subst e2
          have := run_slice_slice (P := P) (w := w) hu hte (a := none) (cap := 0) (hl.val fun y hy => hρ y (hlo y hy)) (hh.val fun y hy => hρ y (hhi y hy)) h1 h2 (Nat.le_refl _)
          rw [hex w ρ _ (by rw [hpu]; exact this)]
          exact after_same hg ((V_sc rfl).2 (.slNil id p1))
        | ow _ b sh nn cap _ sz' p1 =>
          rw [p1] at hlc; cases hlc
          obtain ⟨k1, k2, k3, cs, arr, e2, k4, k5, k6, k7, k8, k9, k10, k11, k12⟩ := hok
          rw [hr] at k11; cases k11
          have := run_slice_slice (P := P) (w := w) hu hte (a := some ⟨b, 0, none⟩) (cap := cap) (hl.val fun y hy => hρ y (hlo y hy)) (hh.val fun y hy => hρ y (hhi y hy)) h1 h2 k9
          rw [hex w ρ _ (by rw [hpu]; exact this), hsz]
          have e0 : (if cap = l then some (⟨b, 0, none⟩ : Addr) else (some (⟨b, 0, none⟩ : Addr)).map (·.add (l * sz))) = some (if cap = l then ⟨b, 0, none⟩ else ⟨b, 0 + l * sz, none⟩) := by
            split <;> simp [add_at]
          rw [e0]
          have hoff0 : sh.off [] = some (0, sh) := by cases sh <;> rfl
          refine after_same hg ((V_sc rfl).2 (.sl id [] l (h' - l) b sh _ 0 sh n sz (cap - l) _ p1 hoff0 (rowOf_sh k1 hr) (by omega) (by omega) (by omega) (fun hc => ?_)))
          split
          · rename_i hcl
            have : l = 0 := by omega
            subst this; simp
          · rfl
      · exact h.elim
    · exact h.elim
  · -- sl
    rename_i id p off len he
    split at h
    · rename_i v hv
      split at h
      · rename_i n sz hr
        obtain ⟨hf, h⟩ := h
        obtain ⟨e, te, hu, hte, hsz, _⟩ := fitE_ok hT hf
        obtain ⟨l, hl, h⟩ := bnd_inv h
        obtain ⟨h', hh, ⟨h1, h2⟩, hK⟩ := bnd_inv h
        refine ⟨_, _, hK, fun B π Z H w ρ hρ hg hrd _ => ?_⟩
        have q1 := hρ x hx
        rw [he] at q1
        have q2 := (V_sc rfl).1 q1
        generalize hpu : ρ x = u at q2
        obtain ⟨lc, hlc, hok⟩ := hg.objs id v ((hrd id (by simp [Eff.reads])).trans hv)
        cases q2 with
        | slNil _ p1 =>
          have e1 : l = 0 := by omega
          have e2 : h' = 0 := by omega
          subst e1; subst e2
          have := run_slice_slice (P := P) (w := w) hu hte (a := none) (cap := 0) (hl.val fun y hy => hρ y (hlo y hy)) (hh.val fun y hy => hρ y (hhi y hy)) h1 h2 (Nat.le_refl _)
          rw [hex w ρ _ (by rw [hpu]; exact this)]
          exact after_same hg ((V_sc rfl).2 (.slNil id p1))
        | sl _ _ _ _ b sh r o' t' m' sz' cap BB p1 p2 p3 p4 p5 p6 p7 =>
          rw [p1] at hlc; cases hlc
          obtain ⟨g1, _, _⟩ := proj_ok p v sh o' t' hok.1 p2
          have hs' := rowOf_sh g1 hr
          have hmm : m' = n ∧ sz' = sz := by
            rcases p3 with ⟨k, rfl, rfl⟩ | ⟨s, rfl⟩ <;> rcases hs' with ⟨k', h8, rfl⟩ | ⟨s', h8⟩ <;> cases h8 <;> exact ⟨rfl, rfl⟩
          obtain ⟨rfl, rfl⟩ := hmm
          have := run_slice_slice (P := P) (w := w) hu hte (a := some BB) (cap := cap) (hl.val fun y hy => hρ y (hlo y hy)) (hh.val fun y hy => hρ y (hhi y hy)) h1 h2 p5
          rw [hex w ρ _ (by rw [hpu]; exact this), hsz]
          have e0 : (if cap = l then some BB else (some BB).map (·.add (l * sz'))) = some (if cap = l then BB else BB.add (l * sz')) := by split <;> rfl
          rw [e0]
          refine after_same hg ((V_sc rfl).2 (.sl id p (off + l) (h' - l) b sh _ o' t' m' sz' (cap - l) _ p1 p2 p3 (by omega) (by omega) (by omega) (fun hc => ?_)))
          by_cases hcl : cap = l
          · have hl0 : l = 0 := by omega
            have ho0 : off = 0 := by omega
            subst hl0; subst ho0
            rw [if_pos hcl, p7 (.inl rfl)]
          · rw [if_neg hcl, p7 (by omega), add_at, Nat.add_mul]
            simp [Nat.add_assoc]
      · exact h.elim
    · exact h.elim
  · -- nils
    rename_i he
    obtain ⟨hf, h⟩ := h
    obtain ⟨l, hl, h⟩ := bnd_inv h
    obtain ⟨h', hh, ⟨h1, h2⟩, hK⟩ := bnd_inv h
    have e1 : l = 0 := by omega
    have e2 : h' = 0 := by omega
    subst e1; subst e2
    refine ⟨_, _, hK, fun B π Z H w ρ hρ hg _ _ => ?_⟩
    have q1 := hρ x hx
    rw [he] at q1
    have q2 := (V_sc rfl).1 q1
    generalize hpu : ρ x = u at q2
    cases q2
    obtain ⟨te, hte⟩ := Option.isSome_iff_exists.1 hf
    unfold elemT elemId at hte
    split at hte
    · rename_i e hq
      split at hq
      case h_2 => cases hq
      rename_i _ _ _ _ hti
      cases hq
      have := run_slice_slice (P := P) (w := w) (hT _ _ hti).und (hT _ _ hte) (a := none) (cap := 0) (hl.val fun y hy => hρ y (hlo y hy)) (hh.val fun y hy => hρ y (hhi y hy)) h1 h2 (Nat.le_refl _)
      rw [hex w ρ _ (by rw [hpu]; exact this)]
      exact after_no hg ((V_sc rfl).2 .nils)
    · cases hte
  · -- ptr
    rename_i id p he
    split at h
    · rename_i v hv
      split at h
      · rename_i n sz hr
        obtain ⟨hf, h⟩ := h
        obtain ⟨e, te, hu, hte, hsz, _, hmx⟩ := fitA_ok hT hf
        obtain ⟨l, hl, h⟩ := bnd_inv h
        obtain ⟨h', hh, ⟨h1, h2⟩, hK⟩ := bnd_inv h
        refine ⟨_, _, hK, fun B π Z H w ρ hρ hg hrd _ => ?_⟩
        have q1 := hρ x hx
        rw [he] at q1
        obtain ⟨b, sh, r, o', t', hp, hoff, hpu, hsh, hok⟩ := ptr_inv hg ((hrd id (by simp [Eff.reads])).trans hv) q1
        obtain ⟨g1, _, _⟩ := proj_ok p v sh o' t' hsh hoff
        have := run_slice_array (P := P) (w := w) hu hte (a := ⟨b, o', none⟩) (hl.val fun y hy => hρ y (hlo y hy)) (hh.val fun y hy => hρ y (hhi y hy)) h1 h2
        rw [hex w ρ _ (by rw [hpu]; exact this), hsz]
        refine after_same hg ((V_sc rfl).2 (.sl id p l (h' - l) b sh _ o' t' n sz (n - l) _ hp hoff (rowOf_sh g1 hr) (by omega) (by omega) ?_ (fun hc => ?_)))
        · simp only [maxLen]; omega
        · by_cases hcl : n = l
          · have : l = 0 := by omega
            subst this
            rw [if_pos hcl]; simp
          · rw [if_neg hcl, add_at]
      · exact h.elim
    · exact h.elim
  · exact h.elim

end
end Go.Ax

/- The operations, one by one: rows read, lengths, appends. -/
namespace Go.Ax
open Go

section
variable {P : Program} {tt : Tab} {ct : Specs} {st : St} {o : Oper} {K : KV} {B : Bs} {π : PM} {Z : ZM} {w : World} {ρ : Operand → Value}

/-- A slice value of m elements whose cells read as l. -/
def Row (π : PM) (Z : ZM) (w : World) (u : Value) (m sz : Nat) (l : List AV) : Prop :=
  ∃ ao cap, u = .slice ao m cap ∧ m ≤ cap ∧ cap ≤ maxLen ∧ l.length = m * sz ∧ (ao = none → m = 0 ∧ cap = 0) ∧
    ∃ cs : List Value, Cells π Z l cs ∧ ∀ a, ao = some a → ∀ (i : Nat) (x : Value), cs[i]? = some x → w.cell? (a.add i) = some x

theorem flat_row {v : AV} {n sz : Nat} (h : WfA v) (hr : rowOf v = some (n, sz)) : (flat v).length = n * sz := by
  obtain ⟨s, hs⟩ := h
  rw [flat_len v s hs]
  rcases rowOf_sh hs hr with ⟨k, rfl, rfl⟩ | ⟨s', rfl⟩ <;> simp [Sh.size]

theorem row_rs {H : Nat → Option AV} (hg : Good B π Z H w) {v : AV} {n sz : Nat} {u : Value} (hS : S π Z (.rs v) u) (hr : rowOf v = some (n, sz)) : WfA v ∧ Row π Z w u n sz (flat v) := by
  have hw := rs_wf hS
  refine ⟨hw, ?_⟩
  have hl := flat_row hw hr
  cases hS with
  | rsNil _ q1 q2 =>
    rw [rowOf_N hr] at q1; cases q1
    have : flat v = [] := List.eq_nil_of_length_eq_zero (by omega)
    exact ⟨none, 0, rfl, Nat.le_refl _, by simp [maxLen], hl, fun _ => ⟨rfl, rfl⟩, [], by rw [this]; exact Cells.nil, fun a h => by cases h⟩
  | rs _ A nn cap us q1 q2 q3 q4 q5 q6 =>
    rw [rowOf_N hr] at q1; cases q1
    refine ⟨some A, cap, rfl, q3, q4, hl, (fun h => by cases h), (List.range (flat v).length).map us, ⟨by simp, fun i a x ha hx => ?_⟩, fun a ha i x hx => ?_⟩
    · have hi : i < (flat v).length := (List.getElem?_eq_some_iff.1 ha).1
      simp [List.getElem?_map, List.getElem?_range hi] at hx
      subst hx
      exact q6 i a ha
    · cases ha
      have hi : i < (flat v).length := by
        have := (List.getElem?_eq_some_iff.1 hx).1
        simpa using this
      simp [List.getElem?_map, List.getElem?_range hi] at hx
      subst hx
      have hz := q5 i _ (List.getElem?_eq_getElem hi)
      have hsp := zcell_spot hz
      obtain ⟨b, o', sp⟩ := A
      simp only at hsp; subst hsp
      rw [add_at]
      unfold zcell at hz
      cases hzb : Z b with
      | none => simp [hzb] at hz
      | some o =>
        have hb := hg.zin _ _ hzb
        cases o <;> simp [hzb] at hz
        rw [cell_of_block hb]
        exact hz

theorem row_ow {H : Nat → Option AV} (hg : Good B π Z H w) {id e : Nat} {v : AV} {n sz : Nat} {u : Value} (hS : S π Z (.ow id e) u) (hH : H id = some v) (hr : rowOf v = some (n, sz)) :
    WfA v ∧ Row π Z w u n sz (flat v) ∧ (∃ cs : List Value, Cells π Z (flat v) cs ∧ w.ownsRow 0 e sz u n cs) ∧ (∀ b, u.ownBlock = some b → ∃ sh r, π id = some (.at b sh r)) := by
  obtain ⟨l, hl, hok⟩ := hg.objs id v hH
  cases hS with
  | owNil _ _ p1 =>
    rw [p1] at hl; cases hl
    have hN := hok.1
    rw [rowOf_N hr] at hN; cases hN
    have hfl := flat_row hok.2 hr
    have : flat v = [] := List.eq_nil_of_length_eq_zero (by omega)
    refine ⟨hok.2, ⟨none, 0, rfl, Nat.le_refl _, by simp [maxLen], hfl, fun _ => ⟨rfl, rfl⟩, [], by rw [this]; exact Cells.nil, fun a h => by cases h⟩, ⟨[], by rw [this]; exact Cells.nil, by simp [World.ownsRow]⟩, fun b hb => by cases hb⟩
  | ow _ b sh nn cap _ sz' p1 =>
    rw [p1] at hl; cases hl
    obtain ⟨k1, k2, k3, cs, arr, e2, k4, k5, k6, k7, k8, k9, k10, k11, k12⟩ := hok
    subst k7
    rw [hr] at k11; cases k11
    refine ⟨k2, ⟨some ⟨b, 0, none⟩, cap, rfl, k9, k10, flat_row k2 hr, (fun h => by cases h), cs, k6, fun a ha i x hx => ?_⟩, ⟨cs, k6, ?_⟩, fun c hc => ?_⟩
    · cases ha
      rw [add_at, Nat.zero_add, cell_of_block k4]
      exact take_cells k5 i x hx
    · exact ⟨k12, .inr ⟨b, cap, arr, rfl, Nat.zero_le _, k4, k9, k10, k8, by rw [← k12]; exact k5⟩⟩
    · simp [Value.ownBlock] at hc
      subst hc
      exact ⟨_, _, p1⟩

theorem row_sl {H : Nat → Option AV} (hg : Good B π Z H w) {id off len : Nat} {p : List Step} {v : AV} {n sz : Nat} {u : Value} (hS : S π Z (.sl id p off len) u) (hH : H id = some v) (hr : rowOf (proj v p) = some (n, sz)) :
    WfA (proj v p) ∧ (off + len ≤ n ∨ len = 0) ∧ Row π Z w u len sz (((flat (proj v p)).drop (off * sz)).take (len * sz)) := by
  obtain ⟨l, hl, hok⟩ := hg.objs id v hH
  cases hS with
  | slNil _ p1 =>
    rw [p1] at hl; cases hl
    refine ⟨by have : proj v [] = v := by cases v <;> rfl
               rw [this]; exact hok.2, .inr rfl, none, 0, rfl, Nat.le_refl _, by simp [maxLen], by simp, fun _ => ⟨rfl, rfl⟩, [], by simp; exact Cells.nil, fun a h => by cases h⟩
  | sl _ _ _ _ b sh r o' t' m' sz' cap BB q1 q2 q3 q4 q5 q6 q7 =>
    rw [q1] at hl; cases hl
    obtain ⟨g1, _, _⟩ := proj_ok p v sh o' t' hok.1 q2
    have hs' := rowOf_sh g1 hr
    have hmm : m' = n ∧ sz' = sz := by
      rcases q3 with ⟨k, rfl, rfl⟩ | ⟨s, rfl⟩ <;> rcases hs' with ⟨k', h8, rfl⟩ | ⟨s', h8⟩ <;> cases h8 <;> exact ⟨rfl, rfl⟩
    obtain ⟨rfl, rfl⟩ := hmm
    obtain ⟨cs, c1, c2, c3⟩ := part_cells hok q2
    have hfl := flat_row c1 hr
    refine ⟨c1, .inl q4, some BB, cap, rfl, q5, q6, ?_, (fun h => by cases h), (cs.drop (off * sz')).take (len * sz'), (c2.drop _).take _, fun a ha i x hx => ?_⟩
    · have : off * sz' + len * sz' ≤ m' * sz' := by rw [← Nat.add_mul]; exact Nat.mul_le_mul_right _ q4
      simp only [List.length_take, List.length_drop, hfl]
      omega
    · cases ha
      have hi : i < len * sz' := by
        have := (List.getElem?_eq_some_iff.1 hx).1
        simp at this; omega
      have hlen : 0 < len := by
        rcases Nat.eq_zero_or_pos len with h0 | h0
        · subst h0; simp at hi
        · exact h0
      have hBB := q7 (.inr hlen)
      subst hBB
      rw [add_at, Nat.add_assoc]
      apply c3
      rw [List.getElem?_take, if_pos hi, List.getElem?_drop] at hx
      exact hx

/-- A row of numbers, wherever it lies. -/
theorem rowI_inv {x : AV} {K' : IntKind → Nat → List Int → List Nat → Prop} (h : rowI st x K') : ∃ k n xs rd, K' k n xs rd ∧
    ∀ (B : Bs) (π : PM) (Z : ZM) (H : Nat → Option AV) (w : World) (u : Value), Good B π Z H w → (∀ id ∈ rd, H id = lkH st.heap id) → V π Z x u → WfA (.arr k n xs) ∧ Row π Z w u n 1 (xs.map (.int k)) := by
  unfold rowI at h
  split at h
  · rename_i k n xs
    refine ⟨k, n, xs, [], h, fun B π Z H w u hg _ hv => ?_⟩
    exact row_rs hg ((V_sc rfl).1 hv) rfl
  · rename_i id e
    split at h
    · rename_i k n xs hv
      refine ⟨k, n, xs, [id], h, fun B π Z H w u hg hrd hu => ?_⟩
      obtain ⟨h1, h2, _⟩ := row_ow hg ((V_sc rfl).1 hu) ((hrd id (by simp)).trans hv) rfl
      exact ⟨h1, h2⟩
    · exact h.elim
  · rename_i id p off len
    split at h
    · rename_i v hv
      split at h
      · rename_i k n xs hp
        refine ⟨k, len, _, [id], h, fun B π Z H w u hg hrd hu => ?_⟩
        obtain ⟨h1, h2, h3⟩ := row_sl hg ((V_sc rfl).1 hu) ((hrd id (by simp)).trans hv) (n := n) (sz := 1) (by rw [hp]; rfl)
        rw [hp] at h1 h3
        have hl := arr_len h1
        refine ⟨⟨.ar k len, rfl, rfl, by simp; omega⟩, ?_⟩
        simpa [flat, List.map_drop, List.map_take] using h3
      · exact h.elim
    · exact h.elim
  · exact h.elim

theorem Row.len {u : Value} {m sz : Nat} {l : List AV} (h : Row π Z w u m sz l) : ∃ ao cap, u = .slice ao m cap ∧ m ≤ maxLen := by
  obtain ⟨ao, cap, h1, h2, h3, _⟩ := h
  exact ⟨ao, cap, h1, by omega⟩

theorem elemId_ok {t : TypeId} (hT : TabOk P tt) (h : (elemId tt t).isSome = true) : ∃ e, P.underlying t = some (.slice e) := by
  unfold elemId at h
  split at h
  · rename_i e _ _ _ _ hti
    exact ⟨e, (hT _ _ hti).und⟩
  · cases h

theorem run_len_slice {t e ty : TypeId} (hu : P.underlying t = some (.slice e)) {a : Option Addr} {n c : Nat} : (Builtin.len_ #[t] ty #[.slice a n c]).run P w = .ok (.int .i64 n) w := by
  simp only [Builtin.len_, List.getElem?_toArray, List.getElem?_cons_zero, Sem.run_bind, run_underlying hu, Result.andThen_ok, Sem.run_pure, goInt]

theorem run_len_str {t ty : TypeId} (hu : P.underlying t = some .string) {s : ByteArray} : (Builtin.len_ #[t] ty #[.string s]).run P w = .ok (.int .i64 s.size) w := by
  simp only [Builtin.len_, List.getElem?_toArray, List.getElem?_cons_zero, Sem.run_bind, run_underlying hu, Result.andThen_ok, Sem.run_pure, goInt]

theorem lenA_inv {t : TypeId} {x : AV} {K' : Nat → List Nat → Prop} (hT : TabOk P tt) (h : lenA tt t st x K') : ∃ n rd, K' n rd ∧
    ∀ (B : Bs) (π : PM) (Z : ZM) (H : Nat → Option AV) (w : World) (u : Value) (ty : TypeId), Good B π Z H w → (∀ id ∈ rd, H id = lkH st.heap id) → V π Z x u → (Builtin.len_ #[t] ty #[u]).run P w = .ok (.int .i64 n) w ∧ n ≤ maxLen := by
  unfold lenA Chk at h
  split at h
  · rename_i s
    refine ⟨_, _, h.2, fun B π Z H w u ty hg _ hv => ?_⟩
    obtain ⟨rfl, h2⟩ := V_str hv
    exact ⟨run_len_str (isStr_ok hT h.1), h2⟩
  · obtain ⟨e, hu⟩ := elemId_ok hT h.1
    refine ⟨_, _, h.2, fun B π Z H w u ty hg _ hv => ?_⟩
    have := (V_sc rfl).1 hv
    cases this
    exact ⟨run_len_slice hu, by simp [maxLen]⟩
  · rename_i v
    split at h
    · rename_i n sz hr
      obtain ⟨e, hu⟩ := elemId_ok hT h.1
      refine ⟨_, _, h.2, fun B π Z H w u ty hg _ hv => ?_⟩
      obtain ⟨_, h2⟩ := row_rs hg ((V_sc rfl).1 hv) hr
      obtain ⟨ao, cap, rfl, hm⟩ := h2.len
      exact ⟨run_len_slice hu, hm⟩
    · exact h.elim
  · rename_i id e
    split at h
    · rename_i v hv
      split at h
      · rename_i n sz hr
        obtain ⟨e, hu⟩ := elemId_ok hT h.1
        refine ⟨_, _, h.2, fun B π Z H w u ty hg hrd hx => ?_⟩
        obtain ⟨_, h2, _⟩ := row_ow hg ((V_sc rfl).1 hx) ((hrd id (by simp)).trans hv) hr
        obtain ⟨ao, cap, rfl, hm⟩ := h2.len
        exact ⟨run_len_slice hu, hm⟩
      · exact h.elim
    · exact h.elim
  · rename_i id p off len
    obtain ⟨e, hu⟩ := elemId_ok hT h.1
    refine ⟨_, _, h.2, fun B π Z H w u ty hg hrd hx => ?_⟩
    have h1 := (V_sc rfl).1 hx
    cases h1 with
    | slNil _ p1 => exact ⟨run_len_slice hu, by simp [maxLen]⟩
    | sl _ _ _ _ b sh r o' t' m' sz' cap BB q1 q2 q3 q4 q5 q6 q7 => exact ⟨run_len_slice hu, by omega⟩
  · exact h.elim

theorem list_one {α : Type} {a : Array α} {x : α} (h : a.toList = [x]) : a = #[x] := by cases a; simp at h; rw [h]
theorem list_two {α : Type} {a : Array α} {x y : α} (h : a.toList = [x, y]) : a = #[x, y] := by cases a; simp at h; rw [h]

theorem s_len (c : Call) (ho : o.op = .call c) (hc : c.callee = .builtin .len) (hT : TabOk P tt) (hρ : ∀ x ∈ o.op.operands.toList, V π Z (evalA st x) (ρ x)) (hg : Good B π Z (lkH st.heap) w)
    (h : opA tt ct st (.call c) K) : Sound1 P st o K := by
  obtain ⟨callee, args, ats⟩ := c
  simp only at hc; subst hc
  simp only [Chk, Bnd, Str, Kn, Drw, opA, lenArgs] at h
  split at h
  · rename_i x hargs
    split at h
    · rename_i t hts
      have e1 := list_one hargs
      have e2 := list_one hts
      subst e1; subst e2
      have hx : x ∈ o.op.operands.toList := by simp [ho, Op.operands, Call.operands]
      obtain ⟨n, rd, hK, hr⟩ := lenA_inv (P := P) hT h
      have hm := (hr B π Z _ w _ o.type hg (fun _ _ => rfl) (hρ x hx)).2
      refine ⟨_, _, hK _ rfl (by simp only [maxLen] at hm; simp only [rng]; omega), fun B π Z H w ρ hρ hg hrd _ => ?_⟩
      obtain ⟨h1, h2⟩ := hr B π Z H w _ o.type hg hrd (hρ x hx)
      have : (execOp ρ o).run P w = .ok (.value (.int .i64 n)) w := by
        simp [execOp, ho, resolve, invoke, builtin, h1]
      rw [this]
      exact after_same hg (V_mk_int (by simp only [rng]; simp only [maxLen] at h2; omega))
    · exact h.elim
  · exact h.elim

end
end Go.Ax

/- The operations, one by one: appends, makes, conversions. -/
namespace Go.Ax
open Go

section
variable {P : Program} {tt : Tab} {ct : Specs} {st : St} {o : Oper} {K : KV} {B : Bs} {π : PM} {Z : ZM} {w : World} {ρ : Operand → Value}

/-- A row is grown: it may have moved, it may have been written on. -/
theorem good_grow {H : Nat → Option AV} {w' : World} (hg : Good B π Z H w) (nxt : Nat) (hn : π nxt = none) (kill : List Nat) (row : Option Nat)
    (hrow : ∀ b, row = some b → ∃ id v sh r, id ∈ kill ∧ H id = some v ∧ π id = some (.at b sh r)) (hw : w.grownBy w' row) (v' : AV) (l : Loc)
    (hobj : ObjOk (setP π nxt l) Z v' l w') (hloc : ∀ b sh r, l = .at b sh r → row = some b ∨ w.heap.size ≤ b) :
    Good B (setP π nxt l) Z (hup H ((nxt, some v') :: kill.map fun id => (id, none))) w' := by
  have hfree : ∀ v, H nxt ≠ some v := by
    intro u h
    obtain ⟨l, hl, _⟩ := hg.objs nxt u h; rw [hn] at hl; cases hl
  have hH : ∀ j u, hup H ((nxt, some v') :: kill.map fun id => (id, none)) j = some u → (j = nxt ∧ u = v') ∨ (j ≠ nxt ∧ j ∉ kill ∧ H j = some u) := by
    intro j u h
    unfold hup at h
    simp only [known, lkH] at h
    cases hb : Nat.beq nxt j with
    | true =>
      have := Nat.eq_of_beq_eq_true hb
      simp [hb] at h
      exact .inl ⟨this.symm, h.symm⟩
    | false =>
      simp only [hb, cond] at h
      have hne : j ≠ nxt := fun e => by subst e; simp at hb
      have hk : ∀ (l : List Nat), (known (l.map fun id => (id, (none : Option AV))) j = true ↔ j ∈ l) ∧ lkH (l.map fun id => (id, (none : Option AV))) j = none := by
        intro l
        induction l with
        | nil => simp [known, lkH]
        | cons a l ih =>
          simp only [List.map_cons, known, lkH, List.mem_cons]
          cases hab : Nat.beq a j with
          | true => have := Nat.eq_of_beq_eq_true hab; simp [this]
          | false =>
            have : j ≠ a := fun e => by subst e; simp at hab
            simp [this, ih.1, ih.2]
      by_cases hmem : j ∈ kill
      · rw [if_pos ((hk kill).1.2 hmem), (hk kill).2] at h; cases h
      · rw [if_neg (fun e => hmem ((hk kill).1.1 e))] at h
        exact .inr ⟨hne, hmem, h⟩
  have hkeep : ∀ j u b s r, j ∉ kill → H j = some u → π j = some (.at b s r) → w'.heap[b]? = w.heap[b]? := by
    intro j u b s r hj hu hp
    refine hw.block b (hg.lt hu hp) (fun e => ?_)
    obtain ⟨id, v, sh, r2, hid, hv, hp2⟩ := hrow b e.symm
    exact hg.apart j id u v b s r sh r2 (fun e => hj (e ▸ hid)) hu hv hp hp2
  refine hg.step (setP_ext hn) hw.os hw.tape hw.output hw.size (fun b o hz => ?_) (fun j u h => ?_) (fun i j u u' b s r1 s' r2 hij hi hj pi pj => ?_) (fun _ _ h => .inl h) (fun j b s r h => ?_) (fun b hb hno => hw.block b hb fun e => ?_)
  rotate_left 3
  · rcases setP_at h with h | h
    · rcases hloc b s r h with h | h
      · obtain ⟨id, v, sh, r2, _, _, hp2⟩ := hrow b h
        exact .inr ⟨id, sh, r2, hp2⟩
      · exact .inl h
    · exact .inr ⟨j, s, r, h⟩
  · obtain ⟨id, v, sh, r2, _, _, hp2⟩ := hrow b e.symm
    exact hno id sh r2 hp2
  · rw [hw.block b (hg.zlt hz) (fun e => ?_)]
    · exact hg.zin b o hz
    · obtain ⟨id, v, sh, r2, _, hv, hp2⟩ := hrow b e.symm
      obtain ⟨l, hl, hok⟩ := hg.objs id v hv
      rw [hp2] at hl; cases hl
      have := hok.2.2.1
      rw [this] at hz; cases hz
  · rcases hH j u h with ⟨rfl, rfl⟩ | ⟨hj, hjk, h⟩
    · exact .inr ⟨l, by simp [setP], hobj⟩
    · refine .inl ⟨h, fun b sh' r' hp => ⟨hkeep j u b sh' r' hjk h hp, ?_⟩⟩
      obtain ⟨l, hl, hok⟩ := hg.objs j u h
      rw [hp] at hl; cases hl
      exact hok.2.2.1
  · have far : ∀ j u b s r, j ∉ kill → H j = some u → π j = some (.at b s r) → l = .at b s' r2 ∨ l = .at b s r1 ∨ (∃ x y, l = .at b x y) → False := by
      intro j u b s r hj hu hp hl
      have hl' : ∃ x y, l = .at b x y := by rcases hl with h | h | h; exact ⟨_, _, h⟩; exact ⟨_, _, h⟩; exact h
      obtain ⟨x, y, hl'⟩ := hl'
      rcases hloc b x y hl' with h | h
      · obtain ⟨id, v, sh, r3, hid, hv, hp2⟩ := hrow b h
        exact hg.apart j id u v b s r sh r3 (fun e => hj (e ▸ hid)) hu hv hp hp2
      · have := hg.lt hu hp; omega
    rcases hH i u hi with ⟨rfl, rfl⟩ | ⟨hi1, hi2, hi3⟩ <;> rcases hH j u' hj with ⟨rfl, rfl⟩ | ⟨hj1, hj2, hj3⟩
    · exact hij rfl
    · simp [setP, hj1] at pi pj
      exact far j u' b s' r2 hj2 hj3 pj (.inr (.inr ⟨_, _, pi⟩))
    · simp [setP, hi1] at pi pj
      exact far i u b s r1 hi2 hi3 pi (.inr (.inr ⟨_, _, pj⟩))
    · simp [setP, hi1, hj1] at pi pj
      exact hg.apart i j u u' b s r1 s' r2 hij hi3 hj3 pi pj

/-- The place of a row that is owned. -/
theorem loc_of_owns {w' : World} {e sz n : Nat} {u : Value} {cs : List Value} {v' : AV} {sh : Sh} (hown : w'.ownsRow 0 e sz u n cs) (hsh : HasSh v' sh) (hr : rowOf v' = some (n, sz)) (hc : Cells π Z (flat v') cs)
    (nxt : Nat) (hn : π nxt = none) (hZ : ∀ b, u.ownBlock = some b → Z b = none) :
    ∃ l, ObjOk (setP π nxt l) Z v' l w' ∧ V (setP π nxt l) Z (.ow nxt e) u ∧ ∀ b s r, l = .at b s r → u.ownBlock = some b := by
  obtain ⟨hl, h⟩ := hown
  rcases h with ⟨rfl, rfl⟩ | ⟨g, cap, cur, rfl, _, hg, hnc, hcm, hcs, htake⟩
  · refine ⟨.nil, ⟨rowOf_N hr, ⟨sh, hsh⟩⟩, (V_sc rfl).2 (.owNil nxt e (by simp [setP])), fun b s r h => by cases h⟩
  · refine ⟨.at g sh (some (n, cap, e, sz)), ⟨hsh, ⟨sh, hsh⟩, hZ g rfl, cs, cur, e, hg, by rw [hl]; exact htake, hc.ext (setP_ext hn), rfl, hcs, hnc, hcm, hr, hl⟩,
      (V_sc rfl).2 (.ow nxt g sh n cap e sz (by simp [setP])), fun b s r h => by cases h; rfl⟩

/-- What append comes to. -/
theorem append_after {H : Nat → Option AV} (hg : Good B π Z H w) {nxt : Nat} (hn : π nxt = none) {ts ty e : TypeId} {te : TI} (hu : P.underlying ts = some (.slice e)) (hte : TyOk P e te) (hz : okZ te.zero = true)
    {sz n m : Nat} (hsz : te.size = sz) (hpos : 0 < sz) {u x : Value} {cs : List Value} {l : List AV} {ld : List AV} (hown : w.ownsRow 0 e sz u n cs) (hcd : Cells π Z ld cs) (hrow : Row π Z w x m sz l)
    (kill : List Nat) (hkill : ∀ b, u.ownBlock = some b → ∃ id v sh r, id ∈ kill ∧ H id = some v ∧ π id = some (.at b sh r))
    (hbytes : (n + m) * te.bytes ≤ 140737488355328) (h63 : n + m ≤ maxLen) {v' : AV} {sh : Sh} (hsh : HasSh v' sh) (hr : rowOf v' = some (n + m, sz)) (hfl : flat v' = ld ++ l) (rd : List Nat) :
    ∃ v2 w', (Builtin.append_ #[ts, ts] ty #[u, x]).run P w = .ok v2 w' ∧ After B π Z H nxt (.ow nxt e) ⟨(nxt, some v') :: kill.map (fun id => (id, none)), rd, 1⟩ v2 w' := by
  obtain ⟨i, zv, hi, h1, h2, h3, hva, hszz⟩ := zero_ok hte hz
  obtain ⟨hzw, hzc⟩ := hva.cells
  obtain ⟨ao, cap, rfl, hmc, hcm, hll, hnil, ns, hns, hat⟩ := hrow
  have hZ : ∀ b, b < w.heap.size → u.ownBlock = some b → Z b = none := by
    intro b _ hb
    obtain ⟨id, v, sh, r, _, hv, hp⟩ := hkill b hb
    obtain ⟨l, hl, hok⟩ := hg.objs id v hv
    rw [hp] at hl; cases hl
    exact hok.2.2.1
  have hZn : Z w.heap.size = none := by
    cases hz : Z w.heap.size with
    | none => rfl
    | some q => exact absurd (hg.zlt hz) (Nat.lt_irrefl _)
  have fin : ∀ (v2 : Value) (w' : World) (row : Option Nat), w'.ownsRow 0 e sz v2 (n + m) (cs ++ ns) → w.grownBy w' row → row = u.ownBlock → (v2.ownBlock = u.ownBlock ∨ v2.ownBlock = some w.heap.size) →
      After B π Z H nxt (.ow nxt e) ⟨(nxt, some v') :: kill.map (fun id => (id, none)), rd, 1⟩ v2 w' := by
    intro v2 w' row ho hgr hrow hloc
    subst hrow
    obtain ⟨lc, q1, q2, q3⟩ := loc_of_owns ho hsh hr (by rw [hfl]; exact hcd.append hns) nxt hn (fun b hb => by
      rcases hloc with h | h
      · have hb' := hb; rw [h] at hb'
        obtain ⟨id, v, sh, r, _, hv, hp⟩ := hkill b hb'
        exact hZ b (hg.lt hv hp) hb'
      · rw [h] at hb; cases hb; exact hZn)
    refine ⟨_, Z, setP_ext hn, fun id l h => ?_, q2, good_grow hg nxt hn kill u.ownBlock hkill hgr v' lc q1 (fun b s r hb => ?_)⟩
    · unfold setP at h
      split at h
      · rename_i e; subst e; exact .inr ⟨Nat.le_refl _, Nat.lt_succ_self _⟩
      · exact .inl h
    · have := q3 b s r hb
      rcases hloc with h | h
      · rw [h] at this; exact .inl this
      · rw [h] at this; cases this; exact .inr (Nat.le_refl _)
  cases ao with
  | none =>
    obtain ⟨rfl, rfl⟩ := hnil rfl
    have hn0 : ns = [] := List.eq_nil_of_length_eq_zero (by rw [hns.1, hll]; simp)
    refine ⟨u, w, run_append_owned_none (P := P) (w := w) 0 ts ty e i sz hu hi u n cs hown, fin u w u.ownBlock (by rw [hn0]; simpa using hown) ⟨rfl, rfl, rfl, Nat.le_refl _, fun _ _ _ => rfl⟩ rfl (.inl rfl)⟩
  | some a =>
    have hzs : zv.cells.size = sz := by
      have := hzc.1
      rw [hzw.size] at this
      simp at this; omega
    obtain ⟨v2, w', r1, r2, r3, _, r5⟩ := run_append_own_at (P := P) (w := w) 0 ts ty e i zv sz te.bytes hu hi h3 (by omega) h2 hzs hpos u n cs hown a m cap ns (by rw [hns.1, hll]) (fun j x hx => hat a rfl j x hx) (Cells_oneCell hns) h63 hbytes (Nat.zero_le _)
    exact ⟨v2, w', r1, fin v2 w' u.ownBlock r2 r3 rfl r5⟩

theorem rowS_inv {x : AV} {K' : Nat → Nat → (Nat → AV) → List Nat → Prop} (h : rowS st x K') : ∃ sz n f rd, K' sz n f rd ∧
    ∀ (B : Bs) (π : PM) (Z : ZM) (H : Nat → Option AV) (w : World) (u : Value), Good B π Z H w → (∀ id ∈ rd, H id = lkH st.heap id) → V π Z x u → WfA (.seq sz n f) ∧ Row π Z w u n sz (flat (.seq sz n f)) := by
  unfold rowS at h
  split at h
  · rename_i sz n f
    refine ⟨sz, n, f, [], h, fun B π Z H w u hg _ hv => ?_⟩
    exact row_rs hg ((V_sc rfl).1 hv) rfl
  · rename_i id e
    split at h
    · rename_i sz n f hv
      refine ⟨sz, n, f, [id], h, fun B π Z H w u hg hrd hu => ?_⟩
      obtain ⟨h1, h2, _⟩ := row_ow hg ((V_sc rfl).1 hu) ((hrd id (by simp)).trans hv) rfl
      exact ⟨h1, h2⟩
    · exact h.elim
  · rename_i id p off len
    split at h
    · rename_i v hv
      split at h
      · rename_i sz n f hp
        refine ⟨sz, len, _, [id], h, fun B π Z H w u hg hrd hu => ?_⟩
        obtain ⟨h1, h2, h3⟩ := row_sl hg ((V_sc rfl).1 hu) ((hrd id (by simp)).trans hv) (n := n) (sz := sz) (by rw [hp]; rfl)
        rw [hp] at h1 h3
        rcases h2 with h2 | h2
        · obtain ⟨g1, g2⟩ := seq_shift h1 h2
          refine ⟨g1, ?_⟩
          have : flat (.seq sz len fun j => f (off + j)) = ((flat (.seq sz n f)).drop (off * sz)).take (len * sz) := by
            have hl1 := flat_row g1 (n := len) (sz := sz) rfl
            have hl2 := flat_row h1 (n := n) (sz := sz) rfl
            have hle : off * sz + len * sz ≤ n * sz := by rw [← Nat.add_mul]; exact Nat.mul_le_mul_right _ h2
            apply List.ext_getElem?
            intro i
            by_cases hi : i < len * sz
            · have hh := List.getElem?_eq_getElem (l := flat (.seq sz len fun j => f (off + j))) (i := i) (by omega)
              rw [hh, List.getElem?_take, if_pos hi, List.getElem?_drop]
              exact (g2 i _ hh).symm
            · rw [List.getElem?_eq_none (by omega), List.getElem?_eq_none (by simp; omega)]
          rw [this]; exact h3
        · subst h2
          obtain ⟨s, hs⟩ := h1
          cases s <;> simp only [HasSh] at hs
          rename_i s
          refine ⟨⟨.sq _ 0 s, rfl, rfl, hs.2.2.1, fun j hj => by omega⟩, ?_⟩
          simpa [flat] using h3
      · exact h.elim
    · exact h.elim
  · exact h.elim

theorem seq_append {sz n m : Nat} {f g : Nat → AV} (h1 : WfA (.seq sz n f)) (h2 : WfA (.seq sz m g)) (heq : ∀ i j, i < n → j < m → shEq (f i) (g j)) :
    ∃ sh, HasSh (.seq sz (n + m) (fun j => cond (Nat.blt j n) (f j) (g (j - n)))) sh ∧ flat (.seq sz (n + m) (fun j => cond (Nat.blt j n) (f j) (g (j - n)))) = flat (.seq sz n f) ++ flat (.seq sz m g) := by
  have hb1 : ∀ j, j < n → Nat.blt j n = true := fun j h => by simpa [Nat.blt_eq] using h
  have hb2 : ∀ j, n ≤ j → Nat.blt j n = false := fun j h => by
    cases hb : Nat.blt j n with
    | false => rfl
    | true => have : j < n := by simpa [Nat.blt_eq] using hb
              omega
  obtain ⟨s1, hs1⟩ := h1
  obtain ⟨s2, hs2⟩ := h2
  cases s1 <;> simp only [HasSh] at hs1
  cases s2 <;> simp only [HasSh] at hs2
  rename_i s1 _ _ s2
  obtain ⟨rfl, rfl, z1, f1⟩ := hs1
  obtain ⟨rfl, rfl, z2, f2⟩ := hs2
  refine ⟨.sq _ _ (if 0 < n then s1 else s2), ⟨rfl, rfl, by split <;> assumption, fun j hj => ?_⟩, ?_⟩
  · show HasSh (cond (Nat.blt j n) (f j) (g (j - n))) _
    by_cases hj1 : j < n
    · rw [hb1 j hj1, if_pos (by omega)]; exact f1 j hj1
    · rw [hb2 j (by omega)]
      by_cases hn : 0 < n
      · rw [if_pos hn]
        exact shEq_ok _ _ _ (heq 0 (j - n) hn (by omega)) (f1 0 hn) ⟨_, f2 (j - n) (by omega)⟩
      · rw [if_neg hn]; exact f2 (j - n) (by omega)
  · simp only [flat]
    rw [List.range_add, List.flatMap_append, List.flatMap_map]
    congr 1
    · rw [List.flatMap_def, List.flatMap_def]
      congr 1
      apply List.map_congr_left
      intro j hj
      rw [hb1 j (by simpa using hj)]; rfl
    · rw [List.flatMap_def, List.flatMap_def]
      congr 1
      apply List.map_congr_left
      intro j _
      rw [hb2 (n + j) (by omega), Nat.add_sub_cancel_left]; rfl

theorem elemId_eq {t e : TypeId} (hT : TabOk P tt) (h : elemId tt t = some e) : P.underlying t = some (.slice e) := by
  unfold elemId at h
  split at h
  · rename_i e' _ _ _ _ hti
    cases h
    exact (hT _ _ hti).und
  · cases h

theorem s_append (c : Call) (ho : o.op = .call c) (hc : c.callee = .builtin .append) (hT : TabOk P tt) (h : opA tt ct st (.call c) K) : Sound1 P st o K := by
  obtain ⟨callee, args, ats⟩ := c
  simp only at hc; subst hc
  simp only [Chk, Bnd, Str, Kn, Drw, opA] at h
  split at h
  · rename_i d x hargs
    split at h
    · rename_i ts tx hts
      have e1 := list_two hargs
      have e2 := list_two hts
      subst e1; subst e2
      have hd : d ∈ o.op.operands.toList := by simp [ho, Op.operands, Call.operands]
      have hx : x ∈ o.op.operands.toList := by simp [ho, Op.operands, Call.operands]
      have hex : ∀ (w w' : World) (ρ : Operand → Value) (r : Value), (Builtin.append_ #[ts, tx] o.type #[ρ d, ρ x]).run P w = .ok r w' → (execOp ρ o).run P w = .ok (.value r) w' := by
        intro w w' ρ r hr
        simp [execOp, ho, resolve, invoke, builtin, hr]
      unfold appendA Chk Bnd Str at h
      split at h
      · exact h.elim
      · rename_i e he
        have hu := elemId_eq (P := P) hT he
        split at h
        · exact h.elim
        · rename_i te hti
          have hte := hT _ _ hti
          rw [litN_eq] at h
          obtain ⟨rfl, hz, h⟩ := h
          split at h
          · -- numbers
            rename_i k z hzero
            split at h
            · -- nil
              rename_i hdn
              obtain ⟨k', m, ys, rd, ⟨hk, hby, h63, hK⟩, hrow⟩ := rowI_inv h
              simp only [Bool.and_eq_true] at hk
              have e1 := kEq_eq hk.1
              have e2 := Nat.eq_of_beq_eq_true hk.2
              subst e1
              refine ⟨_, _, hK, fun B π Z H w ρ hρ hg hrd hfr => ?_⟩
              obtain ⟨w1, r1⟩ := hrow B π Z H w _ hg hrd (hρ x hx)
              have hdv := hρ d hd
              rw [hdn] at hdv
              have hdv := (V_sc rfl).1 hdv
              generalize hpu : ρ d = u at hdv
              cases hdv
              obtain ⟨sh, hsh⟩ := w1
              obtain ⟨v2, w', r2, r3⟩ := append_after (P := P) hg (hfr _ (Nat.le_refl _) (Nat.lt_succ_self _)) (ty := o.type) hu hte hz e2 Nat.one_pos (u := .slice none 0 0) (n := 0) (cs := []) (ld := []) (by simp [World.ownsRow]) Cells.nil r1 []
                (fun b hb => by cases hb) (by simpa using hby) (by simp only [maxLen]; omega) (v' := .arr k m ys) hsh (by simp [rowOf]) rfl rd
              rw [hex w w' ρ v2 (by rw [hpu]; exact r2)]
              exact r3
            · rename_i id e' hdn
              split at h
              · rename_i k'' n xs hv
                obtain ⟨k', m, ys, rd, ⟨hk, hby, h63, hK⟩, hrow⟩ := rowI_inv h
                simp only [Bool.and_eq_true] at hk
                obtain ⟨⟨⟨c1, c2⟩, c3⟩, c4⟩ := hk
                have e1 := kEq_eq c1
                have e2 := kEq_eq c2
                have e3 := Nat.eq_of_beq_eq_true c3
                have e4 := Nat.eq_of_beq_eq_true c4
                subst e1; subst e2; subst e4
                refine ⟨_, _, hK, fun B π Z H w ρ hρ hg hrd hfr => ?_⟩
                obtain ⟨w1, r1⟩ := hrow B π Z H w _ hg (fun j hj => hrd j (by simp [hj])) (hρ x hx)
                have hdv := hρ d hd
                rw [hdn] at hdv
                have hH := (hrd id (by simp)).trans hv
                obtain ⟨w2, _, ⟨cs, hcs, hown⟩, hob⟩ := row_ow hg ((V_sc rfl).1 hdv) hH (n := n) (sz := 1) rfl
                have hl1 := arr_len w1
                have hl2 := arr_len w2
                obtain ⟨v2, w', r2, r3⟩ := append_after (P := P) hg (hfr _ (Nat.le_refl _) (Nat.lt_succ_self _)) (ty := o.type) hu hte hz e3 Nat.one_pos hown hcs r1 [id]
                  (fun b hb => by obtain ⟨sh, r, hp⟩ := hob b hb; exact ⟨id, _, sh, r, by simp, hH, hp⟩) hby (by simp only [maxLen]; omega) (v' := .arr k (n + m) (xs ++ ys)) (sh := .ar k (n + m)) ⟨rfl, rfl, by simp [hl1, hl2]⟩ rfl (by simp [flat]) (id :: rd)
                rw [hex w w' ρ v2 r2]
                exact r3
              · exact h.elim
            · exact h.elim
          · -- others
            rename_i hzn
            split at h
            · rename_i hdn
              obtain ⟨sz, m, g, rd, ⟨hk, hby, h63, hK⟩, hrow⟩ := rowS_inv h
              simp only [Bool.and_eq_true] at hk
              have e2 := Nat.eq_of_beq_eq_true hk.1
              refine ⟨_, _, hK, fun B π Z H w ρ hρ hg hrd hfr => ?_⟩
              obtain ⟨w1, r1⟩ := hrow B π Z H w _ hg hrd (hρ x hx)
              have hdv := hρ d hd
              rw [hdn] at hdv
              have hdv := (V_sc rfl).1 hdv
              generalize hpu : ρ d = u at hdv
              cases hdv
              obtain ⟨sh, hsh⟩ := w1
              obtain ⟨v2, w', r2, r3⟩ := append_after (P := P) hg (hfr _ (Nat.le_refl _) (Nat.lt_succ_self _)) (ty := o.type) hu hte hz e2 (beq0 hk.2) (u := .slice none 0 0) (n := 0) (cs := []) (ld := []) (by simp [World.ownsRow]) Cells.nil r1 []
                (fun b hb => by cases hb) (by simpa using hby) (by simp only [maxLen]; omega) (v' := .seq sz m g) hsh (by simp [rowOf]) rfl rd
              rw [hex w w' ρ v2 (by rw [hpu]; exact r2)]
              exact r3
            · rename_i id e' hdn
              split at h
              · rename_i sz' n f hv
                obtain ⟨sz, m, g, rd, ⟨hse, hk, hby, h63, hK⟩, hrow⟩ := rowS_inv h
                simp only [Bool.and_eq_true] at hk
                obtain ⟨⟨⟨c1, c2⟩, c3⟩, c4⟩ := hk
                have e1 := Nat.eq_of_beq_eq_true c1
                have e2 := Nat.eq_of_beq_eq_true c2
                have e4 := Nat.eq_of_beq_eq_true c4
                subst e2; subst e4
                refine ⟨_, _, hK, fun B π Z H w ρ hρ hg hrd hfr => ?_⟩
                obtain ⟨w1, r1⟩ := hrow B π Z H w _ hg (fun j hj => hrd j (by simp [hj])) (hρ x hx)
                have hdv := hρ d hd
                rw [hdn] at hdv
                have hH := (hrd id (by simp)).trans hv
                obtain ⟨w2, _, ⟨cs, hcs, hown⟩, hob⟩ := row_ow hg ((V_sc rfl).1 hdv) hH (n := n) (sz := sz') rfl
                obtain ⟨sh, q1, q2⟩ := seq_append w2 w1 hse
                obtain ⟨v2, w', r2, r3⟩ := append_after (P := P) hg (hfr _ (Nat.le_refl _) (Nat.lt_succ_self _)) (ty := o.type) hu hte hz e1 (beq0 c3) hown hcs r1 [id]
                  (fun b hb => by obtain ⟨sh, r, hp⟩ := hob b hb; exact ⟨id, _, sh, r, by simp, hH, hp⟩) hby (by simp only [maxLen]; omega) q1 rfl q2 (id :: rd)
                rw [hex w w' ρ v2 r2]
                exact r3
              · exact h.elim
            · exact h.elim
    · exact h.elim
  · exact h.elim

end
end Go.Ax
