/- Steps of the seat's proofs: an evaluator of the program's code, its soundness, and what the functions come to. -/
import GoSem.Core.Program
import GoSem.Core.View
import GoSem.Op.String
import GoSem.Op.IntBits
import GoSem.Op.Equal
import GoSem.Core.Utf8
import Derived.MapKept
import Derived.Below
import Derived.Deep.MidRow
import Derived.Laws.AppendOwn
import Derived.OpenShut
import Derived.Laws.StructEq
import Derived.Laws.Pointers
set_option linter.unusedSimpArgs false
set_option linter.unusedVariables false
namespace Go.Proofs.YtgbheglnmdnkoaaGreatDoor.E
open Go

inductive Own where
  | sealed
  | exact
  | fam (g st : Nat)

inductive AV where
  | bool (b : Bool)
  | int (k : IntKind) (n : Int)
  | str (s : List UInt8)
  | nilP
  | ptr (b off : Nat)
  | rop (v : AV)
  | nilS
  | lit (sz : Nat) (own : Own) (xs : List AV)
  | arr (sz b off len : Nat)
  | fn (f : Fn) (first captured : List AV)
  | nilF
  | iface (t : TypeId) (v : AV)
  | nilI
  | agg (cs : List AV)
  | tup (vs : List AV)
  | nilM
  | mpr (b : Nat)

/-- what lies in the heap and is no row of cells: how far a text was gone through; a map -/
inductive Ob where
  | sit (s : List UInt8) (pos : Nat)
  | mp (es : List (List UInt8 × AV))

inductive TV where
  | junk
  | sk
  | v (x : AV)
  | bx (cs : List AV)
  | lp (t off : Nat)

inductive Blk where
  | dead
  | cells (cs : List AV)
  | fam (mark : Nat)
  | obj (o : Ob)

inductive TK where
  | bool | int (k : IntKind) | string | pointer (e : TypeId) | slice (e : TypeId) | array (n : Nat) (e : TypeId)
  | struct (fs : List (Nat × TypeId)) | map (k e : TypeId) | func | iface | other

structure TI where
  k : TK
  size : Nat
  bytes : Nat
  zero : List AV
  eq : Bool

structure FI where
  ntmps : Nat
  results : List ResultVar
  body : Code

inductive Kind where | pure | mut | keep | new

structure Cfg where
  ty : TypeId → Option TI
  code : FuncId → Option FI
  glob : Nat → Option AV
  ext : FuncId → Option (List Blk → List AV → Option AV)
  isLoc : FuncId → Nat
  loop : FuncId → Nat → Option Nat
  after : FuncId → Nat → Option Nat
  pairs : FuncId → Nat → List (Nat × Nat)
  kind : FuncId → Kind
  arrF : FuncId → Bool
  arrB : FuncId → Bool := fun _ => false
  ins : FuncId → Option (Nat × Nat) := fun _ => none
  memo : FuncId → List AV → Option (AV × List Blk) := fun _ _ => none

def TK.agg : TK → Bool
  | .struct _ => true
  | .array _ _ => true
  | _ => false

def AV.cells : AV → List AV
  | .agg cs => cs
  | v => [v]

def mapO {α β : Type} (f : α → Option β) : List α → Option (List β)
  | [] => some []
  | x :: xs => match f x with
    | some y => match mapO f xs with
      | some ys => some (y :: ys)
      | none => none
    | none => none

def setAt {α : Type} : List α → Nat → α → List α
  | [], _, _ => []
  | _ :: xs, 0, y => y :: xs
  | x :: xs, n + 1, y => x :: setAt xs n y

def getAt {α : Type} : List α → Nat → Option α
  | [], _ => none
  | x :: _, 0 => some x
  | _ :: xs, n + 1 => getAt xs n

/-- overwrite the cells from 'off' on -/
def splice {α : Type} : List α → Nat → List α → List α
  | xs, 0, ys => ys ++ xs.drop ys.length
  | [], _, _ => []
  | x :: xs, n + 1, ys => x :: splice xs n ys

def bit (m t : Nat) : Bool := Nat.testBit m t

structure St where
  tmps : List TV
  hp : List Blk

inductive Fp where
  | z | hr | hw | fw | hb (b : Nat) | al (n : Nat) | lr (t : Nat) | lw (t : Nat) | bx (t : Nat)

def Fp.clash : Fp → Fp → Bool
  | .hw, .hw => true
  | .hw, .fw => true
  | .fw, .hw => true
  | .fw, .fw => true
  | .fw, .hr => true
  | .hw, .hr => true
  | .hr, .hw => true
  | .hb _, .hw => true
  | .hw, .hb _ => true
  | .fw, .hb _ => true
  | .al n, .hb b => decide (n ≤ b)
  | .al _, .hr => true
  | .al _, .hw => true
  | .hw, .al _ => true
  | .al _, .fw => true
  | .fw, .al _ => true
  | .al _, .al _ => true
  | .lw t, .lw u => t == u
  | .lw t, .lr u => t == u
  | .lr t, .lw u => t == u
  | .bx t, .lw u => t == u
  | .bx t, .lr u => t == u
  | .bx t, .bx u => t == u
  | .lw t, .bx u => t == u
  | .lr t, .bx u => t == u
  | _, _ => false

inductive Ex where | normal | exit (id : Nat) | ret

/-- is it the value of one cell? -/
def AV.one : AV → Bool
  | .agg _ => false
  | .tup _ => false
  | _ => true
def AV.noTup : AV → Bool
  | .tup _ => false
  | _ => true
def allOne : List AV → Bool
  | [] => true
  | x :: xs => x.one && allOne xs

/-! values of constants -/
def ofConst : Nat → Value → Option AV
  | 0, _ => none
  | d + 1, v => match v with
    | .bool b => some (.bool b)
    | .int k n => some (.int k n)
    | .string s => some (.str s.data.toList)
    | .pointer none => some .nilP
    | .slice none 0 0 => some .nilS
    | .nilFunc => some .nilF
    | .nilIface => some .nilI
    | .map none => some .nilM
    | .agg cs => match mapO (ofConst d) cs.toList with
      | some r => bif allOne r then some (.agg r) else none
      | none => none
    | .tuple cs => (mapO (ofConst d) cs.toList).map .tup
    | _ => none

def opnd (C : Cfg) (tmps : List TV) : Operand → Option TV
  | .tmp t => match getAt tmps t with
    | some (.bx _) => some (.lp t 0)
    | some x => some x
    | none => some .sk
  | .const v => (ofConst 8 v).map .v
  | .global g => (C.glob g).map fun x => .v (.rop x)
  | .func f => some (.v (.fn (.func f) [] []))

/-- value operands -/
def opv (C : Cfg) (tmps : List TV) (x : Operand) : Option AV :=
  match opnd C tmps x with
  | some (.v a) => some a
  | _ => none

/-- a slot that holds a box of its own is not written over -/
def put (tmps : List TV) (dst : Option Tmp) (x : TV) : Option (List TV) :=
  match dst with
  | some d => match getAt tmps d with
    | some (.bx _) => none
    | some _ => some (setAt tmps d x)
    | none => none
  | none => some tmps

/-! reads -/
def part (ti : TI) (cs : List AV) (off : Nat) : Option AV :=
  bif ti.k.agg then
    let c := (cs.drop off).take ti.size
    bif c.length == ti.size then some (.agg c) else none
  else getAt cs off

def asVal (ti : TI) (v : AV) : Option AV :=
  bif ti.k.agg then
    match v with
    | .agg cs => bif cs.length == ti.size then some v else none
    | _ => none
  else
    match v with
    | .agg _ => none
    | .tup _ => none
    | v => some v

def blkCells (hp : List Blk) (b : Nat) : Option (List AV) :=
  match getAt hp b with
  | some (.cells cs) => some cs
  | _ => none

def slotCells (tmps : List TV) (t : Nat) : Option (List AV) :=
  match getAt tmps t with
  | some (.bx cs) => some cs
  | _ => none

/-- the elements of size 'sz' that lie in cells -/
def chunk (sz : Nat) : Nat → List AV → Option (List AV)
  | 0, _ => some []
  | n + 1, cs =>
    match (bif sz == 1 then cs.head? else (let c := cs.take sz; bif c.length == sz then some (.agg c) else none)) with
    | some x => match chunk sz n (cs.drop sz) with
      | some xs => some (x :: xs)
      | none => none
    | none => none

/-- elements of a slice -/
def elems (hp : List Blk) (sz : Nat) : AV → Option (List AV)
  | .nilS => some []
  | .lit s _ xs => bif s == sz then some xs else none
  | .arr s b off len => bif s == sz then (match blkCells hp b with
      | some cs => chunk sz len (cs.drop off)
      | none => none) else none
  | .str s => bif sz == 1 then some (s.map fun c => .int .u8 c.toNat) else none
  | _ => none

def slcLen : AV → Option Nat
  | .nilS => some 0
  | .lit _ _ xs => some xs.length
  | .arr _ _ _ len => some len
  | _ => none
def strLen : AV → Option Nat
  | .str s => some s.length
  | _ => none

def lenE (C : Cfg) (t : TypeId) (x : AV) : Option Nat :=
  match C.ty t with
  | some ⟨.array n _, _, _, _, _⟩ => some n
  | some ⟨.string, _, _, _, _⟩ => strLen x
  | some ⟨.slice _, _, _, _, _⟩ => slcLen x
  | _ => none

def flat : List AV → List AV
  | [] => []
  | x :: xs => x.cells ++ flat xs

/-! arithmetic -/
def arith (op : BinOp) (k : IntKind) (a b : Int) : Option AV :=
  match op with
  | .add => some (.int k (k.wrap (a + b)))
  | .sub => some (.int k (k.wrap (a - b)))
  | .mul => some (.int k (k.wrap (a * b)))
  | .quo => bif b == 0 then none else some (.int k (k.wrap (a.tdiv b)))
  | .rem => bif b == 0 then none else some (.int k (a.tmod b))
  | .and => some (.int k (k.wrap (BitVec.ofInt k.bits a &&& BitVec.ofInt k.bits b).toNat))
  | .or => some (.int k (k.wrap (BitVec.ofInt k.bits a ||| BitVec.ofInt k.bits b).toNat))
  | .xor => some (.int k (k.wrap (BitVec.ofInt k.bits a ^^^ BitVec.ofInt k.bits b).toNat))
  | .andNot => some (.int k (k.wrap (BitVec.ofInt k.bits a &&& ~~~BitVec.ofInt k.bits b).toNat))
  | .eql => some (.bool (a == b))
  | .neq => some (.bool (a != b))
  | .lss => some (.bool (decide (a < b)))
  | .leq => some (.bool (decide (a ≤ b)))
  | .gtr => some (.bool (decide (a > b)))
  | .geq => some (.bool (decide (a ≥ b)))
  | _ => none

def shiftE (op : BinOp) (k : IntKind) (a b : Int) : Option AV :=
  bif decide (b < 0) then none else
    let n := Nat.min b.toNat k.bits
    match op with
    | .shl => some (.int k (k.wrap (a * 2 ^ n)))
    | .shr => some (.int k (a.fdiv (2 ^ n)))
    | _ => none

def strOp (op : BinOp) (x y : List UInt8) : Option AV :=
  match op with
  | .add => bif decide (x.length + y.length ≤ 9223372036854775807) then some (.str (x ++ y)) else none
  | .eql => some (.bool (x == y))
  | .neq => some (.bool (!(x == y)))
  | .lss => some (.bool (Op.bytesLess x y))
  | .leq => some (.bool (Op.bytesLess x y || x == y))
  | .gtr => some (.bool (!(Op.bytesLess x y || x == y)))
  | .geq => some (.bool (!Op.bytesLess x y))
  | _ => none

/-- equality at a type -/
def eqFields (C : Cfg) (eq : TypeId → AV → AV → Option Bool) : List (Nat × TypeId) → List AV → List AV → Option Bool
  | [], _, _ => some true
  | (off, ft) :: fs, xs, ys => match C.ty ft with
    | none => none
    | some fi => match part fi xs off, part fi ys off with
      | some a, some b => match eq ft a b with
        | some true => eqFields C eq fs xs ys
        | some false => some false
        | none => none
      | _, _ => none
def eqElems (ei : TI) (eq : AV → AV → Option Bool) : Nat → List AV → List AV → Option Bool
  | 0, _, _ => some true
  | n + 1, xs, ys => match part ei xs 0, part ei ys 0 with
    | some a, some b => match eq a b with
      | some true => eqElems ei eq n (xs.drop ei.size) (ys.drop ei.size)
      | some false => some false
      | none => none
    | _, _ => none
def eqAt (C : Cfg) : Nat → TypeId → AV → AV → Option Bool
  | 0, _, _, _ => none
  | d + 1, t, x, y =>
    match C.ty t with
    | none => none
    | some ti => match ti.k, x, y with
      | .bool, .bool a, .bool b => some (a == b)
      | .int _, .int k a, .int k' b => bif decide (k = k') then some (a == b) else none
      | .string, .str a, .str b => some (a == b)
      | .pointer _, .nilP, .nilP => some true
      | .pointer _, .nilP, .ptr _ _ => some false
      | .pointer _, .ptr _ _, .nilP => some false
      | .pointer _, .nilP, .rop _ => some false
      | .pointer _, .rop _, .nilP => some false
      | .slice _, .nilS, .nilS => some true
      | .slice _, .nilS, .lit _ _ _ => some false
      | .slice _, .nilS, .arr _ _ _ _ => some false
      | .slice _, .lit _ _ _, .nilS => some false
      | .slice _, .arr _ _ _ _, .nilS => some false
      | .func, .nilF, .nilF => some true
      | .func, .nilF, .fn _ _ _ => some false
      | .func, .fn _ _ _, .nilF => some false
      | .iface, .nilI, .nilI => some true
      | .iface, .nilI, .iface _ _ => some false
      | .iface, .iface _ _, .nilI => some false
      | .struct fs, .agg xs, .agg ys => bif ti.eq then eqFields C (eqAt C d) fs xs ys else none
      | .array n e, .agg xs, .agg ys => bif !ti.eq then none else (match C.ty e with
          | some ei => eqElems ei (eqAt C d e) n xs ys
          | none => none)
      | .iface, .iface a u, .iface b v => bif !Nat.beq a b then some false else (match C.ty a with
          | some ai => bif ai.eq then eqAt C d a u v else none
          | none => none)
      | _, _, _ => none

/-! the types of a program -/
def tkOf : TypeDesc → TK
  | .bool => .bool
  | .int k => .int k
  | .string => .string
  | .pointer e => .pointer e
  | .slice e => .slice e
  | .array n e => .array n e
  | .struct fs => .struct (fs.toList.map fun f => (f.offset, f.type))
  | .map k e => .map k e
  | .func _ _ _ => .func
  | .interface _ => .iface
  | _ => .other

/-- may values of a type be held against one another by their parts alone? -/
def eqPlain (P : Program) (t : TypeId) : TypeDesc → Bool
  | .struct fs => !P.stoodInHeld t && !P.eqGuardType P.depth t && fs.toList.all fun f => !(f.name == "_")
  | .array _ _ => !P.eqGuardType P.depth t
  | _ => true

/-- are the sizes of a struct's fields, of an array's elements known? -/
def partsKnown (P : Program) : TypeDesc → Bool
  | .struct fs => fs.toList.all fun f => (P.info? f.type).isSome
  | .array _ e => (P.info? e).isSome
  | .slice e => (P.info? e).isSome
  | _ => true

/-- is it made of cells? -/
def isAggV : Value → Bool
  | .agg _ => true
  | _ => false

def tiOf (P : Program) (t : TypeId) : Option TI :=
  match P.info? t, P.underlying t with
  | some i, some d => match i.zero with
    | some z => match mapO (ofConst 8) z.cells.toList with
      | some zs => bif z.cells.size == i.size && allOne zs && partsKnown P d && (isAggV z == (tkOf d).agg) then some ⟨tkOf d, i.size, i.bytes, zs, eqPlain P t d && i.comparable⟩ else none
      | none => none
    | none => none
  | _, _ => none

/-! operations -/
abbrev CallF := FuncId → List AV → List Blk → Option (AV × List Blk)

/-- what an operation comes to: its value (sk: none), the frame's slots, the heap, what it touched -/
structure Res where
  val : TV
  tmps : List TV
  hp : List Blk
  fp : Fp

def pureR (st : St) (x : TV) : Option Res := some ⟨x, st.tmps, st.hp, .z⟩
def ofO (st : St) (x : Option AV) : Option Res := x.map fun a => ⟨.v a, st.tmps, st.hp, .z⟩

def loadAt (C : Cfg) (st : St) (t : TypeId) (a : TV) : Option Res :=
  match C.ty t with
  | none => none
  | some ti => match a with
    | .v (.rop v) => ofO st (asVal ti v)
    | .v (.ptr b off) => match blkCells st.hp b with
      | some cs => (part ti cs off).map fun x => ⟨.v x, st.tmps, st.hp, .hb b⟩
      | none => none
    | .lp s off => match slotCells st.tmps s with
      | some cs => (part ti cs off).map fun x => ⟨.v x, st.tmps, st.hp, .lr s⟩
      | none => none
    | _ => none

def storeAt (C : Cfg) (fl : Nat) (st : St) (t : TypeId) (a : TV) (x : AV) : Option Res :=
  match C.ty t with
  | none => none
  | some ti => bif !(x.cells.length == ti.size) || !x.noTup then none else match a with
    | .v (.ptr b off) => match blkCells st.hp b with
      | some cs => bif decide (off + ti.size ≤ cs.length) && decide (fl ≤ b) then
          some ⟨.sk, st.tmps, setAt st.hp b (.cells (splice cs off x.cells)), .hw⟩ else none
      | none => none
    | .lp s off => match slotCells st.tmps s with
      | some cs => bif decide (off + ti.size ≤ cs.length) then
          some ⟨.sk, setAt st.tmps s (.bx (splice cs off x.cells)), st.hp, .lw s⟩ else none
      | none => none
    | _ => none

def field (C : Cfg) (t : TypeId) (i : Nat) : Option (Nat × TI) :=
  match C.ty t with
  | some ⟨.struct fs, _, _, _, _⟩ => match getAt fs i with
    | some (off, ft) => (C.ty ft).map fun ti => (off, ti)
    | none => none
  | _ => none

def fieldAddr (C : Cfg) (t : TypeId) (i : Nat) (a : TV) : Option TV :=
  match field C t i with
  | none => none
  | some (off, ti) => bif ti.size == 0 then none else match a with
    | .lp s o => some (.lp s (o + off))
    | .v (.ptr b o) => some (.v (.ptr b (o + off)))
    | .v (.rop (.agg cs)) => (part ti cs off).map fun x => .v (.rop x)
    | _ => none

def indexAddr (C : Cfg) (t : TypeId) (a : TV) (i : Int) : Option TV :=
  bif decide (i < 0) then none else
  match C.ty t with
  | some ⟨.array n e, _, _, _, _⟩ => bif !decide (i < n) then none else match C.ty e with
    | none => none
    | some ei => match a with
      | .lp s o => some (.lp s (o + i.toNat * ei.size))
      | .v (.ptr b o) => some (.v (.ptr b (o + i.toNat * ei.size)))
      | .v (.rop (.agg cs)) => (part ei cs (i.toNat * ei.size)).map fun x => .v (.rop x)
      | _ => none
  | some ⟨.slice e, _, _, _, _⟩ => match C.ty e with
    | none => none
    | some ei => match a with
      | .v (.lit sz _ xs) => bif sz == ei.size then (getAt xs i.toNat).map fun x => .v (.rop x) else none
      | .v (.arr sz b off len) => bif sz == ei.size && decide (i < len) then some (.v (.ptr b (off + i.toNat * sz))) else none
      | _ => none
  | _ => none

def indexE (C : Cfg) (t : TypeId) (a : AV) (i : Int) : Option AV :=
  bif decide (i < 0) then none else
  match C.ty t, a with
  | some ⟨.array n e, _, _, _, _⟩, .agg cs => bif !decide (i < n) then none else match C.ty e with
    | none => none
    | some ei => part ei cs (i.toNat * ei.size)
  | some ⟨.string, _, _, _, _⟩, .str s => (getAt s i.toNat).map fun c => .int .u8 c.toNat
  | _, _ => none

/-- the bounds of a slice expression: low, high, max (if told) -/
def bnd (x : Option AV) (d : Nat) : Option Nat :=
  match x with
  | none => some d
  | some (.int _ n) => bif decide (n < 0) then none else some n.toNat
  | _ => none

def sliceE (C : Cfg) (st : St) (t : TypeId) (a : TV) (lo hi mx : Option AV) : Option AV :=
  match C.ty t with
  | some ⟨.string, _, _, _, _⟩ => match a, mx with
    | .v (.str s), none => match bnd lo 0, bnd hi s.length with
      | some l, some h => bif decide (l ≤ h) && decide (h ≤ s.length) then some (.str ((s.drop l).take (h - l))) else none
      | _, _ => none
    | _, _ => none
  | some ⟨.slice e, _, _, _, _⟩ => match C.ty e with
    | none => none
    | some ei => match a with
      | .v .nilS => match bnd lo 0, bnd hi 0, bnd mx 0 with
        | some 0, some 0, some 0 => bif mx.isSome && !hi.isSome then none else some .nilS
        | _, _, _ => none
      | .v (.lit sz own xs) => match bnd lo 0, bnd hi xs.length with
        | some l, some h => bif !(decide (l ≤ h) && decide (h ≤ xs.length) && sz == ei.size) then none else
          let ys := (xs.drop l).take (h - l)
          match mx with
          | some m => match hi.isSome, bnd (some m) 0 with
            | true, some m => bif !(decide (h ≤ m) && decide (m ≤ xs.length)) then none else
              some (.lit sz (bif m == h then .exact else .sealed) ys)
            | _, _ => none
          | none => match own with
            | .exact => some (.lit sz (bif h == xs.length then .exact else .sealed) ys)
            | .fam g s => some (.lit sz (bif h == xs.length && !(l == h) then .fam g (s + l) else .sealed) ys)
            | .sealed => some (.lit sz .sealed ys)
        | _, _ => none
      | .v (.arr sz b off len) => match bnd lo 0, bnd hi len, blkCells st.hp b with
        | some l, some h, some _ => bif !(decide (l ≤ h) && decide (h ≤ len) && sz == ei.size) then none else
          match mx with
          | some m => match hi.isSome, bnd (some m) 0 with
            | true, some m => bif !(decide (h ≤ m) && decide (m ≤ len)) then none else
              bif m == h && l == h then some (.lit sz .exact []) else none
            | _, _ => none
          | none => bif l == h && !(l == 0) then some (.lit sz .sealed []) else some (.arr sz b (off + l * sz) (h - l))
        | _, _, _ => none
      | _ => none
  | some ⟨.array n e, _, _, _, _⟩ => match C.ty e with
    | none => none
    | some ei => match a with
      | .v (.ptr b off) => match bnd lo 0, bnd hi n, mx, blkCells st.hp b with
        | some l, some h, none, some cs => bif !(decide (l < h) && decide (h ≤ n) && decide (off + n * ei.size = cs.length) && ei.size == 1) then none else some (.arr ei.size b (off + l * ei.size) (h - l))
        | _, _, _, _ => none
      | _ => none
  | _ => none

def fill (ti : TI) (C : Cfg) (cs : List AV) : List (Nat × AV) → Option (List AV)
  | [] => some cs
  | (i, x) :: ps =>
    match (match ti.k with
      | .struct fs => (match getAt fs i with
        | some (off, ft) => (C.ty ft).map fun fi => (off, fi.size)
        | none => none)
      | .array _ e => (C.ty e).map fun ei => (i * ei.size, ei.size)
      | _ => none) with
    | some (off, sz) => bif x.cells.length == sz && x.noTup && decide (off + sz ≤ cs.length) then fill ti C (splice cs off x.cells) ps else none
    | none => none

def valParts (C : Cfg) (tmps : List TV) : List (Nat × Operand) → Option (List (Nat × AV))
  | [] => some []
  | (i, x) :: ps => match opv C tmps x with
    | some a => match valParts C tmps ps with
      | some r => some ((i, a) :: r)
      | none => none
    | none => none

def setParts (sz : Nat) (xs : List AV) : List (Nat × AV) → Option (List AV)
  | [] => some xs
  | (i, x) :: ps => bif x.cells.length == sz && x.noTup && decide (i < xs.length) then setParts sz (setAt xs i x) ps else none

/-- a new mutable block -/
def newBlk (st : St) (cs : List AV) (mk : Nat → AV) : Option Res :=
  some ⟨.v (mk st.hp.length), st.tmps, st.hp ++ [.cells cs], .hw⟩

def valOf (ti : TI) (cs : List AV) : Option AV := part ti cs 0

def zeros (ti : TI) : Nat → List AV
  | 0 => []
  | n + 1 => ti.zero ++ zeros ti n

def isSlc : AV → Bool
  | .nilS => true
  | .lit _ _ _ => true
  | .arr _ _ _ _ => true
  | _ => false

def isArr : AV → Bool
  | .arr _ _ _ _ => true
  | _ => false

/-- what is appended: a slice's elements, a text's bytes, or so many zero values -/
def appElems (C : Cfg) (hp : List Blk) (ei : TI) (t2 : TypeId) (x : AV) : Option (List AV) :=
  match C.ty t2 with
  | some ⟨.int _, _, _, _, _⟩ => match x, valOf ei ei.zero with
    | .int _ n, some z => bif decide (0 ≤ n) && decide (n * ei.bytes ≤ 140737488355328) && decide (n ≤ 140737488355328) && z.cells.length == ei.size then some (List.replicate n.toNat z) else none
    | _, _ => none
  | some ⟨.slice _, _, _, _, _⟩ => elems hp ei.size x
  | some ⟨.string, _, _, _, _⟩ => elems hp ei.size x
  | _ => none

def appendE (C : Cfg) (fl : Nat) (arrM : Bool) (st : St) (t t2 : TypeId) (s x : AV) : Option Res :=
  match C.ty t with
  | some ⟨.slice e, _, _, _, _⟩ => match C.ty e with
    | none => none
    | some ei => match appElems C st.hp ei t2 x, elems st.hp ei.size s with
      | some xs, some ys =>
        let k := xs.length
        let n := ys.length
        let fp : Fp := bif isArr s || isArr x then .hw else .fw
        bif !decide ((n + k) * ei.bytes ≤ 140737488355328) || ei.size == 0 || ei.bytes == 0 || !isSlc s then none else
        bif k == 0 then some ⟨.v s, st.tmps, st.hp, fp⟩ else
        let fresh : Option Res :=
          bif arrM then some ⟨.v (.arr ei.size st.hp.length 0 (n + k)), st.tmps, st.hp ++ [.cells (flat (ys ++ xs))], fp⟩
          else some ⟨.v (.lit ei.size (.fam st.hp.length 0) (ys ++ xs)), st.tmps, st.hp ++ [.fam (n + k)], fp⟩
        match s with
        | .nilS => fresh
        | .lit _ .exact _ => fresh
        | .lit _ (.fam g st0) _ => match getAt st.hp g with
          | some (.fam mark) => bif (st0 + n == mark) && decide (fl ≤ g) then
              some ⟨.v (.lit ei.size (.fam g st0) (ys ++ xs)), st.tmps, setAt st.hp g (.fam (mark + k)), fp⟩ else none
          | _ => none
        | .arr _ b off _ => match blkCells st.hp b with
          | some cs => bif !decide (fl ≤ b) then none else
            bif decide (off + (n + k) * ei.size ≤ cs.length) then
              some ⟨.v (.arr ei.size b off (n + k)), st.tmps, setAt st.hp b (.cells (splice cs (off + n * ei.size) (flat xs))), fp⟩
            else
              some ⟨.v (.arr ei.size st.hp.length 0 (n + k)), st.tmps, setAt st.hp b .dead ++ [.cells (flat (ys ++ xs))], fp⟩
          | none => none
        | _ => none
      | _, _ => none
  | _ => none

def copyE (C : Cfg) (fl : Nat) (st : St) (t : TypeId) (d x : AV) : Option Res :=
  match C.ty t with
  | some ⟨.slice e, _, _, _, _⟩ => match C.ty e with
    | none => none
    | some ei => match elems st.hp ei.size x with
      | some xs => match d with
        | .arr sz b off len => match blkCells st.hp b with
          | some cs =>
            bif decide (fl ≤ b) && sz == ei.size && !(ei.size == 0) && decide (xs.length ≤ len) && decide (off + xs.length * sz ≤ cs.length) then
              some ⟨.v (.int .i64 xs.length), st.tmps, setAt st.hp b (.cells (splice cs off (flat xs))), .hw⟩ else none
          | none => none
        | _ => none
      | none => none
  | _ => none

def clearE (C : Cfg) (fl : Nat) (st : St) (t : TypeId) (d : AV) : Option Res :=
  match C.ty t with
  | some ⟨.slice e, _, _, _, _⟩ => match C.ty e with
    | none => none
    | some ei => match d with
      | .nilS => some ⟨.v (.tup []), st.tmps, st.hp, .z⟩
      | .lit _ _ [] => some ⟨.v (.tup []), st.tmps, st.hp, .z⟩
      | .arr sz b off len => match blkCells st.hp b with
        | some cs => bif decide (fl ≤ b) && sz == ei.size && !(ei.size == 0) && decide (off + len * sz ≤ cs.length) then
            some ⟨.v (.tup []), st.tmps, setAt st.hp b (.cells (splice cs off (zeros ei len))), .hw⟩ else none
        | none => none
      | _ => none
  | _ => none

def minE (isMax : Bool) : List AV → Option AV
  | [.int k a, .int k' b] => bif decide (k = k') then some (.int k (bif isMax then (bif decide (a < b) then b else a) else (bif decide (b < a) then b else a))) else none
  | _ => none

def capE (C : Cfg) (t : TypeId) (x : AV) : Option Nat :=
  match C.ty t with
  | some ⟨.slice _, _, _, _, _⟩ => match x with
    | .nilS => some 0
    | .lit _ .exact xs => some xs.length
    | _ => none
  | _ => none

def builtinE (C : Cfg) (fl : Nat) (arrM : Bool) (st : St) (b : Builtin) (ts : List TypeId) (args : List AV) : Option Res :=
  match b, ts, args with
  | .len, t :: _, [x] => ofO st ((lenE C t x).map fun (k : Nat) => .int .i64 (k : Int))
  | .cap, t :: _, [x] => ofO st ((capE C t x).map fun (k : Nat) => .int .i64 (k : Int))
  | .append, t :: t2 :: _, [s, x] => appendE C fl arrM st t t2 s x
  | .copy, t :: _, [d, x] => copyE C fl st t d x
  | .clear, t :: _, [d] => clearE C fl st t d
  | .min, _, xs => ofO st (minE false xs)
  | .max, _, xs => ofO st (minE true xs)
  | _, _, _ => none

def bytesOf : List AV → Option (List UInt8)
  | [] => some []
  | .int .u8 n :: xs => match bytesOf xs with
    | some r => some (UInt8.ofNat n.toNat :: r)
    | none => none
  | _ => none

def convE (C : Cfg) (arrM : Bool) (st : St) (src dst : TypeId) (x : AV) : Option Res :=
  match C.ty src, C.ty dst, x with
  | some _, some ⟨.int k, _, _, _, _⟩, .int _ n => ofO st (some (.int k (k.wrap n)))
  | some _, some ⟨.string, _, _, _, _⟩, .str s => ofO st (some (.str s))
  | some _, some ⟨.slice e, _, _, _, _⟩, .str s => match C.ty e with
    | some ⟨.int .u8, _, _, _, _⟩ =>
      bif arrM then newBlk st (s.map fun c => .int .u8 c.toNat) (fun b => .arr 1 b 0 s.length)
      else ofO st (some (.lit 1 .sealed (s.map fun c => .int .u8 c.toNat)))
    | _ => none
  | some ⟨.slice e, _, _, _, _⟩, some ⟨.string, _, _, _, _⟩, x => bif !isSlc x then none else match C.ty e with
    | some ⟨.int .u8, _, _, _, _⟩ => match elems st.hp 1 x with
      | some xs => (bytesOf xs).map fun s => ⟨.v (.str s), st.tmps, st.hp, bif isArr x then .hr else .z⟩
      | none => none
    | _ => none
  | _, _, _ => none

/-! maps, and texts that are gone through -/
def getM (k : List UInt8) : List (List UInt8 × AV) → Option AV
  | [] => none
  | (j, v) :: es => bif j == k then some v else getM k es
def putM (k : List UInt8) (x : AV) : List (List UInt8 × AV) → List (List UInt8 × AV)
  | [] => [(k, x)]
  | (j, v) :: es => bif j == k then (j, x) :: es else (j, v) :: putM k x es
def blkObj (hp : List Blk) (b : Nat) : Option Ob :=
  match getAt hp b with
  | some (.obj o) => some o
  | _ => none
/-- a new object -/
def newObjE (st : St) (o : Ob) (mk : Nat → AV) : Option Res := some ⟨.v (mk st.hp.length), st.tmps, st.hp ++ [.obj o], .hw⟩
def rangeE (C : Cfg) (st : St) (t : TypeId) (x : AV) : Option Res :=
  match C.ty t, x with
  | some ⟨.string, _, _, _, _⟩, .str s => newObjE st (.sit s 0) (fun b => .ptr b 0)
  | _, _ => none
def nextE (fl : Nat) (st : St) (x : AV) (isStr : Bool) : Option Res :=
  match x, isStr with
  | .ptr b 0, true => match blkObj st.hp b with
    | some (.sit s pos) => bif !decide (fl ≤ b) then none else
      bif decide (pos < s.length) then
        let r := Utf8.decode ⟨s.toArray⟩ pos
        some ⟨.v (.tup [.bool true, .int .i64 pos, .int .i32 r.1]), st.tmps, setAt st.hp b (.obj (.sit s (pos + r.2))), .hw⟩
      else some ⟨.v (.tup [.bool false]), st.tmps, st.hp, .hw⟩
    | _ => none
  | _, _ => none
def makeMapE (C : Cfg) (st : St) (t : TypeId) : Option Res :=
  match C.ty t with
  | some ⟨.map _ _, _, _, _, _⟩ => newObjE st (.mp []) .mpr
  | _ => none
/-- a map whose keys are texts: what its values look like -/
def mapT (C : Cfg) (t : TypeId) : Option TI :=
  match C.ty t with
  | some ⟨.map k e, _, _, _, _⟩ => match C.ty k with
    | some ⟨.string, _, _, _, _⟩ => C.ty e
    | _ => none
  | _ => none
def mapUpdateE (C : Cfg) (fl : Nat) (st : St) (t : TypeId) (m k x : AV) : Option Res :=
  match mapT C t, m, k with
  | some _, .mpr b, .str s => match blkObj st.hp b with
    | some (.mp es) => bif decide (fl ≤ b) && x.noTup then some ⟨.sk, st.tmps, setAt st.hp b (.obj (.mp (putM s x es))), .hw⟩ else none
    | _ => none
  | _, _, _ => none
def lookupE (C : Cfg) (st : St) (t : TypeId) (m k : AV) (ok : Bool) : Option Res :=
  match mapT C t, m, k with
  | some ti, .mpr b, .str s => match blkObj st.hp b with
    | some (.mp es) => match getM s es with
      | some v => some ⟨.v (bif ok then .tup [v, .bool true] else v), st.tmps, st.hp, .hw⟩
      | none => (valOf ti ti.zero).map fun z => ⟨.v (bif ok then .tup [z, .bool false] else z), st.tmps, st.hp, .hw⟩
    | _ => none
  | _, _, _ => none

def isNilI : AV → Bool
  | .nilI => true
  | _ => false
def binE (C : Cfg) (op : BinOp) (t : TypeId) (cst : Bool) (x y : AV) : Option AV :=
  match x, y with
  | .int k a, .int k' b => (match op with
    | .shl => shiftE .shl k a b
    | .shr => shiftE .shr k a b
    | op => bif decide (k = k') then arith op k a b else none)
  | .str a, .str b => strOp op a b
  | x, y => (match op with
    | .eql => bif cst || !(isNilI x && isNilI y) then (eqAt C 32 t x y).map .bool else none
    | .neq => bif cst || !(isNilI x && isNilI y) then (eqAt C 32 t x y).map fun b => .bool !b else none
    | _ => none)

def unE (op : UnOp) (x : AV) : Option AV :=
  match op, x with
  | .neg, .int k n => some (.int k (k.wrap (0 - n)))
  | .xor, .int k n => arith .xor k (bif k.signed then -1 else k.max) n
  | .not, .bool b => some (.bool (!b))
  | _, _ => none

def optV (C : Cfg) (tmps : List TV) : Option Operand → Option (Option AV)
  | none => some none
  | some x => (opv C tmps x).map some

/-- does a call of it leave all blocks of before as they are? -/
def keepsB (C : Cfg) (f : FuncId) : Bool := (C.ext f).isSome || match C.kind f with
  | .pure => true
  | .new => true
  | _ => false
def callFp (C : Cfg) (f : FuncId) (n : Nat) : Fp := bif keepsB C f then .al n else .hw

def callE (C : Cfg) (call : CallF) (st : St) (f : FuncId) (args : List AV) : Option Res :=
  match call f args st.hp with
  | some (v, hp) => some ⟨.v v, st.tmps, hp, callFp C f st.hp.length⟩
  | none => none

def slFp : TV → Fp
  | .v (.arr _ _ _ _) => .hr
  | .v (.ptr _ _) => .hr
  | _ => .z

def isCst : Operand → Bool
  | .const _ => true
  | _ => false

def evOp (C : Cfg) (call : CallF) (fl : Nat) (me : FuncId) (o : Oper) (st : St) : Option Res :=
  match o.op with
  | .move x => (opnd C st.tmps x).bind (pureR st)
  | .assign x => (opnd C st.tmps x).bind (pureR st)
  | .pick c a b => match opv C st.tmps c with
    | some (.bool t) => (opnd C st.tmps (bif t then a else b)).bind (pureR st)
    | _ => none
  | .alloc e => match C.ty e with
    | none => none
    | some ti => bif ti.size == 0 then none else match o.dst with
      | none => none
      | some d => bif bit (C.isLoc me) d then some ⟨.bx ti.zero, st.tmps, st.hp, .bx d⟩ else newBlk st ti.zero (fun b => .ptr b 0)
  | .box _ x => match opv C st.tmps x, o.dst with
    | some a, some d => bif a.cells.length == 0 || !a.noTup then none else
      bif bit (C.isLoc me) d then some ⟨.bx a.cells, st.tmps, st.hp, .bx d⟩ else newBlk st a.cells (fun b => .ptr b 0)
    | _, _ => none
  | .build t ps => match C.ty t, valParts C st.tmps ps.toList with
    | some ti, some vs => bif ti.k.agg then ofO st ((fill ti C ti.zero vs).map .agg) else none
    | _, _ => none
  | .buildSlice t len ps => match C.ty t, valParts C st.tmps ps.toList with
    | some ⟨.slice e, _, _, _, _⟩, some vs => match C.ty e with
      | none => none
      | some ei => match valOf ei ei.zero with
        | none => none
        | some z => match setParts ei.size (List.replicate len z) vs with
          | none => none
          | some xs => bif ei.size == 0 || decide (16777216 < len * ei.size) || !(z.cells.length == ei.size) || !z.noTup then none else
            bif C.arrB me then newBlk st (flat xs) (fun b => .arr ei.size b 0 len) else ofO st (some (.lit ei.size .exact xs))
    | _, _ => none
  | .load t a => (opnd C st.tmps a).bind (loadAt C st t)
  | .store t a x => match opnd C st.tmps a, opv C st.tmps x with
    | some a, some x => storeAt C fl st t a x
    | _, _ => none
  | .nilCheck x => match opnd C st.tmps x with
    | some (.lp s o) => pureR st (.lp s o)
    | some (.v (.ptr b o)) => pureR st (.v (.ptr b o))
    | some (.v (.rop v)) => pureR st (.v (.rop v))
    | some (.v (.fn (.func f) a b)) => pureR st (.v (.fn (.func f) a b))
    | _ => none
  | .binOp op t x y _ => match opv C st.tmps x, opv C st.tmps y with
    | some a, some b => ofO st (binE C op t (isCst x || isCst y) a b)
    | _, _ => none
  | .unOp op _ x => match opv C st.tmps x with
    | some a => ofO st (unE op a)
    | none => none
  | .convert s d x => match opv C st.tmps x with
    | some a => convE C (C.arrF me) st s d a
    | none => none
  | .makeInterface t x => match C.ty t, opv C st.tmps x with
    | some ti, some a => (match ti.k with
      | .iface => none
      | _ => ofO st (some (.iface t a)))
    | _, _ => none
  | .makeFunc f first captured => match mapO (opv C st.tmps) first.toList, mapO (opv C st.tmps) captured.toList with
    | some a, some b => ofO st (some (.fn f a b))
    | _, _ => none
  | .makeSlice t l c => match C.ty t, opv C st.tmps l, opv C st.tmps c with
    | some ⟨.slice e, _, _, _, _⟩, some (.int _ n), some (.int _ m) => match C.ty e with
      | none => none
      | some ei => bif decide (0 ≤ n) && decide (n ≤ m) && decide (m * ei.bytes ≤ 140737488355328) && !(ei.size == 0) && !(ei.bytes == 0) then
          newBlk st (zeros ei m.toNat) (fun b => .arr ei.size b 0 n.toNat) else none
    | _, _, _ => none
  | .slice t x lo hi mx => match opnd C st.tmps x, optV C st.tmps lo, optV C st.tmps hi, optV C st.tmps mx with
    | some a, some l, some h, some m => (sliceE C st t a l h m).map fun y => ⟨.v y, st.tmps, st.hp, slFp a⟩
    | _, _, _, _ => none
  | .fieldAddr t x f => match opnd C st.tmps x with
    | some a => (fieldAddr C t f a).bind (pureR st)
    | none => none
  | .field t x f => match opv C st.tmps x with
    | some (.agg cs) => match field C t f with
      | some (off, ti) => ofO st (part ti cs off)
      | none => none
    | _ => none
  | .indexAddr t x i => match opnd C st.tmps x, opv C st.tmps i with
    | some a, some (.int _ n) => (indexAddr C t a n).bind (pureR st)
    | _, _ => none
  | .index t x i => match opv C st.tmps x, opv C st.tmps i with
    | some a, some (.int _ n) => ofO st (indexE C t a n)
    | _, _ => none
  | .extract x i => match opv C st.tmps x with
    | some (.tup vs) => ofO st (getAt vs i)
    | _ => none
  | .range t x => match opv C st.tmps x with
    | some a => rangeE C st t a
    | none => none
  | .next x isStr => match opv C st.tmps x with
    | some a => nextE fl st a isStr
    | none => none
  | .makeMap t none => makeMapE C st t
  | .mapUpdate t m k x => match opv C st.tmps m, opv C st.tmps k, opv C st.tmps x with
    | some a, some b, some c => mapUpdateE C fl st t a b c
    | _, _, _ => none
  | .lookup t m k ok => match opv C st.tmps m, opv C st.tmps k with
    | some a, some b => lookupE C st t a b ok
    | _, _ => none
  | .call c => match mapO (opv C st.tmps) c.args.toList with
    | none => none
    | some args => match c.callee with
      | .builtin b => builtinE C fl (C.arrF me) st b c.argTypes.toList args
      | .value f => match opv C st.tmps f with
        | some (.fn (.func g) first captured) => callE C call st g (first ++ args ++ captured)
        | _ => none
      | .invoke _ _ => none
  | _ => none

/-- is the operation carried out? -/
def wantedE (ops : List Oper) (tmps : List TV) (o : Oper) : Option Bool :=
  match o.guard with
  | none => some true
  | some (j, want) => match getAt ops j with
    | none => some false
    | some g => match g.dst with
      | none => some false
      | some d => match getAt tmps d with
        | some (.v (.bool b)) => some (b == want)
        | some (.v _) => some false
        | some .sk => some false
        | _ => none

/-- one operation: what it touched, and what comes of it -/
def evOne (C : Cfg) (call : CallF) (fl : Nat) (me : FuncId) (ops : List Oper) (o : Oper) (st : St) : Option (St × Fp) :=
  match wantedE ops st.tmps o with
  | some true => match evOp C call fl me o st with
    | some r => match put r.tmps o.dst r.val with
      | some t => some (⟨t, r.hp⟩, r.fp)
      | none => none
    | none => none
  | some false => match put st.tmps o.dst .sk with
    | some t => some (⟨t, st.hp⟩, .z)
    | none => none
  | none => none

def runOps (C : Cfg) (call : CallF) (fl : Nat) (me : FuncId) (ops : List Oper) : List Oper → St → Option (St × List Fp)
  | [], st => some (st, [])
  | o :: rest, st => match evOne C call fl me ops o st with
    | some (st1, f) => match runOps C call fl me ops rest st1 with
      | some (st', fps) => some (st', f :: fps)
      | none => none
    | none => none

def noClash (fps : List Fp) : List (Nat × Nat) → Bool
  | [] => true
  | (i, j) :: ps => (match getAt fps i, getAt fps j with
    | some a, some b => !(a.clash b)
    | _, _ => false) && noClash fps ps

/-- at a loop's head: the slots that the mask keeps; no address within the frame is kept -/
def cleanT : List TV → Nat → List TV
  | [], _ => []
  | x :: xs, m => (bif m % 2 == 1 then (match x with | .lp _ _ => .junk | x => x) else .junk) :: cleanT xs (m / 2)

def firstReg : Code → Nat
  | .region id _ _ => id
  | .seq a _ => firstReg a
  | .cond _ a _ => firstReg a
  | .block _ a => firstReg a
  | .loop a => firstReg a
  | _ => 1000000

def evLoop (body : St → Option (Ex × St)) (clean : St → St) : Nat → St → Option (Ex × St)
  | 0, _ => none
  | k + 1, st => match body (clean st) with
    | some (.normal, st') => evLoop body clean k st'
    | r => r

def cleanSt (m : Option Nat) (st : St) : St :=
  match m with
  | none => st
  | some m => ⟨cleanT st.tmps m, st.hp⟩

def run (C : Cfg) (call : CallF) (fl : Nat) (me : FuncId) (k : Nat) : Code → St → Option (Ex × St)
  | .skip, st => some (.normal, st)
  | .region id ops draw, st => match runOps C call fl me ops.toList ops.toList st with
    | some (st', fps) => bif !draw || noClash fps (C.pairs me id) then some (.normal, st') else none
    | none => none
  | .seq a b, st => match run C call fl me k a st with
    | some (.normal, st') => run C call fl me k b st'
    | r => r
  | .cond c a b, st => match opv C st.tmps c with
    | some (.bool t) => bif t then run C call fl me k a st else run C call fl me k b st
    | _ => none
  | .block id b, st => match run C call fl me k b st with
    | some (.exit j, st') => bif j == id then some (.normal, st') else some (.exit j, st')
    | r => r
  | .loop b, st => match evLoop (run C call fl me k b) (cleanSt (C.loop me (firstReg b))) k st with
    | some (e, st') => some (e, cleanSt (C.after me (firstReg b)) st')
    | none => none
  | .exit id, st => some (.exit id, st)
  | .ret, st => some (.ret, st)
  | _, _ => none

def resultsE (C : Cfg) (st : St) : List ResultVar → Option (List AV)
  | [] => some []
  | .tmp t :: rs => match getAt st.tmps t with
    | some (.v x) => match resultsE C st rs with
      | some xs => some (x :: xs)
      | none => none
    | _ => none
  | .cell a t :: rs => match opnd C st.tmps (.tmp a) with
    | some a => match loadAt C st t a with
      | some ⟨.v x, _, _, _⟩ => match resultsE C st rs with
        | some xs => some (x :: xs)
        | none => none
      | _ => none
    | none => none

def one : List AV → AV
  | [x] => x
  | xs => .tup xs

/-- a value that outlives the blocks from n on: they are read out -/
def shutV (hp : List Blk) (n : Nat) : Nat → AV → Option AV
  | 0, _ => none
  | d + 1, v => match v with
    | .ptr b off => bif decide (b < n) then some (.ptr b off) else none
    | .mpr b => bif decide (b < n) then some (.mpr b) else none
    | .rop x => (shutV hp n d x).map .rop
    | .lit sz own xs => match mapO (shutV hp n d) xs with
      | some ys => some (.lit sz (match own with
          | .fam g s => bif decide (g < n) then .fam g s else .sealed
          | o => o) ys)
      | none => none
    | .arr sz b off len => bif decide (b < n) then some (.arr sz b off len) else
      match elems hp sz (.arr sz b off len) with
      | some xs => (mapO (shutV hp n d) xs).map fun ys => .lit sz .sealed ys
      | none => none
    | .fn f a b => match mapO (shutV hp n d) a, mapO (shutV hp n d) b with
      | some a, some b => some (.fn f a b)
      | _, _ => none
    | .iface t x => (shutV hp n d x).map (.iface t)
    | .agg cs => (mapO (shutV hp n d) cs).map .agg
    | .tup cs => (mapO (shutV hp n d) cs).map .tup
    | v => some v

/-- does a value hang on no block from n on? -/
def clo (n : Nat) : Nat → AV → Bool
  | 0, _ => false
  | d + 1, v => match v with
    | .ptr b _ => decide (b < n)
    | .mpr b => decide (b < n)
    | .rop x => clo n d x
    | .lit _ own xs => (match own with | .fam g _ => decide (g < n) | _ => true) && xs.all (clo n d)
    | .arr _ b _ _ => decide (b < n)
    | .fn _ a b => a.all (clo n d) && b.all (clo n d)
    | .iface _ x => clo n d x
    | .agg cs => cs.all (clo n d)
    | .tup cs => cs.all (clo n d)
    | _ => true
def ownC (n : Nat) : Own → Bool
  | .fam g _ => decide (g < n)
  | _ => true
/-! the same, however deep -/
mutual
def cloA (n : Nat) : AV → Bool
  | .ptr b _ => decide (b < n)
  | .mpr b => decide (b < n)
  | .rop x => cloA n x
  | .lit _ own xs => ownC n own && cloAs n xs
  | .arr _ b _ _ => decide (b < n)
  | .fn _ a b => cloAs n a && cloAs n b
  | .iface _ x => cloA n x
  | .agg cs => cloAs n cs
  | .tup cs => cloAs n cs
  | _ => true
def cloAs (n : Nat) : List AV → Bool
  | [] => true
  | x :: xs => cloA n x && cloAs n xs
end
def cloB (n : Nat) : Blk → Bool
  | .cells cs => cloAs n cs
  | .obj (.mp es) => cloAs n (es.map (·.2))
  | _ => true
def cloH (n : Nat) (hp : List Blk) : Bool := hp.all (cloB n)

/-! what a call came to in an empty heap, behind so many blocks -/
def shO (n : Nat) : Own → Own
  | .fam g s => .fam (n + g) s
  | o => o
mutual
def shA (n : Nat) : AV → AV
  | .ptr b off => .ptr (n + b) off
  | .mpr b => .mpr (n + b)
  | .rop x => .rop (shA n x)
  | .lit sz own xs => .lit sz (shO n own) (shAs n xs)
  | .arr sz b off len => .arr sz (n + b) off len
  | .fn f a b => .fn f (shAs n a) (shAs n b)
  | .iface t x => .iface t (shA n x)
  | .agg cs => .agg (shAs n cs)
  | .tup cs => .tup (shAs n cs)
  | v => v
def shAs (n : Nat) : List AV → List AV
  | [] => []
  | x :: xs => shA n x :: shAs n xs
end
def shB (n : Nat) : Blk → Blk
  | .cells cs => .cells (shAs n cs)
  | .obj (.mp es) => .obj (.mp (es.map fun e => (e.1, shA n e.2)))
  | b => b

/-- slices.Insert of one element: what it comes to (the row goes, another one comes) -/
def insE (C : Cfg) (fl : Nat) (f : FuncId) (args : List AV) (hp : List Blk) : Option (AV × List Blk) :=
  match C.kind f, C.ins f, args with
  | .keep, some (sz, bytes), [s, .int .i64 i, .lit s' _ [x]] =>
    bif !(s' == sz) || !(x.cells.length == sz) || !x.noTup then none else
    match s with
    | .nilS => bif decide (i = 0) then some (.arr sz hp.length 0 1, hp ++ [.cells x.cells]) else none
    | .arr s0 b 0 len => match blkCells hp b with
      | some cs => bif s0 == sz && decide (fl ≤ b) && decide (0 ≤ i) && decide (i ≤ (len : Int)) && decide (cs.length = len * sz) && decide ((len + 1) * bytes ≤ 140737488355328) then
          some (.arr sz hp.length 0 (len + 1), setAt hp b .dead ++ [.cells (cs.take (i.toNat * sz) ++ (x.cells ++ cs.drop (i.toNat * sz)))]) else none
      | none => none
    | _ => none
  | _, _, _ => none

def evCall (C : Cfg) : Nat → Nat → CallF
  | 0, _, _, _, _ => none
  | k + 1, fl, f, args, hp =>
    match C.memo f args with
    | some r => some (shA hp.length r.1, hp ++ r.2.map (shB hp.length))
    | none => match C.ext f with
    | some e => (e hp args).map fun v => (v, hp)
    | none => match C.code f with
      | none => insE C fl f args hp
      | some fi =>
        let fl' := match C.kind f with | .pure => hp.length | .new => hp.length | _ => fl
        match run C (evCall C k fl') fl' f k fi.body ⟨args.map .v ++ List.replicate (fi.ntmps - args.length) .sk, hp⟩ with
        | some (.exit _, _) => none
        | some (_, st) => match resultsE C st fi.results with
          | none => none
          | some rs => match C.kind f with
            | .pure => match shutV st.hp hp.length 100000 (one rs) with
              | some v => some (v, hp)
              | none => none
            | .mut => bif !cloH hp.length (st.hp.take hp.length) then none else
              match shutV st.hp hp.length 100000 (one rs) with
              | some v => some (v, st.hp.take hp.length)
              | none => none
            | .keep => some (one rs, st.hp)
            | .new => some (one rs, st.hp)
        | none => none

end Go.Proofs.YtgbheglnmdnkoaaGreatDoor.E
namespace Go.Proofs.YtgbheglnmdnkoaaGreatDoor.E
open Go Go.RowKit

theorem getAt_eq {α : Type} : ∀ (l : List α) (i : Nat), getAt l i = l[i]?
  | [], _ => by simp [getAt]
  | x :: xs, 0 => by simp [getAt]
  | x :: xs, n + 1 => by simp [getAt, getAt_eq xs n]

theorem setAt_eq {α : Type} : ∀ (l : List α) (i : Nat) (x : α), setAt l i x = l.set i x
  | [], _, _ => by simp [setAt]
  | x :: xs, 0, y => by simp [setAt]
  | x :: xs, n + 1, y => by simp [setAt, setAt_eq xs n]

theorem splice_eq {α : Type} : ∀ (l : List α) (o : Nat) (ys : List α), o ≤ l.length → splice l o ys = l.take o ++ ys ++ l.drop (o + ys.length)
  | [], 0, ys, _ => by simp [splice]
  | x :: xs, 0, ys, _ => by simp [splice]
  | [], n + 1, ys, h => by simp at h
  | x :: xs, n + 1, ys, h => by
    simp only [splice, splice_eq xs n ys (by simpa using h)]
    simp [Nat.add_right_comm]

theorem mapO_eq {α β : Type} (f : α → Option β) : ∀ (l : List α) (r : List β), mapO f l = some r →
    r.length = l.length ∧ ∀ (i : Nat) x, l[i]? = some x → ∃ y, f x = some y ∧ r[i]? = some y
  | [], r, h => by simp [mapO] at h; subst h; simp
  | x :: xs, r, h => by
    simp only [mapO] at h
    split at h
    · rename_i y hy
      split at h
      · rename_i ys hys
        cases h
        obtain ⟨hl, hi⟩ := mapO_eq f xs ys hys
        refine ⟨by simp [hl], fun i z hz => ?_⟩
        cases i with
        | zero => simp at hz; subst hz; exact ⟨y, hy, by simp⟩
        | succ i => simp at hz; obtain ⟨u, hu, hv⟩ := hi i z hz; exact ⟨u, hu, by simpa using hv⟩
      · cases h
    · cases h

/-- who owns a real cell -/
inductive Who where
  | none | imm | blk (b : Nat) | spare (g : Nat) | loc (t : Nat)

structure FamL where
  mark : Nat
  sz : Nat
  st : Nat
  rb : Nat
  ro : Nat
  en : Nat

structure Lay where
  loc : Nat → Option (Nat × Nat)
  ext : Nat → Nat
  fam : Nat → Option FamL
  who : Nat → Nat → Who

def OwnOK (L : Lay) (n : Nat) (own : Own) (sz rb ro len cap : Nat) : Prop :=
  match own with
  | .sealed => True
  | .exact => cap = len
  | .fam g st => g < n ∧ ∀ F, L.fam g = some F → st + len ≤ F.mark ∧
      (st + len = F.mark → F.sz = sz ∧ F.st ≤ st ∧ rb = F.rb ∧ ro = F.ro + (st - F.st) * sz ∧ st + cap = F.en)

/-- is it no family's? -/
def Own.plain : Own → Bool
  | .fam _ _ => false
  | _ => true

inductive VR (n : Nat) (L : Lay) (w : World) : AV → Value → Prop where
  | bool (b : Bool) : VR n L w (.bool b) (.bool b)
  | int (k : IntKind) (i : Int) : VR n L w (.int k i) (.int k i)
  | str (l : List UInt8) (s : ByteArray) : s.data.toList = l → VR n L w (.str l) (.string s)
  | nilP : VR n L w .nilP (.pointer none)
  | ptr (b off : Nat) (a : Addr) : b < n → (∀ p, L.loc b = some p → a = ⟨p.1, p.2 + off, none⟩) → VR n L w (.ptr b off) (.pointer (some a))
  | rop (v : AV) (rb ro : Nat) (cv : Nat → Value) :
      (∀ j, j < v.cells.length → w.cell? ⟨rb, ro + j, none⟩ = some (cv j) ∧ L.who rb (ro + j) = .imm) →
      (∀ (j : Nat) (c : AV), v.cells[j]? = some c → c.one = true) → (∀ j c, v.cells[j]? = some c → VR n L w c (cv j)) → VR n L w (.rop v) (.pointer (some ⟨rb, ro, none⟩))
  | nilS : VR n L w .nilS (.slice none 0 0)
  | lit (sz : Nat) (own : Own) (xs : List AV) (rb ro cap : Nat) (cv : Nat → Value) : xs.length ≤ cap →
      (∀ x ∈ xs, x.cells.length = sz) →
      (∀ j, j < xs.length * sz → w.cell? ⟨rb, ro + j, none⟩ = some (cv j) ∧ L.who rb (ro + j) = .imm) →
      (∀ (j : Nat) (c : AV), (flat xs)[j]? = some c → c.one = true) → (∀ j c, (flat xs)[j]? = some c → VR n L w c (cv j)) →
      OwnOK L n own sz rb ro xs.length cap → VR n L w (.lit sz own xs) (.slice (some ⟨rb, ro, none⟩) xs.length cap)
  | lit0 (sz : Nat) (own : Own) (a : Addr) : own.plain = true → VR n L w (.lit sz own []) (.slice (some a) 0 0)
  | arr (sz b off len : Nat) (a : Addr) (cap : Nat) : b < n → len ≤ cap →
      (∀ p, L.loc b = some p → a = ⟨p.1, p.2 + off, none⟩ ∧ (∀ j, j < cap * sz → L.who p.1 (p.2 + off + j) = .blk b) ∧ L.ext b ≤ off + cap * sz ∧ (sz = 1 ∨ (p.1 < w.heap.size ∧ ∀ o, w.frozen? ⟨p.1, o, none⟩ = false))) →
      VR n L w (.arr sz b off len) (.slice (some a) len cap)
  | fn (f : Fn) (xs ys : List AV) (rx ry : Array Value) : rx.size = xs.length → ry.size = ys.length →
      (∀ i x, xs[i]? = some x → VR n L w x (rx.getD i default)) → (∀ i x, ys[i]? = some x → VR n L w x (ry.getD i default)) →
      VR n L w (.fn f xs ys) (.func f rx ry)
  | nilF : VR n L w .nilF .nilFunc
  | iface (t : TypeId) (x : AV) (v : Value) : VR n L w x v → VR n L w (.iface t x) (.iface t v)
  | nilI : VR n L w .nilI .nilIface
  | agg (cs : List AV) (rc : Array Value) : rc.size = cs.length → (∀ (i : Nat) x, cs[i]? = some x → x.one = true) → (∀ i x, cs[i]? = some x → VR n L w x (rc.getD i default)) →
      VR n L w (.agg cs) (.agg rc)
  | tup (cs : List AV) (rc : Array Value) : rc.size = cs.length → (∀ i x, cs[i]? = some x → VR n L w x (rc.getD i default)) →
      VR n L w (.tup cs) (.tuple rc)
  | nilM : VR n L w .nilM (.map none)
  | mpr (b r : Nat) : b < n → (∀ p, L.loc b = some p → r = p.1) → VR n L w (.mpr b) (.map (some r))

/-- From (L, w) to (L', w'): what a value of before stands on stands. -/
structure Ext (n : Nat) (L : Lay) (w : World) (L' : Lay) (w' : World) : Prop where
  imm : ∀ r o, L.who r o = .imm → L'.who r o = .imm ∧ w'.cell? ⟨r, o, none⟩ = w.cell? ⟨r, o, none⟩
  loc : ∀ b p, b < n → L'.loc b = some p → L.loc b = some p ∧ (∀ r o, L.who r o = .blk b → L'.who r o = .blk b) ∧ L'.ext b = L.ext b
  fam : ∀ g F', g < n → L'.fam g = some F' → ∃ F, L.fam g = some F ∧ (F' = F ∨ F.mark < F'.mark)
  size : w.heap.size ≤ w'.heap.size
  fro : ∀ r o, r < w.heap.size → w'.frozen? ⟨r, o, none⟩ = w.frozen? ⟨r, o, none⟩
  non : ∀ r o, r < w.heap.size → L.who r o = .none → L'.who r o = .none

theorem Ext.refl (n : Nat) (L : Lay) (w : World) : Ext n L w L w :=
  ⟨fun _ _ h => ⟨h, rfl⟩, fun _ _ _ h => ⟨h, fun _ _ h => h, rfl⟩, fun _ F _ h => ⟨F, h, .inl rfl⟩, Nat.le_refl _, fun _ _ _ => rfl, fun _ _ _ h => h⟩

theorem Ext.trans {n n' : Nat} {L : Lay} {w : World} {L1 : Lay} {w1 : World} {L2 : Lay} {w2 : World} (hn : n ≤ n') (h : Ext n L w L1 w1) (k : Ext n' L1 w1 L2 w2) : Ext n L w L2 w2 where
  imm r o hr := by
    obtain ⟨h1, h2⟩ := h.imm r o hr
    obtain ⟨k1, k2⟩ := k.imm r o h1
    exact ⟨k1, k2.trans h2⟩
  loc b p hb hp := by
    obtain ⟨k1, k2, k3⟩ := k.loc b p (by omega) hp
    obtain ⟨h1, h2, h3⟩ := h.loc b p hb k1
    exact ⟨h1, fun r o hr => k2 r o (h2 r o hr), k3.trans h3⟩
  fam g F hg hF := by
    obtain ⟨F1, k1, k2⟩ := k.fam g F (by omega) hF
    obtain ⟨F0, h1, h2⟩ := h.fam g F1 hg k1
    refine ⟨F0, h1, ?_⟩
    rcases k2 with rfl | k2
    · exact h2
    · rcases h2 with rfl | h2
      · exact .inr k2
      · exact .inr (by omega)
  size := Nat.le_trans h.size k.size
  fro r o hr := (k.fro r o (Nat.lt_of_lt_of_le hr h.size)).trans (h.fro r o hr)
  non r o hr hw := k.non r o (Nat.lt_of_lt_of_le hr h.size) (h.non r o hr hw)

theorem Ext.less {n n' : Nat} {L : Lay} {w : World} {L1 : Lay} {w1 : World} (hn : n ≤ n') (h : Ext n' L w L1 w1) : Ext n L w L1 w1 :=
  ⟨h.imm, fun b p hb => h.loc b p (by omega), fun g F hg => h.fam g F (by omega), h.size, h.fro, h.non⟩

theorem OwnOK.mono {n n' : Nat} {L : Lay} {w : World} {L' : Lay} {w' : World} (hn : n ≤ n') (e : Ext n L w L' w') {own : Own} {sz rb ro len cap : Nat} (h : OwnOK L n own sz rb ro len cap) : OwnOK L' n' own sz rb ro len cap := by
  cases own with
  | sealed => trivial
  | exact => exact h
  | fam g st =>
    obtain ⟨hg, h⟩ := h
    refine ⟨by omega, fun F' hF' => ?_⟩
    obtain ⟨F, hF, hh⟩ := e.fam g F' hg hF'
    obtain ⟨h1, h2⟩ := h F hF
    rcases hh with rfl | hh
    · exact ⟨h1, h2⟩
    · exact ⟨by omega, fun he => by omega⟩

theorem VR.mono {n n' : Nat} {L : Lay} {w : World} {L' : Lay} {w' : World} (hn : n ≤ n') (e : Ext n L w L' w') {x : AV} {v : Value} (h : VR n L w x v) : VR n' L' w' x v := by
  induction h with
  | bool b => exact .bool b
  | int k i => exact .int k i
  | str l s h => exact .str l s h
  | nilP => exact .nilP
  | ptr b off a hb ha => exact .ptr b off a (by omega) fun p hp => ha p (e.loc b p hb hp).1
  | rop v rb ro cv h1 ho _ ih => exact .rop v rb ro cv (fun j hj => ⟨((e.imm _ _ (h1 j hj).2).2).trans (h1 j hj).1, (e.imm _ _ (h1 j hj).2).1⟩) ho ih
  | nilS => exact .nilS
  | lit sz own xs rb ro cap cv hc hs h1 h1o _ ho ih =>
    exact .lit sz own xs rb ro cap cv hc hs (fun j hj => ⟨((e.imm _ _ (h1 j hj).2).2).trans (h1 j hj).1, (e.imm _ _ (h1 j hj).2).1⟩) h1o ih (ho.mono hn e)
  | lit0 sz own a h => exact .lit0 sz own a h
  | arr sz b off len a cap hb hc ha =>
    refine .arr sz b off len a cap (by omega) hc fun p hp => ?_
    obtain ⟨h1, h2, h2'⟩ := e.loc b p hb hp
    obtain ⟨h3, h4, h5, h6⟩ := ha p h1
    exact ⟨h3, fun j hj => h2 _ _ (h4 j hj), by rw [h2']; exact h5, h6.imp id fun g => ⟨Nat.lt_of_lt_of_le g.1 e.size, fun o => (e.fro _ o g.1).trans (g.2 o)⟩⟩
  | fn f xs ys rx ry h1 h2 _ _ i1 i2 => exact .fn f xs ys rx ry h1 h2 i1 i2
  | nilF => exact .nilF
  | iface t x v _ ih => exact .iface t x v ih
  | nilI => exact .nilI
  | agg cs rc h ho _ ih => exact .agg cs rc h ho ih
  | tup cs rc h _ ih => exact .tup cs rc h ih
  | nilM => exact .nilM
  | mpr b r hb hr => exact .mpr b r (by omega) fun p hp => hr p (e.loc b p hb hp).1

/-- the same value stands on fewer blocks -/
theorem VR.restrict {n n' : Nat} {L L0 : Lay} {w w0 : World} {x : AV} {v : Value} (h : VR n' L w x v) : ∀ {v0 : Value}, VR n L0 w0 x v0 → VR n L w x v := by
  induction h with
  | bool b => intro _ _; exact .bool b
  | int k i => intro _ _; exact .int k i
  | str l s h => intro _ _; exact .str l s h
  | nilP => intro _ _; exact .nilP
  | ptr b off a hb ha => intro _ k; cases k with | ptr _ _ _ hb' _ => exact .ptr b off a hb' ha
  | rop v rb ro cv h1 ho _ ih => intro _ k; cases k with | rop _ _ _ cv' _ _ h2 => exact .rop v rb ro cv h1 ho fun j c hj => ih j c hj (h2 j c hj)
  | nilS => intro _ _; exact .nilS
  | lit sz own xs rb ro cap cv hc hs h1 h1o _ ho ih =>
    intro _ k
    cases k with
    | lit0 _ _ _ hp => exact .lit sz own [] rb ro cap cv hc hs h1 h1o (fun j c hj => by simp [flat] at hj) (by cases own <;> first | exact ho | cases hp)
    | lit _ _ _ rb' ro' cap' cv' hc' hs' h1' _ h2' ho' =>
      refine .lit sz own xs rb ro cap cv hc hs h1 h1o (fun j c hj => ih j c hj (h2' j c hj)) ?_
      cases own with
      | sealed => trivial
      | exact => exact ho
      | fam g st => exact ⟨ho'.1, ho.2⟩
  | lit0 sz own a h => intro _ _; exact .lit0 sz own a h
  | arr sz b off len a cap hb hc ha => intro _ k; cases k with | arr _ _ _ _ _ _ hb' _ _ => exact .arr sz b off len a cap hb' hc ha
  | fn f xs ys rx ry h1 h2 _ _ i1 i2 =>
    intro _ k
    cases k with
    | fn _ _ _ rx' ry' _ _ k1 k2 => exact .fn f xs ys rx ry h1 h2 (fun i x hi => i1 i x hi (k1 i x hi)) (fun i x hi => i2 i x hi (k2 i x hi))
  | nilF => intro _ _; exact .nilF
  | iface t x v _ ih => intro _ k; cases k with | iface _ _ _ k => exact .iface t x v (ih k)
  | nilI => intro _ _; exact .nilI
  | agg cs rc h ho _ ih => intro _ k; cases k with | agg _ _ _ _ k => exact .agg cs rc h ho fun i x hi => ih i x hi (k i x hi)
  | tup cs rc h _ ih => intro _ k; cases k with | tup _ _ _ k => exact .tup cs rc h fun i x hi => ih i x hi (k i x hi)
  | nilM => intro _ _; exact .nilM
  | mpr b r hb hr => intro _ k; cases k with | mpr _ _ hb' _ => exact .mpr b r hb' hr

/-- is it a row of cells? -/
def rowO : Obj → Bool
  | .cells _ _ _ => true
  | _ => false
/-- what an object stands for -/
def ObR (n : Nat) (L : Lay) (w : World) : Ob → Obj → Prop
  | .sit s pos, x => ∃ b : ByteArray, b.data.toList = s ∧ x = .stringIter b pos
  | .mp es, x => ∃ (ra : Array MapEntry) (c : Nat), (x = .map ra c ∧ Go.MapKept.Stamped ra c) ∧ ra.size = es.length ∧ ∀ (i : Nat) (k : List UInt8) (v : AV), es[i]? = some (k, v) → ∃ (e : MapEntry) (kb : ByteArray), ra[i]? = some e ∧ e.key = .string kb ∧ kb.data.toList = k ∧ v.noTup = true ∧ VR n L w v e.val
theorem ObR.row {n : Nat} {L : Lay} {w : World} {o : Ob} {x : Obj} (h : ObR n L w o x) : rowO x = false := by
  cases o with
  | sit s pos => obtain ⟨b, _, rfl⟩ := h; rfl
  | mp es => obtain ⟨ra, c, ⟨rfl, _⟩, _⟩ := h; rfl
theorem ObR.mono {n n' : Nat} {L : Lay} {w : World} {L' : Lay} {w' : World} (hn : n ≤ n') (e : Ext n L w L' w') {o : Ob} {x : Obj} (h : ObR n L w o x) : ObR n' L' w' o x := by
  cases o with
  | sit s pos => exact h
  | mp es =>
    obtain ⟨ra, c, h1, h2, h3⟩ := h
    refine ⟨ra, c, h1, h2, fun i k v hi => ?_⟩
    obtain ⟨e', kb, k1, k2, k3, k4, k5⟩ := h3 i k v hi
    exact ⟨e', kb, k1, k2, k3, k4, k5.mono hn e⟩
/-- objects: each in a place of its own -/
structure Objs (B : Nat) (L : Lay) (w : World) (hp : List Blk) : Prop where
  at_ : ∀ (b : Nat) (o : Ob), hp[b]? = some (.obj o) → ∃ r, L.loc b = some (r, 0) ∧ B ≤ r ∧ ∃ x, w.heap[r]? = some x ∧ ObR hp.length L w o x
  apart : ∀ (b c : Nat) (o q : Ob) (r : Nat), hp[b]? = some (.obj o) → hp[c]? = some (.obj q) → L.loc b = some (r, 0) → L.loc c = some (r, 0) → b = c
/-- what is no row of cells stays -/
def KeepO (w w' : World) : Prop := ∀ (r : Nat) (x : Obj), w.heap[r]? = some x → rowO x = false → w'.heap[r]? = some x
theorem KeepO.refl (w : World) : KeepO w w := fun _ _ h _ => h
theorem KeepO.of {w w' : World} (h : ∀ r, r < w.heap.size → w'.heap[r]? = w.heap[r]?) : KeepO w w' := fun r x hx _ => by
  rw [h r (Array.getElem?_eq_some_iff.1 hx).1]; exact hx
theorem Objs.keep {B : Nat} {L L' : Lay} {w w' : World} {hp hp' : List Blk} (h : Objs B L w hp) (he : Ext hp.length L w L' w') (hl : ∀ (b : Nat) (o : Ob), hp[b]? = some (.obj o) → hp'[b]? = some (.obj o) → L'.loc b = L.loc b) (ho : KeepO w w') (hh : ∀ (b : Nat) (o : Ob), hp'[b]? = some (.obj o) → hp[b]? = some (.obj o)) (hn : hp.length ≤ hp'.length) : Objs B L' w' hp' := by
  refine ⟨fun b o hb => ?_, fun b c o q r hb hc h1 h2 => ?_⟩
  · have hb0 := hh b o hb
    obtain ⟨r, k1, k2, x, k3, k4⟩ := h.at_ b o hb0
    exact ⟨r, (hl b o hb0 hb).trans k1, k2, x, ho r x k3 k4.row, k4.mono hn he⟩
  · have hb0 := hh b o hb
    have hc0 := hh c q hc
    rw [hl b o hb0 hb] at h1
    rw [hl c q hc0 hc] at h2
    exact h.apart b c o q r hb0 hc0 h1 h2

/-- an owned, written-to cell is there -/
structure Inv (glob : Nat → Option AV) (B : Nat) (w0 : World) (L : Lay) (w : World) (hp : List Blk) : Prop where
  below : Below B w0 w
  size : B ≤ w.heap.size
  blks : ∀ b cs, hp[b]? = some (.cells cs) → ∃ p, L.loc b = some p ∧ L.ext b = cs.length ∧ ∀ j c, cs[j]? = some c →
    L.who p.1 (p.2 + j) = .blk b ∧ c.one = true ∧ ∃ rv, w.cell? ⟨p.1, p.2 + j, none⟩ = some rv ∧ VR hp.length L w c rv
  own : ∀ r o b, L.who r o = .blk b → B ≤ r ∧ (∃ v, w.cell? ⟨r, o, none⟩ = some v) ∧ w.frozen? ⟨r, o, none⟩ = false
  fams : ∀ g m, hp[g]? = some (.fam m) → ∃ F, L.fam g = some F ∧ F.mark = m ∧ F.st ≤ m ∧ m ≤ F.en ∧ ∀ j, (m - F.st) * F.sz ≤ j → j < (F.en - F.st) * F.sz → L.who F.rb (F.ro + j) = .spare g
  spare : ∀ r o g, L.who r o = .spare g → B ≤ r ∧ (∃ v, w.cell? ⟨r, o, none⟩ = some v) ∧ w.frozen? ⟨r, o, none⟩ = false
  fresh : ∀ r o, w.heap.size ≤ r → L.who r o = .none
  noLoc : ∀ b, hp.length ≤ b → L.loc b = none
  noFam : ∀ b, hp.length ≤ b → L.fam b = none
  globs : ∀ g v, glob g = some v → VR 0 L w (.rop v) (.pointer (some ⟨g, 0, none⟩))
  objs : Objs B L w hp
  kept : ∀ g v, glob g = some v → g < B ∧ ∃ cs t q, w0.heap[g]? = some (.cells cs t q) ∧ cs.size = v.cells.length

section
variable {P:Program}
theorem cond_true {α:Type} {c:Bool} {x y:α} (h:c=true):cond c x y=x:=by subst h;rfl
theorem cond_false {α:Type} {c:Bool} {x y:α} (h:c=false):cond c x y=y:=by subst h;rfl
structure TyOK (P:Program) (t:TypeId) (ti:TI):Prop where
 ex:∃ (i:TypeInfo) (d:TypeDesc) (z:Value),P.info? t=some i∧P.underlying t=some d∧i.size=ti.size∧i.bytes=ti.bytes∧ti.k=tkOf d ∧
  i.zero=some z∧mapO (ofConst 8) z.cells.toList=some ti.zero∧z.cells.size=ti.size∧allOne ti.zero=true∧ti.eq=(eqPlain P t d&&i.comparable)∧partsKnown P d=true∧isAggV z=(tkOf d).agg
theorem tiOf_ok {t:TypeId} {ti:TI} (h:tiOf P t=some ti):TyOK P t ti:=by
 unfold tiOf at h
 split at h
 ·rename_i i d hi hd
  split at h
  ·rename_i z hz
   split at h
   ·rename_i zs hzs
    cases hb:(z.cells.size==i.size&&allOne zs&&partsKnown P d&&(isAggV z==(tkOf d).agg)) with
    | false=>rw [hb] at h;cases h
    | true =>
     rw [hb] at h
     cases h
     simp only [Bool.and_eq_true,beq_iff_eq] at hb
     exact ⟨i,d,z,hi,hd,rfl,rfl,rfl,hz,hzs,hb.1.1.1,hb.1.1.2,rfl,hb.1.2,hb.2⟩
   ·cases h
  ·cases h
 ·cases h
def TysOK (P:Program) (C:Cfg):Prop:=∀ t ti,C.ty t=some ti→TyOK P t ti
theorem run_typeInfo {t:TypeId} {i:TypeInfo} (h:P.info? t=some i) (w:World):(typeInfo t).run P w = .ok i w:=by
 simp [typeInfo,h]
theorem run_sizeOf {t:TypeId} {i:TypeInfo} (h:P.info? t=some i) (w:World):(Go.sizeOf t).run P w = .ok i.size w:=by
 simp [Go.sizeOf,run_typeInfo h]
theorem run_zeroValue {t:TypeId} {i:TypeInfo} {z:Value} (h:P.info? t=some i) (hz:i.zero=some z) (w:World):(zeroValue t).run P w = .ok z w:=by
 simp [zeroValue,run_typeInfo h,hz]
theorem run_isAgg {t:TypeId} {d:TypeDesc} (h:P.underlying t=some d) (w:World):(isAgg t).run P w = .ok (tkOf d).agg w:=by
 simp only [isAgg,Sem.run_bind,run_underlying h w,Result.andThen_ok]
 cases d <;> simp [tkOf,TK.agg]
theorem allOne_mem:∀ {xs:List AV},allOne xs=true→∀ (i:Nat) x,xs[i]?=some x→x.one=true
 | [],_,i,x,h=>by simp at h
 | y::ys,h,0,x,hx=>by simp [allOne] at h;simp at hx;subst hx;exact h.1
 | y::ys,h,i + 1,x,hx=>by simp [allOne] at h;exact allOne_mem h.2 i x (by simpa using hx)
theorem ofConst_ok (L:Lay) (n:Nat) (w:World):∀ (d:Nat) (v:Value) (x:AV),ofConst d v=some x→VR n L w x v:=by
 intro d
 induction d with
 | zero=>intro v x h;cases h
 | succ d ih =>
  intro v x h
  unfold ofConst at h
  split at h
  all_goals first
   | (cases h;first | exact .bool _ | exact .int _ _ | exact .str _ _ rfl | exact .nilP | exact .nilS | exact .nilF | exact .nilI | exact .nilM)
   | skip
  ·rename_i cs
   cases hm:mapO (ofConst d) cs.toList with
   | none=>rw [hm] at h;cases h
   | some r =>
    rw [hm] at h
    dsimp only at h
    cases hb:allOne r with
    | false=>rw [hb] at h;cases h
    | true =>
    rw [hb] at h;cases h
    obtain ⟨hl,hi⟩:=mapO_eq _ _ _ hm
    refine .agg r cs (by simp [hl]) (allOne_mem hb) fun i x hx => ?_
    have hlt:i < cs.size:=by have:=(List.getElem?_eq_some_iff.1 hx).1;simpa [hl] using this
    obtain ⟨y,hy,hr⟩:=hi i cs[i] (by simp [hlt])
    have:x=y:=by rw [hx] at hr;exact Option.some.inj hr
    subst this
    have:=ih _ _ hy
    simpa [Array.getD,hlt] using this
  ·rename_i cs
   cases hm:mapO (ofConst d) cs.toList with
   | none=>rw [hm] at h;cases h
   | some r =>
    rw [hm] at h;cases h
    obtain ⟨hl,hi⟩:=mapO_eq _ _ _ hm
    refine .tup r cs (by simp [hl]) fun i x hx => ?_
    have hlt:i < cs.size:=by have:=(List.getElem?_eq_some_iff.1 hx).1;simpa [hl] using this
    obtain ⟨y,hy,hr⟩:=hi i cs[i] (by simp [hlt])
    have:x=y:=by rw [hx] at hr;exact Option.some.inj hr
    subst this
    have:=ih _ _ hy
    simpa [Array.getD,hlt] using this
  ·cases h
def CR (n:Nat) (L:Lay) (w:World) (xs:List AV) (vs:List Value):Prop :=
 vs.length=xs.length∧∀ (i:Nat) x v,xs[i]?=some x→vs[i]?=some v→VR n L w x v
theorem VR.cells {n:Nat} {L:Lay} {w:World} {x:AV} {v:Value} (h:VR n L w x v):CR n L w x.cells v.cells.toList:=by
 have one:x.cells=[x]→v.cells = #[v]→CR n L w x.cells v.cells.toList:=fun h1 h2=>by
  rw [h1,h2]
  refine ⟨rfl,fun i y u hy hu => ?_⟩
  cases i with
  | zero=>simp at hy hu;subst hy;subst hu;exact h
  | succ i=>simp at hy
 cases h with
 | agg cs rc hl _ hi =>
  refine ⟨by simp [Value.cells,AV.cells,hl],fun i x v hx hv => ?_⟩
  simp only [AV.cells] at hx
  simp only [Value.cells] at hv
  have:=hi i x hx
  rw [Array.getElem?_toList] at hv
  have e:rc.getD i default=v:=by
   rw [Array.getD_eq_getD_getElem?,hv];rfl
  rw [e] at this
  exact this
 | _=>exact one rfl rfl
theorem AV.cells_one {x:AV} (h:x.one=true):x.cells=[x]:=by cases x <;> first | rfl | cases h
theorem VR.ones {n:Nat} {L:Lay} {w:World} {x:AV} {v:Value} (h:VR n L w x v) (hx:x.noTup=true):∀ (i:Nat) c,x.cells[i]?=some c→c.one=true:=by
 have one:x.one=true→∀ (i:Nat) c,x.cells[i]?=some c→c.one=true:=fun h1 i c hc=>by
  rw [AV.cells_one h1] at hc
  cases i with
  | zero=>simp at hc;subst hc;exact h1
  | succ i=>simp at hc
 cases h with
 | agg cs rc hl ho hi=>exact ho
 | tup=>cases hx
 | _=>exact one rfl
end
section
variable {P:Program} {C:Cfg}
def Boxed (n:Nat) (L:Lay) (w:World) (base t:Nat) (cs:List AV) (v:Value):Prop :=
 ∃ rb,v = .pointer (some ⟨rb,0,none⟩)∧base≤rb∧rb < w.heap.size∧∀ (j:Nat) c,cs[j]?=some c→L.who rb j = .loc t∧w.frozen? ⟨rb,j,none⟩=false∧c.one=true ∧
  ∃ rv,w.cell? ⟨rb,j,none⟩=some rv∧VR n L w c rv
def SlotR (n:Nat) (L:Lay) (w:World) (base:Nat) (rt:Array Value) (i:Nat):TV→Prop
 | .junk=>True
 | .sk=>rt.getD i undef=undef
 | .v x=>VR n L w x (rt.getD i undef)
 | .bx cs=>Boxed n L w base i cs (rt.getD i undef)
 | .lp t off=>∃ rb,rt.getD t undef = .pointer (some ⟨rb,0,none⟩)∧rt.getD i undef = .pointer (some ⟨rb,off,none⟩)
structure FR (n:Nat) (L:Lay) (w:World) (base:Nat) (ts:List TV) (rt:Array Value):Prop where
 len:ts.length=rt.size
 slot:∀ i x,ts[i]?=some x→SlotR n L w base rt i x
 root:∀ (i:Nat) t off,ts[i]?=some (.lp t off)→∃ cs,ts[t]?=some (.bx cs)
def OR (n:Nat) (L:Lay) (w:World) (ts:List TV) (rt:Array Value):TV→Value→Prop
 | .junk,_=>True
 | .sk,v=>v=undef
 | .v x,v=>VR n L w x v
 | .bx _,_=>False
 | .lp t off,v=>∃ rb,rt.getD t undef = .pointer (some ⟨rb,0,none⟩)∧v = .pointer (some ⟨rb,off,none⟩)∧∃ cs,ts[t]?=some (.bx cs)
theorem Inv.glob0 {glob:Nat→Option AV} {B:Nat} {w0 w:World} {L:Lay} {hp:List Blk} (h:Inv glob B w0 L w hp) {g:Nat} {v:AV} (hg:glob g=some v) (n:Nat) :
  VR n L w (.rop v) (.pointer (some ⟨g,0,none⟩)):=(h.globs g v hg).mono (Nat.zero_le _) (Ext.refl 0 L w)
theorem opnd_ok {B base:Nat} {w0 w:World} {L:Lay} {hp:List Blk} {ts:List TV} {rt:Array Value} {ds:List Deferred} (hI:Inv C.glob B w0 L w hp) (hF:FR hp.length L w base ts rt)
  {x:Operand} {tv:TV} (h:opnd C ts x=some tv):OR hp.length L w ts rt tv (({ tmps:=rt,defers:=ds }:Act).eval x):=by
 cases x with
 | tmp t =>
  simp only [opnd,getAt_eq] at h
  show OR _ _ _ _ _ _ (rt.getD t undef)
  split at h
  ·rename_i cs hcs
   cases h
   obtain ⟨rb,h1,_⟩:=hF.slot t _ hcs
   exact ⟨rb,h1,h1,cs,hcs⟩
  ·rename_i y hb hy
   cases h
   have hs:=hF.slot t _ hy
   cases tv with
   | junk=>trivial
   | sk=>exact hs
   | v x=>exact hs
   | bx cs=>exact (hb cs rfl).elim
   | lp s off =>
    obtain ⟨rb,h1,h2⟩:=hs
    exact ⟨rb,h1,h2,hF.root t s off hy⟩
  ·rename_i hn
   cases h
   have h1:rt.size≤t:=by
    have:=List.getElem?_eq_none_iff.1 hn
    rw [hF.len] at this
    exact this
   have h2:¬ t < rt.size:=Nat.not_lt.2 h1
   show rt.getD t undef=undef
   simp [Array.getD,h2]
 | const v =>
  simp only [opnd,Option.map_eq_some_iff] at h
  obtain ⟨a,ha,rfl⟩:=h
  exact ofConst_ok L _ w 8 v a ha
 | global g =>
  simp only [opnd,Option.map_eq_some_iff] at h
  obtain ⟨a,ha,rfl⟩:=h
  exact hI.glob0 ha _
 | func f =>
  simp only [opnd,Option.some.injEq] at h
  subst h
  exact .fn _ _ _ _ _ rfl rfl (fun i x hx=>by simp at hx) (fun i x hx=>by simp at hx)
theorem opv_ok {B base:Nat} {w0 w:World} {L:Lay} {hp:List Blk} {ts:List TV} {rt:Array Value} {ds:List Deferred} (hI:Inv C.glob B w0 L w hp) (hF:FR hp.length L w base ts rt)
  {x:Operand} {a:AV} (h:opv C ts x=some a):VR hp.length L w a (({ tmps:=rt,defers:=ds }:Act).eval x):=by
 unfold opv at h
 split at h
 ·rename_i b hb
  cases h
  exact opnd_ok hI hF hb
 ·cases h
def KeepLoc (s:Nat) (L:Lay) (w:World) (L':Lay) (w':World):Prop :=
 ∀ r o t,r < s→L.who r o = .loc t→L'.who r o = .loc t∧w'.cell? ⟨r,o,none⟩=w.cell? ⟨r,o,none⟩∧w'.frozen? ⟨r,o,none⟩=w.frozen? ⟨r,o,none⟩
theorem KeepLoc.refl (s:Nat) (L:Lay) (w:World):KeepLoc s L w L w:=fun _ _ _ _ h=>⟨h,rfl,rfl⟩
theorem KeepLoc.trans {s s':Nat} {L L1 L2:Lay} {w w1 w2:World} (hs:s≤s') (h:KeepLoc s L w L1 w1) (k:KeepLoc s' L1 w1 L2 w2):KeepLoc s L w L2 w2:=fun r o t hr hl=>by
 obtain ⟨h1,h2,h3⟩:=h r o t hr hl
 obtain ⟨k1,k2,k3⟩:=k r o t (by omega) h1
 exact ⟨k1,k2.trans h2,k3.trans h3⟩
theorem KeepLoc.less {s s':Nat} {L L1:Lay} {w w1:World} (hs:s≤s') (h:KeepLoc s' L w L1 w1):KeepLoc s L w L1 w1:=fun r o t hr hl=>h r o t (by omega) hl
theorem Boxed.mono {n n' base t:Nat} {L L':Lay} {w w':World} {cs:List AV} {v:Value} (hn:n≤n') (e:Ext n L w L' w') (hk:KeepLoc w.heap.size L w L' w') (hs:w.heap.size≤w'.heap.size)
  (h:Boxed n L w base t cs v):Boxed n' L' w' base t cs v:=by
 obtain ⟨rb,h1,h2,h3,h4⟩:=h
 refine ⟨rb,h1,h2,by omega,fun j c hj => ?_⟩
 obtain ⟨k1,k2,ko,rv,k3,k4⟩:=h4 j c hj
 obtain ⟨l1,l2,l3⟩:=hk rb j t h3 k1
 exact ⟨l1,l3.trans k2,ko,rv,l2.trans k3,k4.mono hn e⟩
theorem SlotR.mono {n n' base i:Nat} {L L':Lay} {w w':World} {rt:Array Value} {x:TV} (hn:n≤n') (e:Ext n L w L' w') (hk:KeepLoc w.heap.size L w L' w') (hs:w.heap.size≤w'.heap.size)
  (h:SlotR n L w base rt i x):SlotR n' L' w' base rt i x:=by
 cases x with
 | junk=>trivial
 | sk=>exact h
 | v x=>exact VR.mono hn e h
 | bx cs=>exact Boxed.mono hn e hk hs h
 | lp t off=>exact h
theorem FR.mono {n n' base:Nat} {L L':Lay} {w w':World} {ts:List TV} {rt:Array Value} (hn:n≤n') (e:Ext n L w L' w') (hk:KeepLoc w.heap.size L w L' w') (hs:w.heap.size≤w'.heap.size)
  (h:FR n L w base ts rt):FR n' L' w' base ts rt :=
 ⟨h.len,fun i x hx=>(h.slot i x hx).mono hn e hk hs,h.root⟩
theorem getD_set_eq {rt:Array Value} {d:Nat} {v:Value} (hd:d < rt.size):(rt.setIfInBounds d v).getD d undef=v:=by
 simp [Array.getD,hd]
theorem getD_set_ne' {rt:Array Value} {d i:Nat} {v:Value} (h:d≠i):(rt.setIfInBounds d v).getD i undef=rt.getD i undef:=by
 simp [Array.getElem?_setIfInBounds_ne h]
def DstR (n:Nat) (L:Lay) (w:World) (base:Nat) (ts:List TV) (rt:Array Value) (d:Nat):TV→Value→Prop
 | .bx cs,v=>Boxed n L w base d cs v
 | x,v=>OR n L w ts rt x v
theorem put_ok {n base:Nat} {L:Lay} {w:World} {ts ts':List TV} {rt:Array Value} {ds:List Deferred} {dst:Option Tmp} {x:TV} {v:Value} (h:put ts dst x=some ts') (hF:FR n L w base ts rt)
  (hx:∀ d,dst=some d→DstR n L w base ts rt d x v):FR n L w base ts' ((({ tmps:=rt,defers:=ds }:Act).put dst v).tmps):=by
 cases dst with
 | none=>simp only [put,Option.some.injEq] at h;subst h;exact hF
 | some d =>
  simp only [put,getAt_eq] at h
  split at h
  ·cases h
  ·rename_i y hb hy
   cases h
   have hd:d < rt.size:=by have:=(List.getElem?_eq_some_iff.1 hy).1;rw [hF.len] at this;exact this
   have hdl:d < ts.length:=by rw [hF.len];exact hd
   show FR n L w base (setAt ts d x) (rt.setIfInBounds d v)
   rw [setAt_eq]
   have hx:=hx d rfl
   have hroot:∀ (i:Nat) off,ts[i]?≠some (.lp d off):=fun i off hi=>by
    obtain ⟨cs,hc⟩:=hF.root i d off hi
    exact hb cs (by rw [hy] at hc;exact Option.some.inj hc)
   refine ⟨by simp [hF.len],fun i z hz => ?_,fun i t off hz => ?_⟩
   ·by_cases hi:d=i
    ·subst hi
     rw [List.getElem?_set_self hdl] at hz
     cases hz
     cases x with
     | junk=>trivial
     | sk=>show _=_;rw [getD_set_eq hd];exact hx
     | v x=>show VR _ _ _ _ _;rw [getD_set_eq hd];exact hx
     | bx cs=>show Boxed _ _ _ _ _ _ _;rw [getD_set_eq hd];exact hx
     | lp t off =>
      obtain ⟨rb,h1,h2,cs,h3⟩:=hx
      have hne:d≠t:=fun e=>hb cs (by rw [← e,hy] at h3;exact Option.some.inj h3)
      exact ⟨rb,by rw [getD_set_ne' hne];exact h1,by rw [getD_set_eq hd];exact h2⟩
    ·rw [List.getElem?_set_ne hi] at hz
     have:=hF.slot i z hz
     cases z with
     | junk=>trivial
     | sk=>show _=_;rw [getD_set_ne' hi];exact this
     | v x=>show VR _ _ _ _ _;rw [getD_set_ne' hi];exact this
     | bx cs=>show Boxed _ _ _ _ _ _ _;rw [getD_set_ne' hi];exact this
     | lp t off =>
      obtain ⟨rb,h1,h2⟩:=this
      have hne:d≠t:=fun e=>hroot i off (e ▸ hz)
      exact ⟨rb,by rw [getD_set_ne' hne];exact h1,by rw [getD_set_ne' hi];exact h2⟩
   ·by_cases hi:d=i
    ·subst hi
     rw [List.getElem?_set_self hdl] at hz
     cases hz
     obtain ⟨rb,h1,h2,cs,h3⟩:=hx
     have hne:d≠t:=fun e=>hb cs (by rw [← e,hy] at h3;exact Option.some.inj h3)
     exact ⟨cs,by rw [List.getElem?_set_ne hne];exact h3⟩
    ·rw [List.getElem?_set_ne hi] at hz
     obtain ⟨cs,hc⟩:=hF.root i t off hz
     have hne:d≠t:=fun e=>hroot i off (e ▸ hz)
     exact ⟨cs,by rw [List.getElem?_set_ne hne];exact hc⟩
  ·cases h
end
section
variable {P:Program} {C:Cfg}
def Lies (n:Nat) (L:Lay) (w:World) (cs:List AV) (rb ro:Nat):Prop :=
 ∀ (j:Nat) c,cs[j]?=some c→c.one=true∧∃ rv,w.cell? ⟨rb,ro + j,none⟩=some rv∧VR n L w c rv
theorem part_one {ti:TI} {cs:List AV} {off:Nat} {x:AV} (ha:ti.k.agg=false) (h:part ti cs off=some x):cs[off]?=some x:=by
 unfold part at h;rw [ha] at h;simpa [getAt_eq] using h
theorem part_agg {ti:TI} {cs:List AV} {off:Nat} {x:AV} (ha:ti.k.agg=true) (h:part ti cs off=some x) :
  x = .agg ((cs.drop off).take ti.size)∧((cs.drop off).take ti.size).length=ti.size:=by
 unfold part at h;rw [ha] at h
 simp only [cond_true] at h
 cases hb:(((cs.drop off).take ti.size).length==ti.size) with
 | false=>rw [hb] at h;cases h
 | true=>rw [hb] at h;cases h;exact ⟨rfl,by simpa using hb⟩
theorem run_loadVar_part {n:Nat} {L:Lay} {w:World} {t:TypeId} {ti:TI} {cs:List AV} {off:Nat} {x:AV} {rb ro:Nat} (hT:TyOK P t ti) (h:part ti cs off=some x) (hl:Lies n L w cs rb ro) :
  ∃ rv,(loadVar t ⟨rb,ro + off,none⟩).run P w = .ok rv w∧VR n L w x rv:=by
 obtain ⟨i,d,z,hi,hd,hs,_,hk, -⟩:=hT.ex
 cases ha:ti.k.agg with
 | false =>
  have:=part_one ha h
  obtain ⟨_,rv,h1,h2⟩:=hl off x this
  refine ⟨rv, ?_,h2⟩
  rw [hk] at ha
  simp [loadVar,run_isAgg hd,ha,h1]
 | true =>
  obtain ⟨rfl,hlen⟩:=part_agg ha h
  have hget:∀ j,j < ti.size→∃ c,cs[off + j]?=some c:=fun j hj=>by
   have:j < ((cs.drop off).take ti.size).length:=by omega
   have h2:=List.getElem?_eq_getElem this
   rw [List.getElem?_take_of_lt hj,List.getElem?_drop] at h2
   exact ⟨_,h2⟩
  let f:Nat→Value:=fun j=>(w.cell? ⟨rb,ro + off + j,none⟩).getD default
  have hf:∀ j c,cs[off + j]?=some c→w.cell? ⟨rb,ro + off + j,none⟩=some (f j)∧VR n L w c (f j):=fun j c hc=>by
   obtain ⟨_,rv,h1,h2⟩:=hl (off + j) c hc
   rw [← Nat.add_assoc] at h1
   have:f j=rv:=by simp [f,h1]
   rw [this];exact ⟨h1,h2⟩
  refine ⟨.agg ((List.range ti.size).map f).toArray, ?_, ?_⟩
  ·refine run_loadVar_mid w rb (ro + off) t _ d ?_ hd ?_ ?_
   ·intro j v hv
    simp only [List.getElem?_map,Option.map_eq_some_iff] at hv
    obtain ⟨k,hk1,rfl⟩:=hv
    have hj:j < ti.size:=by
     rcases Nat.lt_or_ge j ti.size with hj | hj
     ·exact hj
     ·simp [Nat.not_lt.2 hj] at hk1
    have:j=k:=by simpa [List.getElem?_range,hj] using hk1
    subst this
    obtain ⟨c,hc⟩:=hget j hj
    exact (hf j c hc).1
   ·rw [hk] at ha;cases d <;> simp_all [tkOf,TK.agg,TypeDesc.isRow]
   ·simp [hi,hs]
  ·refine .agg _ _ (by simp [hlen]) (fun j c hc => ?_) fun j c hc => ?_
   ·have hj:j < ti.size:=by have:=(List.getElem?_eq_some_iff.1 hc).1;omega
    rw [List.getElem?_take_of_lt hj,List.getElem?_drop] at hc
    exact (hl _ c hc).1
   have hj:j < ti.size:=by have:=(List.getElem?_eq_some_iff.1 hc).1;omega
   rw [List.getElem?_take_of_lt hj,List.getElem?_drop] at hc
   have:=(hf j c hc).2
   simpa [Array.getD,hj] using this
theorem asVal_part {ti:TI} {v x:AV} (h:asVal ti v=some x):x=v∧part ti v.cells 0=some v:=by
 unfold asVal at h
 cases ha:ti.k.agg with
 | true =>
  rw [ha] at h
  simp only [cond_true] at h
  split at h
  ·rename_i cs
   cases hb:(cs.length==ti.size) with
   | false=>rw [hb] at h;cases h
   | true =>
    rw [hb] at h;cases h
    refine ⟨rfl, ?_⟩
    have:cs.length=ti.size:=by simpa using hb
    simp [part,ha,AV.cells,this.symm]
  ·cases h
 | false =>
  rw [ha] at h
  simp only [cond_false] at h
  split at h
  ·cases h
  ·cases h
  ·rename_i h1 h2
   cases h
   refine ⟨rfl, ?_⟩
   have:v.cells=[v]:=by cases v <;> first | rfl | (exact absurd rfl (h1 _))
   simp [part,ha,this,getAt]
theorem VR.lies {n:Nat} {L:Lay} {w:World} {v:AV} {rb ro:Nat} {cv:Nat→Value} (h1:∀ j,j < v.cells.length→w.cell? ⟨rb,ro + j,none⟩=some (cv j)∧L.who rb (ro + j) = .imm)
  (ho:∀ (j:Nat) c,v.cells[j]?=some c→c.one=true) (h2:∀ (j:Nat) c,v.cells[j]?=some c→VR n L w c (cv j)):Lies n L w v.cells rb ro:=fun j c hc =>
 ⟨ho j c hc,cv j,(h1 j (List.getElem?_eq_some_iff.1 hc).1).1,h2 j c hc⟩
theorem blkCells_eq {hp:List Blk} {b:Nat} {cs:List AV} (h:blkCells hp b=some cs):hp[b]?=some (.cells cs):=by
 unfold blkCells at h
 rw [getAt_eq] at h
 split at h
 ·rename_i cs' hc;cases h;exact hc
 ·cases h
theorem slotCells_eq {ts:List TV} {b:Nat} {cs:List AV} (h:slotCells ts b=some cs):ts[b]?=some (.bx cs):=by
 unfold slotCells at h
 rw [getAt_eq] at h
 split at h
 ·rename_i cs' hc;cases h;exact hc
 ·cases h
theorem Inv.lies {glob:Nat→Option AV} {B:Nat} {w0 w:World} {L:Lay} {hp:List Blk} (hI:Inv glob B w0 L w hp) {b:Nat} {cs:List AV} (h:hp[b]?=some (.cells cs)) :
  ∃ p,L.loc b=some p∧Lies hp.length L w cs p.1 p.2:=by
 obtain ⟨p,h1,_,h2⟩:=hI.blks b cs h
 exact ⟨p,h1,fun j c hc=>(h2 j c hc).2⟩
theorem Boxed.lies {n base t:Nat} {L:Lay} {w:World} {cs:List AV} {v:Value} (h:Boxed n L w base t cs v):∃ rb,v = .pointer (some ⟨rb,0,none⟩)∧Lies n L w cs rb 0:=by
 obtain ⟨rb,h1,_,_,h2⟩:=h
 refine ⟨rb,h1,fun j c hc => ?_⟩
 obtain ⟨_,_,ho,rv,h3,h4⟩:=h2 j c hc
 exact ⟨ho,rv,by rw [Nat.zero_add];exact h3,h4⟩
theorem loadAt_ok {B base:Nat} {w0 w:World} {L:Lay} {st:St} {rt:Array Value} (hT:TysOK P C) (hI:Inv C.glob B w0 L w st.hp) (hF:FR st.hp.length L w base st.tmps rt)
  {t:TypeId} {tv:TV} {va:Value} {r:Res} (h:loadAt C st t tv=some r) (ha:OR st.hp.length L w st.tmps rt tv va) :
  r.tmps=st.tmps∧r.hp=st.hp∧∃ x rv,r.val = .v x∧(Instr.loadAt t va).run P w = .ok rv w∧VR st.hp.length L w x rv:=by
 unfold loadAt at h
 cases hti:C.ty t with
 | none=>rw [hti] at h;cases h
 | some ti =>
  rw [hti] at h
  have hty:=hT t ti hti
  dsimp only at h
  split at h
  ·rename_i v
   unfold ofO at h
   simp only [Option.map_eq_some_iff] at h
   obtain ⟨x,hx,rfl⟩:=h
   obtain ⟨rfl,hp⟩:=asVal_part hx
   cases ha with
   | rop _ rb ro cv h1 ho h2 =>
    obtain ⟨rv,h3,h4⟩:=run_loadVar_part hty hp (VR.lies h1 ho h2)
    exact ⟨rfl,rfl,x,rv,rfl,by simpa [Instr.loadAt,Instr.sureAddr] using h3,h4⟩
  ·rename_i b off
   split at h
   ·rename_i cs hcs
    simp only [Option.map_eq_some_iff] at h
    obtain ⟨x,hx,rfl⟩:=h
    cases ha with
    | ptr _ _ a hb ha =>
     obtain ⟨p,hp1,hp2⟩:=hI.lies (blkCells_eq hcs)
     obtain ⟨rv,h3,h4⟩:=run_loadVar_part hty hx hp2
     have:=ha p hp1;subst this
     exact ⟨rfl,rfl,x,rv,rfl,by simpa [Instr.loadAt,Instr.sureAddr] using h3,h4⟩
   ·cases h
  ·rename_i s off
   split at h
   ·rename_i cs hcs
    simp only [Option.map_eq_some_iff] at h
    obtain ⟨x,hx,rfl⟩:=h
    obtain ⟨rb,h1,rfl,_⟩:=ha
    obtain ⟨rb',h1',hl⟩:=Boxed.lies (hF.slot s _ (slotCells_eq hcs))
    have:rb=rb':=by rw [h1] at h1';cases h1';rfl
    subst this
    obtain ⟨rv,h3,h4⟩:=run_loadVar_part hty hx hl
    exact ⟨rfl,rfl,x,rv,rfl,by simpa [Instr.loadAt,Instr.sureAddr] using h3,h4⟩
   ·cases h
  ·cases h
end
section
variable {P:Program} {C:Cfg}
structure Wrote (w w':World) (rb lo:Nat) (vs:List Value):Prop where
 size:w'.heap.size=w.heap.size
 out:∀ r o,(r=rb→o < lo∨lo + vs.length≤o)→w'.cell? ⟨r,o,none⟩=w.cell? ⟨r,o,none⟩
 inn:∀ (j:Nat) v,vs[j]?=some v→w'.cell? ⟨rb,lo + j,none⟩=some v
 fro:∀ a,w'.frozen? a=w.frozen? a
 below:∀ B w0,(vs≠[]→B≤rb)→Below B w0 w→Below B w0 w'
 obj:KeepO w w'
theorem Below.setCells' {B:Nat} {w0:World} {b:Nat} (hb:B≤b):∀ (vs:List Value) (o:Nat) (w:World),Below B w0 w→Below B w0 (w.setCells b o vs)
 | [],_,_,h=>h
 | v::vs,o,w,h=>Below.setCells' hb vs (o + 1) (w.setCell ⟨b,o,none⟩ v) (h.setCell hb v)
theorem KeepO.trans {a b c:World} (h:KeepO a b) (k:KeepO b c):KeepO a c:=fun r x hx hr=>k r x (h r x hx hr) hr
theorem keepO_setCell (w:World) (a:Addr) (v:Value):KeepO w (w.setCell a v):=fun r x hx hr=>by
 unfold World.setCell
 simp only [Array.getElem?_modify]
 split
 ·rename_i h
  subst h
  rw [hx]
  cases x <;> first | rfl | cases hr
 ·exact hx
theorem keepO_setCells (rb:Nat):∀ (vs:List Value) (o:Nat) (w:World),KeepO w (w.setCells rb o vs)
 | [],_,w=>KeepO.refl w
 | v::vs,o,w=>(keepO_setCell w _ v).trans (keepO_setCells rb vs (o + 1) (w.setCell ⟨rb,o,none⟩ v))
theorem obj_app {hp:List Blk} {x:Blk} (hx:∀ o,x ≠ .obj o) (b:Nat) (o:Ob) (h:(hp++[x])[b]?=some (.obj o)):hp[b]?=some (.obj o):=by
 rcases Nat.lt_or_ge b hp.length with hb | hb
 ·rwa [List.getElem?_append_left hb] at h
 ·rw [List.getElem?_append_right hb] at h
  have:=List.mem_of_getElem? h
  exact absurd (by simpa using this) (hx o ∘ Eq.symm)
theorem obj_set {hp:List Blk} {c:Nat} {x:Blk} (hx:∀ o,x ≠ .obj o) (b:Nat) (o:Ob) (h:(hp.set c x)[b]?=some (.obj o)):hp[b]?=some (.obj o)∧b≠c:=by
 have hb:b < hp.length:=by simpa using (List.getElem?_eq_some_iff.1 h).1
 by_cases he:c=b
 ·subst he
  rw [List.getElem?_set_self hb] at h
  exact absurd (Option.some.inj h) (hx o)
 ·rw [List.getElem?_set_ne he] at h
  exact ⟨h,fun e=>he e.symm⟩
theorem obj_lt {hp:List Blk} {b:Nat} {o:Ob} (h:hp[b]?=some (.obj o)):b < hp.length:=(List.getElem?_eq_some_iff.1 h).1
theorem wrote_setCells {w:World} {rb lo:Nat} {vs:List Value} (h:∀ j,j < vs.length→(w.cell? ⟨rb,lo + j,none⟩).isSome=true):Wrote w (w.setCells rb lo vs) rb lo vs where
 size:=by
  have:∀ (vs:List Value) (o:Nat) (w:World),(w.setCells rb o vs).heap.size=w.heap.size:=by
   intro vs
   induction vs with
   | nil=>intro o w;rfl
   | cons v vs ih=>intro o w;show ((w.setCell _ v).setCells rb (o + 1) vs).heap.size=_;rw [ih];simp
  exact this vs lo w
 out r o hr:=World.cell?_setCells_out rb vs lo w ⟨r,o,none⟩ (fun h _=>hr h)
 inn j v hv:=by
  obtain ⟨hj,rfl⟩:=List.getElem?_eq_some_iff.1 hv
  exact World.cell?_setCells_in rb vs lo w h j hj
 fro a:=World.frozen?_setCells rb vs lo w a
 below B w0 hb hB:=by
  cases vs with
  | nil=>exact hB
  | cons v vs=>exact Below.setCells' (hb (by simp)) (v::vs) lo w hB
 obj:=keepO_setCells rb vs lo w
theorem run_storeVar_any {t:TypeId} {i:TypeInfo} {w:World} {rb o:Nat} {v:Value} (hi:P.info? t=some i) (hs:v.cells.size=i.size)
  (ht:∀ j,j < v.cells.size→(w.cell? ⟨rb,o + j,none⟩).isSome=true∧w.frozen? ⟨rb,o + j,none⟩=false) (h1:∀ x ∈ v.cells.toList,x.oneCell'=true) :
  (storeVar t ⟨rb,o,none⟩ v).run P w = .ok () (w.setCells rb o v.cells.toList):=by
 have:=run_storeCells_cells (P:=P) rb o v.cells.toList 0 w (fun j hj=>by simpa using (ht j (by simpa using hj)).1) (fun j hj=>by simpa using (ht j (by simpa using hj)).2) h1
 simp only [Nat.add_zero] at this
 simp [storeVar,run_sizeOf hi,hs,this]
theorem VR.one {n:Nat} {L:Lay} {w:World} {x:AV} {v:Value} (h:VR n L w x v) (hx:x.one=true):v.oneCell'=true:=by
 cases h <;> first | rfl | cases hx
theorem CR.allOne {n:Nat} {L:Lay} {w:World} {xs:List AV} {vs:List Value} (h:CR n L w xs vs) (ho:∀ (i:Nat) x,xs[i]?=some x→x.one=true):∀ v ∈ vs,v.oneCell'=true:=fun v hv=>by
 obtain ⟨i,hi⟩:=List.mem_iff_getElem?.1 hv
 have hlt:i < xs.length:=by have:=(List.getElem?_eq_some_iff.1 hi).1;rw [h.1] at this;exact this
 have hx:=List.getElem?_eq_getElem hlt
 exact (h.2 i _ v hx hi).one (ho i _ hx)
theorem splice_length {α:Type} {cs xs:List α} {off:Nat} (h:off + xs.length≤cs.length):(splice cs off xs).length=cs.length:=by
 rw [splice_eq cs off xs (by omega)]
 simp;omega
theorem splice_get {α:Type} {cs xs:List α} {off:Nat} (h:off + xs.length≤cs.length) (j:Nat) :
  (splice cs off xs)[j]?=if off≤j∧j < off + xs.length then xs[j - off]? else cs[j]?:=by
 rw [splice_eq cs off xs (by omega)]
 by_cases h1:j < off
 ·rw [if_neg (by omega),List.append_assoc,List.getElem?_append_left (by simp;omega),List.getElem?_take_of_lt h1]
 ·by_cases h2:j < off + xs.length
  ·rw [if_pos ⟨by omega,h2⟩,List.append_assoc,List.getElem?_append_right (by simp;omega),List.getElem?_append_left (by simp;omega)]
   congr 1
   simp;omega
  ·rw [if_neg (by omega),List.getElem?_append_right (by simp;omega),List.getElem?_drop]
   congr 1
   simp;omega
theorem Wrote.ext {n:Nat} {L:Lay} {w w':World} {rb lo:Nat} {vs:List Value} (h:Wrote w w' rb lo vs) (ho:∀ j,j < vs.length→L.who rb (lo + j) ≠ .imm):Ext n L w L w' where
 imm r o hr:=⟨hr,h.out r o fun e=>by
  rcases Nat.lt_or_ge o lo with h1 | h1
  ·exact .inl h1
  ·rcases Nat.lt_or_ge o (lo + vs.length) with h2 | h2
   ·subst e
    have:=ho (o - lo) (by omega)
    rw [show lo + (o - lo)=o by omega] at this
    exact absurd hr this
   ·exact .inr h2⟩
 loc b p _ hp:=⟨hp,fun _ _ h=>h,rfl⟩
 fam g F _ hF:=⟨F,hF, .inl rfl⟩
 size:=Nat.le_of_eq h.size.symm
 fro r o _:=h.fro _
 non _ _ _ h:=h
theorem Wrote.keep {L:Lay} {w w':World} {rb lo s:Nat} {vs:List Value} (h:Wrote w w' rb lo vs) (ho:∀ j t,j < vs.length→rb < s→L.who rb (lo + j) ≠ .loc t):KeepLoc s L w L w':=fun r o t hr hl =>
 ⟨hl,h.out r o fun e=>by
  rcases Nat.lt_or_ge o lo with h1 | h1
  ·exact .inl h1
  ·rcases Nat.lt_or_ge o (lo + vs.length) with h2 | h2
   ·subst e
    have:=ho (o - lo) t (by omega) hr
    rw [show lo + (o - lo)=o by omega] at this
    exact absurd hl this
   ·exact .inr h2,h.fro _⟩
theorem Wrote.some {w w':World} {rb lo:Nat} {vs:List Value} (h:Wrote w w' rb lo vs) {r o:Nat} (hc:∃ v,w.cell? ⟨r,o,none⟩=some v):∃ v,w'.cell? ⟨r,o,none⟩=some v:=by
 by_cases hr:r=rb∧lo≤o∧o < lo + vs.length
 ·obtain ⟨rfl,h1,h2⟩:=hr
  have:=List.getElem?_eq_getElem (l:=vs) (i:=o - lo) (by omega)
  have:=h.inn _ _ this
  rw [show lo + (o - lo)=o by omega] at this
  exact ⟨_,this⟩
 ·obtain ⟨v,hv⟩:=hc
  exact ⟨v,by rw [h.out r o (fun e=>by omega)];exact hv⟩
theorem Inv.write {glob:Nat→Option AV} {B:Nat} {w0 w w':World} {L:Lay} {hp:List Blk} (hI:Inv glob B w0 L w hp) {b:Nat} {cs:List AV} (hb:hp[b]?=some (.cells cs))
  {p:Nat × Nat} (hp':L.loc b=some p) {off:Nat} {xs:List AV} {vs:List Value} (hv:CR hp.length L w xs vs) (hone:∀ (i:Nat) x,xs[i]?=some x→x.one=true) (hr:off + xs.length≤cs.length) (hw:Wrote w w' p.1 (p.2 + off) vs) :
  Inv glob B w0 L w' (hp.set b (.cells (splice cs off xs)))∧Ext hp.length L w L w'∧∀ s,KeepLoc s L w L w':=by
 obtain ⟨p',hp1,hlen,hcs⟩:=hI.blks b cs hb
 have:p'=p:=by rw [hp'] at hp1;exact (Option.some.inj hp1).symm
 subst this
 have hown:∀ j,j < vs.length→L.who p'.1 (p'.2 + off + j) = .blk b:=fun j hj=>by
  have hj':off + j < cs.length:=by rw [hv.1] at hj;omega
  have:=(hcs (off + j) _ (List.getElem?_eq_getElem hj')).1
  rw [← Nat.add_assoc] at this;exact this
 have hext:Ext hp.length L w L w':=hw.ext fun j hj=>by rw [hown j hj];simp
 have hkeep:∀ s,KeepLoc s L w L w':=fun s=>hw.keep fun j t hj _=>by rw [hown j hj];simp
 have hbl:b < hp.length:=(List.getElem?_eq_some_iff.1 hb).1
 refine ⟨⟨?_, ?_, ?_, ?_, ?_, ?_, ?_, ?_, ?_, ?_, ?_, ?_⟩,hext,hkeep⟩
 ·exact hw.below B w0 (fun hz=>(hI.own _ _ _ (hown 0 (by cases vs <;> simp_all))).1) hI.below
 ·rw [hw.size];exact hI.size
 ·intro b2 cs2 h2
  by_cases he:b=b2
  ·subst he
   rw [List.getElem?_set_self hbl] at h2
   cases h2
   refine ⟨p',hp1,by rw [splice_length hr];exact hlen,fun j c hc => ?_⟩
   rw [splice_get hr] at hc
   split at hc
   ·rename_i hin
    obtain ⟨rv,hrv⟩:∃ rv,vs[j - off]?=some rv:=⟨_,List.getElem?_eq_getElem (by rw [hv.1];omega)⟩
    have h1:=hown (j - off) (by rw [hv.1];omega)
    have h2:=hw.inn _ _ hrv
    rw [show p'.2 + off + (j - off)=p'.2 + j by omega] at h1 h2
    exact ⟨h1,hone _ _ hc,rv,h2,by simpa using (hv.2 _ _ _ hc hrv).mono (Nat.le_refl _) hext⟩
   ·rename_i hout
    obtain ⟨h1,ho,rv,h2,h3⟩:=hcs j c hc
    refine ⟨h1,ho,rv, ?_,by simpa using h3.mono (Nat.le_refl _) hext⟩
    rw [hw.out _ _ (fun _=>by rw [hv.1];omega)];exact h2
  ·rw [List.getElem?_set_ne he] at h2
   obtain ⟨q,hq,hql,h3⟩:=hI.blks b2 cs2 h2
   refine ⟨q,hq,hql,fun j c hc => ?_⟩
   obtain ⟨h4,ho,rv,h5,h6⟩:=h3 j c hc
   refine ⟨h4,ho,rv, ?_,by simpa using h6.mono (Nat.le_refl _) hext⟩
   rw [hw.out _ _ (fun e => ?_)];exact h5
   rcases Nat.lt_or_ge (q.2 + j) (p'.2 + off) with h7 | h7
   ·exact .inl h7
   ·rcases Nat.lt_or_ge (q.2 + j) (p'.2 + off + vs.length) with h8 | h8
    ·have:=hown (q.2 + j - (p'.2 + off)) (by omega)
     rw [show p'.2 + off + (q.2 + j - (p'.2 + off))=q.2 + j by omega,← e,h4] at this
     exact absurd (Who.blk.inj this).symm he
    ·exact .inr h8
 ·intro r o b2 h
  obtain ⟨h1,h2,h3⟩:=hI.own r o b2 h
  exact ⟨h1,hw.some h2,by rw [hw.fro];exact h3⟩
 ·intro g m h
  refine hI.fams g m ?_
  by_cases he:b=g
  ·subst he;rw [List.getElem?_set_self hbl] at h;cases h
  ·rw [List.getElem?_set_ne he] at h;exact h
 ·intro r o g h
  obtain ⟨h1,h2,h3⟩:=hI.spare r o g h
  exact ⟨h1,hw.some h2,by rw [hw.fro];exact h3⟩
 ·intro r o h;rw [hw.size] at h;exact hI.fresh r o h
 ·intro b2 h;exact hI.noLoc b2 (by simpa using h)
 ·intro b2 h;exact hI.noFam b2 (by simpa using h)
 ·intro g v h;exact (hI.globs g v h).mono (Nat.le_refl _) (hext.less (Nat.zero_le _))
 ·exact hI.objs.keep hext (fun _ _ _ _=>rfl) hw.obj (fun b o h=>(obj_set (fun _=>Blk.noConfusion) b o h).1) (by simp)
 ·exact hI.kept
end
section
variable {P:Program} {C:Cfg}
theorem Inv.writeLoc {glob:Nat→Option AV} {B:Nat} {w0 w w':World} {L:Lay} {hp:List Blk} (hI:Inv glob B w0 L w hp) {rb lo:Nat} {vs:List Value} (hw:Wrote w w' rb lo vs)
  (hl:∀ j,j < vs.length→∃ t,L.who rb (lo + j) = .loc t) (hB:B≤rb):Inv glob B w0 L w' hp∧Ext hp.length L w L w':=by
 have hext:Ext hp.length L w L w':=hw.ext fun j hj=>by obtain ⟨t,ht⟩:=hl j hj;rw [ht];simp
 have hne:∀ r o,(∀ t,L.who r o ≠ .loc t)→w'.cell? ⟨r,o,none⟩=w.cell? ⟨r,o,none⟩:=fun r o h=>hw.out r o fun e=>by
  rcases Nat.lt_or_ge o lo with h1 | h1
  ·exact .inl h1
  ·rcases Nat.lt_or_ge o (lo + vs.length) with h2 | h2
   ·obtain ⟨t,ht⟩:=hl (o - lo) (by omega)
    rw [show lo + (o - lo)=o by omega,← e] at ht
    exact absurd ht (h t)
   ·exact .inr h2
 refine ⟨⟨hw.below B w0 (fun _=>hB) hI.below,by rw [hw.size];exact hI.size, ?_, ?_,hI.fams, ?_, ?_,hI.noLoc,hI.noFam, ?_, ?_, ?_⟩,hext⟩
 ·intro b cs hb
  obtain ⟨p,hp1,hql,h2⟩:=hI.blks b cs hb
  refine ⟨p,hp1,hql,fun j c hc => ?_⟩
  obtain ⟨h3,ho,rv,h4,h5⟩:=h2 j c hc
  exact ⟨h3,ho,rv,by rw [hne _ _ (fun t=>by rw [h3];simp)];exact h4,h5.mono (Nat.le_refl _) hext⟩
 ·intro r o b h
  obtain ⟨h1,h2,h3⟩:=hI.own r o b h
  exact ⟨h1,hw.some h2,by rw [hw.fro];exact h3⟩
 ·intro r o g h
  obtain ⟨h1,h2,h3⟩:=hI.spare r o g h
  exact ⟨h1,hw.some h2,by rw [hw.fro];exact h3⟩
 ·intro r o h;rw [hw.size] at h;exact hI.fresh r o h
 ·intro g v h;exact (hI.globs g v h).mono (Nat.le_refl _) (hext.less (Nat.zero_le _))
 ·exact hI.objs.keep hext (fun _ _ _ _=>rfl) hw.obj (fun _ _ h=>h) (Nat.le_refl _)
 ·exact hI.kept
theorem storeAt_ok {B base fl:Nat} {w0 w:World} {L:Lay} {st:St} {rt:Array Value} (hT:TysOK P C) (hI:Inv C.glob B w0 L w st.hp) (hF:FR st.hp.length L w base st.tmps rt) (hBb:B≤base)
  {t:TypeId} {tv:TV} {va:Value} {x:AV} {vx:Value} {r:Res} (h:storeAt C fl st t tv x=some r) (ha:OR st.hp.length L w st.tmps rt tv va) (hx:VR st.hp.length L w x vx) :
  ∃ w',(Instr.storeAt t va vx).run P w = .ok () w'∧r.val = .sk∧Inv C.glob B w0 L w' r.hp∧Ext st.hp.length L w L w'∧KeepLoc base L w L w'∧w.heap.size≤w'.heap.size ∧
   st.hp.length≤r.hp.length∧FR r.hp.length L w' base r.tmps rt:=by
 unfold storeAt at h
 cases hti:C.ty t with
 | none=>rw [hti] at h;cases h
 | some ti =>
  rw [hti] at h
  obtain ⟨i,d,z,hi,hd,hs,_,hk, -⟩:=(hT t ti hti).ex
  dsimp only at h
  cases hc:(!(x.cells.length==ti.size) || !x.noTup) with
  | true=>rw [hc] at h;cases h
  | false =>
   rw [hc,cond_false rfl] at h
   simp only [Bool.or_eq_false_iff,Bool.not_eq_false',beq_iff_eq] at hc
   obtain ⟨hlen,hone⟩:=hc
   have hcr:=hx.cells
   have hvs:vx.cells.size=i.size:=by have:=hcr.1;simp at this;omega
   have hones:=hx.ones hone
   have hvone:=hcr.allOne hones
   split at h
   ·rename_i b off
    split at h
    ·rename_i cs hcs
     cases hb:(decide (off + ti.size≤cs.length)&&decide (fl≤b)) with
     | false=>rw [hb] at h;cases h
     | true =>
      rw [hb,cond_true rfl] at h
      cases h
      simp only [Bool.and_eq_true,decide_eq_true_eq] at hb
      have hbb:=blkCells_eq hcs
      obtain ⟨p,hp1,_,hp2⟩:=hI.blks b cs hbb
      cases ha with
      | ptr _ _ a hbn ha =>
       have:=ha p hp1;subst this
       have hthere:∀ j,j < vx.cells.size→(w.cell? ⟨p.1,p.2 + off + j,none⟩).isSome=true∧w.frozen? ⟨p.1,p.2 + off + j,none⟩=false:=fun j hj=>by
        have hj':off + j < cs.length:=by omega
        obtain ⟨h1,_,rv,h2,_⟩:=hp2 (off + j) _ (List.getElem?_eq_getElem hj')
        rw [← Nat.add_assoc] at h1 h2
        exact ⟨by rw [h2];rfl,(hI.own _ _ _ h1).2.2⟩
       have hrun:=run_storeVar_any (P:=P) (t:=t) hi hvs hthere hvone
       have hw:=wrote_setCells (w:=w) (rb:=p.1) (lo:=p.2 + off) (vs:=vx.cells.toList) (fun j hj=>(hthere j (by simpa using hj)).1)
       obtain ⟨h1,h2,h3⟩:=hI.write hbb hp1 hcr hones (by omega) hw
       rw [setAt_eq]
       refine ⟨_,by simpa [Instr.storeAt,Instr.sureAddr] using hrun,rfl,h1,h2,h3 base,Nat.le_of_eq hw.size.symm,by simp, ?_⟩
       rw [List.length_set]
       exact hF.mono (Nat.le_refl _) h2 (h3 _) (Nat.le_of_eq hw.size.symm)
    ·cases h
   ·rename_i s off
    split at h
    ·rename_i cs hcs
     cases hb:decide (off + ti.size≤cs.length) with
     | false=>rw [hb] at h;cases h
     | true =>
      rw [hb,cond_true rfl] at h
      cases h
      simp only [decide_eq_true_eq] at hb
      have hss:=slotCells_eq hcs
      obtain ⟨rb,h1,rfl,_⟩:=ha
      obtain ⟨rb',h1',hbase,hsz,hcells⟩:=hF.slot s _ hss
      have:rb=rb':=by rw [h1] at h1';cases h1';rfl
      subst this
      have hthere:∀ j,j < vx.cells.size→(w.cell? ⟨rb,off + j,none⟩).isSome=true∧w.frozen? ⟨rb,off + j,none⟩=false:=fun j hj=>by
       have hj':off + j < cs.length:=by omega
       obtain ⟨_,h3,_,rv,h2,_⟩:=hcells (off + j) _ (List.getElem?_eq_getElem hj')
       exact ⟨by rw [h2];rfl,h3⟩
      have hrun:=run_storeVar_any (P:=P) (t:=t) hi hvs hthere hvone
      have hw:=wrote_setCells (w:=w) (rb:=rb) (lo:=off) (vs:=vx.cells.toList) (fun j hj=>(hthere j (by simpa using hj)).1)
      have hloc:∀ j,j < vx.cells.toList.length→L.who rb (off + j) = .loc s:=fun j hj=>by
       have hj':off + j < cs.length:=by simp at hj;omega
       exact (hcells (off + j) _ (List.getElem?_eq_getElem hj')).1
      obtain ⟨k1,k2⟩:=hI.writeLoc hw (fun j hj=>⟨s,hloc j hj⟩) (by omega)
      refine ⟨_,by simpa [Instr.storeAt,Instr.sureAddr] using hrun,rfl,k1,k2,hw.keep (fun j t _ hj=>by omega),Nat.le_of_eq hw.size.symm,Nat.le_refl _, ?_⟩
      rw [setAt_eq]
      have hsl:s < st.tmps.length:=(List.getElem?_eq_some_iff.1 hss).1
      have hcl:vx.cells.toList.length=x.cells.length:=hcr.1
      refine ⟨by simpa using hF.len,fun i y hy => ?_,fun i t o hy => ?_⟩
      ·by_cases he:s=i
       ·subst he
        rw [List.getElem?_set_self hsl] at hy
        cases hy
        refine ⟨rb,h1,hbase,by rw [hw.size];exact hsz,fun j c hc => ?_⟩
        rw [splice_get (by omega)] at hc
        split at hc
        ·rename_i hin
         obtain ⟨rv,hrv⟩:∃ rv,vx.cells.toList[j - off]?=some rv:=⟨_,List.getElem?_eq_getElem (by omega)⟩
         have h5:=hloc (j - off) (by omega)
         have h6:=hw.inn _ _ hrv
         rw [show off + (j - off)=j by omega] at h5 h6
         exact ⟨h5,by rw [hw.fro];exact (by have:=(hthere (j - off) (by simp at hcl;omega)).2;rwa [show off + (j - off)=j by omega] at this),hones _ _ hc,rv,h6,(hcr.2 _ _ _ hc hrv).mono (Nat.le_refl _) k2⟩
        ·rename_i hout
         obtain ⟨h5,h6,ho,rv,h7,h8⟩:=hcells j c hc
         exact ⟨h5,by rw [hw.fro];exact h6,ho,rv,by rw [hw.out _ _ (fun _=>by omega)];exact h7,h8.mono (Nat.le_refl _) k2⟩
       ·rw [List.getElem?_set_ne he] at hy
        have:=hF.slot i y hy
        cases y with
        | junk=>trivial
        | sk=>exact this
        | v y=>exact VR.mono (Nat.le_refl _) k2 this
        | lp t o=>exact this
        | bx cs2 =>
         obtain ⟨rb2,g1,g2,g3,g4⟩:=this
         refine ⟨rb2,g1,g2,by rw [hw.size];exact g3,fun j c hc => ?_⟩
         obtain ⟨g5,g6,go,rv,g7,g8⟩:=g4 j c hc
         refine ⟨g5,by rw [hw.fro];exact g6,go,rv, ?_,g8.mono (Nat.le_refl _) k2⟩
         rw [hw.out _ _ (fun e => ?_)];exact g7
         rcases Nat.lt_or_ge j off with h7 | h7
         ·exact .inl h7
         ·rcases Nat.lt_or_ge j (off + vx.cells.toList.length) with h8 | h8
          ·have:=hloc (j - off) (by omega)
           rw [show off + (j - off)=j by omega,← e,g5] at this
           exact absurd (Who.loc.inj this).symm he
          ·exact .inr h8
      ·by_cases he:s=i
       ·subst he;rw [List.getElem?_set_self hsl] at hy;cases hy
       ·rw [List.getElem?_set_ne he] at hy
        obtain ⟨cs2,hc2⟩:=hF.root i t o hy
        by_cases he2:s=t
        ·subst he2;exact ⟨_,List.getElem?_set_self hsl⟩
        ·exact ⟨cs2,by rw [List.getElem?_set_ne he2];exact hc2⟩
    ·cases h
   ·cases h
structure Alloc (w w':World) (c:Array Value):Prop where
 size:w'.heap.size=w.heap.size + 1
 old:∀ a:Addr,a.block < w.heap.size→w'.cell? a=w.cell? a∧w'.frozen? a=w.frozen? a
 new:∀ o,w'.cell? ⟨w.heap.size,o,none⟩=c[o]?
 fro:∀ o,o < c.size→w'.frozen? ⟨w.heap.size,o,none⟩=false
 below:∀ B w0,B≤w.heap.size→Below B w0 w→Below B w0 w'
 obj:KeepO w w'
theorem alloc_alloc (w:World) (c:Array Value) (t:TypeId):Alloc w (w.alloc (.cells c t)) c where
 size:=by simp
 old a h:=⟨World.cell?_alloc_lt w _ a h,World.frozen?_alloc_old w _ a (Nat.ne_of_lt h)⟩
 new o:=World.cell?_alloc_new w c t o
 fro o _:=World.frozen?_alloc_new w c t o
 below B w0 hB h:=h.alloc hB _
 obj:=KeepO.of fun r hr=>by show (w.heap.push _)[r]?=_;rw [Array.getElem?_push,if_neg (Nat.ne_of_lt hr)]
theorem cell_lt {w:World} {r o:Nat} (h:∃ v,w.cell? ⟨r,o,none⟩=some v):r < w.heap.size:=by
 obtain ⟨v,h⟩:=h;exact World.block_lt_of_cell? w (a:=⟨r,o,none⟩) h
def Lay.add (L:Lay) (k:Nat) (W:Nat→Who):Lay:={ L with who:=fun r o=>if r=k then W o else L.who r o }
theorem Lay.add_ne {L:Lay} {k r o:Nat} {W:Nat→Who} (h:r≠k):(L.add k W).who r o=L.who r o:=by simp [Lay.add,h]
theorem Lay.add_eq {L:Lay} {k o:Nat} {W:Nat→Who}:(L.add k W).who k o=W o:=by simp [Lay.add]
theorem Inv.lt {glob:Nat→Option AV} {B:Nat} {w0 w:World} {L:Lay} {hp:List Blk} (hI:Inv glob B w0 L w hp) {r o:Nat} (h:L.who r o ≠ .none):r < w.heap.size:=by
 rcases Nat.lt_or_ge r w.heap.size with h1 | h1
 ·exact h1
 ·exact absurd (hI.fresh r o h1) h
theorem Alloc.ext {glob:Nat→Option AV} {B:Nat} {w0:World} {hp:List Blk} {n:Nat} {L L':Lay} {w w':World} {c:Array Value} (hI:Inv glob B w0 L w hp) (h:Alloc w w' c)
  (hwho:∀ r o,r≠w.heap.size→L'.who r o=L.who r o) (hloc:∀ b,b < n→L'.loc b=L.loc b∧L'.ext b=L.ext b) (hfam:∀ b,b < n→L'.fam b=L.fam b) :
  Ext n L w L' w'∧∀ s,KeepLoc s L w L' w':=by
 have same:∀ r o,L.who r o ≠ .none→L'.who r o=L.who r o∧w'.cell? ⟨r,o,none⟩=w.cell? ⟨r,o,none⟩∧w'.frozen? ⟨r,o,none⟩=w.frozen? ⟨r,o,none⟩:=fun r o hr=>by
  have:=hI.lt hr
  exact ⟨hwho r o (by omega),(h.old ⟨r,o,none⟩ this).1,(h.old ⟨r,o,none⟩ this).2⟩
 refine ⟨⟨fun r o hr => ?_,fun b p hb hp => ?_,fun g F hg hF => ?_,by rw [h.size];omega,fun r o hr=>(h.old ⟨r,o,none⟩ hr).2,fun r o hr hn=>(hwho r o (by omega)).trans hn⟩,fun s r o t _ hl => ?_⟩
 ·obtain ⟨h1,h2,_⟩:=same r o (by rw [hr];simp);exact ⟨h1.trans hr,h2⟩
 ·rw [(hloc b hb).1] at hp
  exact ⟨hp,fun r o hr=>by obtain ⟨h1,_,_⟩:=same r o (by rw [hr];simp);exact h1.trans hr,(hloc b hb).2⟩
 ·rw [hfam g hg] at hF;exact ⟨F,hF, .inl rfl⟩
 ·obtain ⟨h1,h2,h3⟩:=same r o (by rw [hl];simp);exact ⟨h1.trans hl,h2,h3⟩
theorem Inv.addRow {glob:Nat→Option AV} {B:Nat} {w0:World} {hp:List Blk} {L:Lay} {w w':World} {c:Array Value} (hI:Inv glob B w0 L w hp) (h:Alloc w w' c) (W:Nat→Who)
  (hW:∀ o,(∀ b,W o ≠ .blk b)∧(∀ g,W o ≠ .spare g)):Inv glob B w0 (L.add w.heap.size W) w' hp∧Ext hp.length L w (L.add w.heap.size W) w'∧∀ s,KeepLoc s L w (L.add w.heap.size W) w':=by
 obtain ⟨he,hk⟩:=h.ext (L':=L.add w.heap.size W) (n:=hp.length) hI (fun r o hr=>Lay.add_ne hr) (fun _ _=>⟨rfl,rfl⟩) (fun _ _=>rfl)
 have who:∀ r o,r < w.heap.size→(L.add w.heap.size W).who r o=L.who r o:=fun r o hr=>Lay.add_ne (by omega)
 refine ⟨⟨h.below B w0 hI.size hI.below,by have:=hI.size;rw [h.size];omega, ?_, ?_, ?_, ?_, ?_,hI.noLoc,hI.noFam, ?_, ?_, ?_⟩,he,hk⟩
 ·intro b cs hb
  obtain ⟨p,hp1,hql,h2⟩:=hI.blks b cs hb
  refine ⟨p,hp1,hql,fun j c hc => ?_⟩
  obtain ⟨h3,ho,rv,h4,h5⟩:=h2 j c hc
  have hlt:=cell_lt ⟨rv,h4⟩
  exact ⟨(who _ _ hlt).trans h3,ho,rv,((h.old ⟨p.1,p.2 + j,none⟩ hlt).1).trans h4,h5.mono (Nat.le_refl _) he⟩
 ·intro r o b hr
  by_cases hn:r=w.heap.size
  ·subst hn;rw [Lay.add_eq] at hr;exact absurd hr ((hW o).1 b)
  ·rw [Lay.add_ne hn] at hr
   obtain ⟨h1,⟨v,h2⟩,h3⟩:=hI.own r o b hr
   have hlt:=cell_lt ⟨v,h2⟩
   exact ⟨h1,⟨v,((h.old ⟨r,o,none⟩ hlt).1).trans h2⟩,((h.old ⟨r,o,none⟩ hlt).2).trans h3⟩
 ·intro g m hg
  obtain ⟨F,h1,h2,h3,h4,h5⟩:=hI.fams g m hg
  refine ⟨F,h1,h2,h3,h4,fun j hj1 hj2 => ?_⟩
  have:=h5 j hj1 hj2
  exact (who _ _ (hI.lt (by rw [this];simp))).trans this
 ·intro r o g hr
  by_cases hn:r=w.heap.size
  ·subst hn;rw [Lay.add_eq] at hr;exact absurd hr ((hW o).2 g)
  ·rw [Lay.add_ne hn] at hr
   obtain ⟨h1,⟨v,h2⟩,h3⟩:=hI.spare r o g hr
   have hlt:=cell_lt ⟨v,h2⟩
   exact ⟨h1,⟨v,((h.old ⟨r,o,none⟩ hlt).1).trans h2⟩,((h.old ⟨r,o,none⟩ hlt).2).trans h3⟩
 ·intro r o hr
  rw [h.size] at hr
  have hrn:r≠w.heap.size:=by omega
  rw [Lay.add_ne hrn]
  exact hI.fresh r o (by omega)
 ·intro g v hg;exact (hI.globs g v hg).mono (Nat.le_refl _) (he.less (Nat.zero_le _))
 ·exact hI.objs.keep he (fun _ _ _ _=>rfl) h.obj (fun _ _ h=>h) (Nat.le_refl _)
 ·exact hI.kept
theorem Inv.addBlk {glob:Nat→Option AV} {B:Nat} {w0:World} {hp:List Blk} {L:Lay} {w w':World} {c:Array Value} {cs:List AV} (hI:Inv glob B w0 L w hp) (h:Alloc w w' c)
  (hc:∀ (j:Nat) x,cs[j]?=some x→x.one=true∧∃ v,c[j]?=some v∧VR hp.length L w x v) :
  ∃ L',L'.loc hp.length=some (w.heap.size,0)∧L'.ext hp.length=cs.length∧(∀ o,o < c.size→L'.who w.heap.size o = .blk hp.length) ∧
   Inv glob B w0 L' w' (hp++[.cells cs])∧Ext hp.length L w L' w'∧∀ s,KeepLoc s L w L' w':=by
 let L':Lay:={ L.add w.heap.size (fun o=>if o < c.size then .blk hp.length else .none) with loc:=fun b=>if b=hp.length then some (w.heap.size,0) else L.loc b,ext:=fun b=>if b=hp.length then cs.length else L.ext b }
 have who:∀ r o,r < w.heap.size→L'.who r o=L.who r o:=fun r o hr=>by
  have hrn:r≠w.heap.size:=Nat.ne_of_lt hr
  exact if_neg hrn
 have whoN:∀ o,L'.who w.heap.size o=if o < c.size then .blk hp.length else .none:=fun o=>if_pos rfl
 obtain ⟨he,hk⟩:=h.ext (L':=L') (n:=hp.length) hI (fun r o hr=>if_neg hr) (fun b hb=>⟨if_neg (by omega),if_neg (by omega)⟩) (fun _ _=>rfl)
 have hlen:(hp++[Blk.cells cs]).length=hp.length + 1:=by simp
 refine ⟨L',if_pos rfl,if_pos rfl,fun o ho=>(whoN o).trans (if_pos ho),⟨h.below B w0 hI.size hI.below,by have:=hI.size;rw [h.size];omega, ?_, ?_, ?_, ?_, ?_, ?_, ?_, ?_, ?_, ?_⟩,he,hk⟩
 ·intro b cs2 hb
  rw [hlen]
  by_cases hbn:b=hp.length
  ·subst hbn
   rw [List.getElem?_append_right (Nat.le_refl _)] at hb
   simp at hb
   subst hb
   refine ⟨(w.heap.size,0),if_pos rfl,if_pos rfl,fun j x hx => ?_⟩
   obtain ⟨ho,v,hv,hr⟩:=hc j x hx
   have hj:j < c.size:=(Array.getElem?_eq_some_iff.1 hv).1
   refine ⟨?_,ho,v, ?_,hr.mono (by omega) he⟩
   ·show L'.who w.heap.size (0 + j)=_
    rw [whoN,Nat.zero_add,if_pos hj]
   ·rw [Nat.zero_add];exact (h.new j).trans hv
  ·have hb':hp[b]?=some (.cells cs2):=by
    rw [← hb,List.getElem?_append_left]
    have:=(List.getElem?_eq_some_iff.1 hb).1
    rw [hlen] at this;omega
   obtain ⟨p,hp1,hql,h2⟩:=hI.blks b cs2 hb'
   refine ⟨p,by show (if b=hp.length then _ else _)=_;rw [if_neg hbn];exact hp1,by show (if b=hp.length then _ else _)=_;rw [if_neg hbn];exact hql,fun j x hx => ?_⟩
   obtain ⟨h3,ho,rv,h4,h5⟩:=h2 j x hx
   have hlt:=cell_lt ⟨rv,h4⟩
   exact ⟨(who _ _ hlt).trans h3,ho,rv,((h.old ⟨p.1,p.2 + j,none⟩ hlt).1).trans h4,h5.mono (by omega) he⟩
 ·intro r o b hr
  by_cases hn:r=w.heap.size
  ·subst hn
   rw [whoN] at hr
   split at hr
   ·rename_i ho
    refine ⟨hI.size,⟨c[o],by rw [h.new];simp [ho]⟩,h.fro o ho⟩
   ·cases hr
  ·have hr':L.who r o = .blk b:=by rw [← hr];exact (if_neg hn).symm
   obtain ⟨h1,⟨v,h2⟩,h3⟩:=hI.own r o b hr'
   have hlt:=cell_lt ⟨v,h2⟩
   exact ⟨h1,⟨v,((h.old ⟨r,o,none⟩ hlt).1).trans h2⟩,((h.old ⟨r,o,none⟩ hlt).2).trans h3⟩
 ·intro g m hg
  have hg':hp[g]?=some (.fam m):=by
   have hlt:=(List.getElem?_eq_some_iff.1 hg).1
   rw [hlen] at hlt
   by_cases hgn:g=hp.length
   ·subst hgn;rw [List.getElem?_append_right (Nat.le_refl _)] at hg;simp at hg
   ·rw [← hg,List.getElem?_append_left];omega
  obtain ⟨F,h1,h2,h3,h4,h5⟩:=hI.fams g m hg'
  refine ⟨F,h1,h2,h3,h4,fun j hj1 hj2 => ?_⟩
  have:=h5 j hj1 hj2
  exact (who _ _ (hI.lt (by rw [this];simp))).trans this
 ·intro r o g hr
  by_cases hn:r=w.heap.size
  ·subst hn
   rw [whoN] at hr
   split at hr <;> cases hr
  ·have hr':L.who r o = .spare g:=by rw [← hr];exact (if_neg hn).symm
   obtain ⟨h1,⟨v,h2⟩,h3⟩:=hI.spare r o g hr'
   have hlt:=cell_lt ⟨v,h2⟩
   exact ⟨h1,⟨v,((h.old ⟨r,o,none⟩ hlt).1).trans h2⟩,((h.old ⟨r,o,none⟩ hlt).2).trans h3⟩
 ·intro r o hr
  rw [h.size] at hr
  have hrn:r≠w.heap.size:=by omega
  have:L'.who r o=L.who r o:=if_neg hrn
  rw [this]
  exact hI.fresh r o (by omega)
 ·intro b hb
  rw [hlen] at hb
  show (if b=hp.length then _ else _)=_
  rw [if_neg (by omega)]
  exact hI.noLoc b (by omega)
 ·intro b hb;rw [hlen] at hb;exact hI.noFam b (by omega)
 ·intro g v hg;exact (hI.globs g v hg).mono (Nat.le_refl _) (he.less (Nat.zero_le _))
 ·exact hI.objs.keep he (fun b o hb _=>if_neg (Nat.ne_of_lt (obj_lt hb))) h.obj (obj_app fun _=>Blk.noConfusion) (by simp)
 ·exact hI.kept
end
section
variable {P:Program} {C:Cfg}
theorem Addr.plus (rb ro n:Nat):(⟨rb,ro,none⟩:Addr).add n=⟨rb,ro + n,none⟩:=Addr.add_mid rb ro n
theorem getAt_some {α:Type} {l:List α} {i:Nat} {x:α} (h:getAt l i=some x):l[i]?=some x:=by rw [← getAt_eq];exact h
theorem field_ok (hT:TysOK P C) {t:TypeId} {i off:Nat} {ti:TI} (h:field C t i=some (off,ti)) :
  ∃ (fs:Array Field) (f:Field),P.underlying t=some (.struct fs)∧fs[i]?=some f∧f.offset=off∧C.ty f.type=some ti:=by
 unfold field at h
 split at h
 ·rename_i fs a b c e hti
  obtain ⟨_,d,_,_,hd,_,_,hk, -⟩:=(hT t _ hti).ex
  split at h
  ·rename_i off' ft hf
   simp only [Option.map_eq_some_iff,Prod.mk.injEq] at h
   obtain ⟨ti',h1,rfl,rfl⟩:=h
   dsimp only at hk
   cases d <;> simp only [tkOf,reduceCtorEq] at hk
   rename_i fields
   simp only [TK.struct.injEq] at hk
   have:=getAt_some hf
   rw [hk,List.getElem?_map,Option.map_eq_some_iff] at this
   obtain ⟨f,hf1,hf2⟩:=this
   simp only [Prod.mk.injEq] at hf2
   rw [Array.getElem?_toList] at hf1
   exact ⟨fields,f,hd,hf1,hf2.1,by rw [hf2.2];exact h1⟩
  ·cases h
 ·cases h
theorem run_fieldAt' {t:TypeId} {fs:Array Field} {f:Field} {i:Nat} {fi:TypeInfo} (w:World) (a:Addr) (h1:P.underlying t=some (.struct fs)) (h2:fs[i]?=some f) (h3:P.info? f.type=some fi) (h4:fi.size≠0) :
  (Instr.fieldAt t (.pointer (some a)) i).run P w = .ok (.pointer (some (a.add f.offset))) w:=by
 simp [Instr.fieldAt,run_underlying h1,h2,Instr.sureAddr,fieldPlace,run_sizeOf h3,h4]
theorem run_fieldAt {t:TypeId} {fs:Array Field} {f:Field} {i rb ro:Nat} {fi:TypeInfo} (w:World) (h1:P.underlying t=some (.struct fs)) (h2:fs[i]?=some f) (h3:P.info? f.type=some fi) (h4:fi.size≠0) :
  (Instr.fieldAt t (.pointer (some ⟨rb,ro,none⟩)) i).run P w = .ok (.pointer (some ⟨rb,ro + f.offset,none⟩)) w:=by
 rw [run_fieldAt' w _ h1 h2 h3 h4,Addr.plus]
theorem VR.ptr_add {n:Nat} {L:Lay} {w:World} {b o:Nat} {a:Addr} (k:Nat) (h:VR n L w (.ptr b o) (.pointer (some a))):VR n L w (.ptr b (o + k)) (.pointer (some (a.add k))):=by
 cases h with
 | ptr _ _ _ hb ha=>exact .ptr b (o + k) _ hb fun p hp=>by rw [ha p hp,Addr.plus,Nat.add_assoc]
theorem rop_part {n:Nat} {L:Lay} {w:World} {ti:TI} {cs:List AV} {off rb ro:Nat} {x:AV} (h:part ti cs off=some x) (hr:VR n L w (.rop (.agg cs)) (.pointer (some ⟨rb,ro,none⟩))) :
  VR n L w (.rop x) (.pointer (some ⟨rb,ro + off,none⟩)):=by
 cases hr with
 | rop _ _ _ cv h1 ho h2 =>
  simp only [AV.cells] at h1 ho h2
  have key:∀ k,(∀ j,j < k→off + j < cs.length)→x.cells.length=k→(∀ (j:Nat) c,x.cells[j]?=some c→cs[off + j]?=some c)→VR n L w (.rop x) (.pointer (some ⟨rb,ro + off,none⟩)):=fun k hk hl hx =>
   .rop x rb (ro + off) (fun j=>cv (off + j)) (fun j hj=>by rw [Nat.add_assoc];exact h1 _ (hk j (by omega))) (fun j c hc=>ho _ c (hx j c hc)) (fun j c hc=>h2 _ c (hx j c hc))
  cases ha:ti.k.agg with
  | false =>
   have hx:=part_one ha h
   have hone:=ho _ _ hx
   have hlt:=(List.getElem?_eq_some_iff.1 hx).1
   refine key 1 (fun j hj=>by omega) (by rw [AV.cells_one hone];rfl) (fun j c hc => ?_)
   rw [AV.cells_one hone] at hc
   cases j with
   | zero=>simp at hc;subst hc;exact hx
   | succ j=>simp at hc
  | true =>
   obtain ⟨rfl,hlen⟩:=part_agg ha h
   refine key ti.size (fun j hj => ?_) hlen (fun j c hc => ?_)
   ·have:=hlen;simp at this;omega
   ·simp only [AV.cells] at hc
    have hj:j < ti.size:=by have:=(List.getElem?_eq_some_iff.1 hc).1;omega
    rw [List.getElem?_take_of_lt hj,List.getElem?_drop] at hc
    exact hc
theorem fieldAddr_ok {n:Nat} {L:Lay} {w:World} {ts:List TV} {rt:Array Value} (hT:TysOK P C) {t:TypeId} {i:Nat} {tv tv':TV} {va:Value} (h:fieldAddr C t i tv=some tv') (ha:OR n L w ts rt tv va) :
  ∃ rv,(Instr.fieldAt t va i).run P w = .ok rv w∧OR n L w ts rt tv' rv∧∀ cs,tv' ≠ .bx cs:=by
 unfold fieldAddr at h
 split at h
 ·cases h
 ·rename_i off ti hf
  obtain ⟨fs,f,h1,h2,h3,h4⟩:=field_ok hT hf
  obtain ⟨fi,_,_,hfi,_,hsz,_⟩:=(hT _ _ h4).ex
  cases hb:(ti.size==0) with
  | true=>rw [hb] at h;cases h
  | false =>
   rw [hb,cond_false rfl] at h
   have hne:fi.size≠0:=by simp at hb;omega
   subst h3
   split at h
   ·rename_i s o
    cases h
    obtain ⟨rb,g1,rfl,g2⟩:=ha
    exact ⟨_,run_fieldAt w h1 h2 hfi hne,⟨rb,g1,rfl,g2⟩,fun _ h=>by cases h⟩
   ·rename_i b o
    cases h
    cases ha with
    | ptr _ _ a hb ha=>exact ⟨_,run_fieldAt' w a h1 h2 hfi hne,(VR.ptr b o a hb ha).ptr_add f.offset,fun _ h=>by cases h⟩
   ·rename_i cs
    simp only [Option.map_eq_some_iff] at h
    obtain ⟨x,hx,rfl⟩:=h
    cases ha with
    | rop _ rb ro cv k1 ko k2 =>
     exact ⟨_,run_fieldAt w h1 h2 hfi hne,rop_part hx (.rop _ rb ro cv k1 ko k2),fun _ h=>by cases h⟩
   ·cases h
theorem intOf_ok {n:Nat} {L:Lay} {w:World} {k:IntKind} {i:Int} {v:Value} (h:VR n L w (.int k i) v):v = .int k i:=by cases h;rfl
theorem boolOf_ok {n:Nat} {L:Lay} {w:World} {b:Bool} {v:Value} (h:VR n L w (.bool b) v):v = .bool b:=by cases h;rfl
theorem flat_length {sz:Nat}:∀ (xs:List AV),(∀ x ∈ xs,x.cells.length=sz)→(flat xs).length=xs.length * sz
 | [],_=>by simp [flat]
 | x::xs,h=>by
  have:=flat_length xs fun y hy=>h y (List.mem_cons_of_mem _ hy)
  simp only [flat,List.length_append,this,h x (List.mem_cons_self ..),List.length_cons,Nat.succ_mul]
  omega
theorem flat_get {sz:Nat}:∀ (xs:List AV),(∀ x ∈ xs,x.cells.length=sz)→∀ (i:Nat) x,xs[i]?=some x→∀ j,j < sz→(flat xs)[i * sz + j]?=x.cells[j]?
 | [],_,i,x,hi,_,_=>by simp at hi
 | y::ys,h,0,x,hi,j,hj=>by
  simp at hi;subst hi
  have:=h y (List.mem_cons_self ..)
  simp only [flat,Nat.zero_mul,Nat.zero_add]
  rw [List.getElem?_append_left (by omega)]
 | y::ys,h,i + 1,x,hi,j,hj=>by
  have hy:=h y (List.mem_cons_self ..)
  have:=flat_get ys (fun z hz=>h z (List.mem_cons_of_mem _ hz)) i x (by simpa using hi) j hj
  simp only [flat]
  have e:(i + 1) * sz + j=sz + (i * sz + j):=by rw [Nat.succ_mul];omega
  rw [e,List.getElem?_append_right (by omega),hy,Nat.add_sub_cancel_left]
  exact this
theorem run_indexAt_arr {t e:TypeId} {m:Nat} {ei:TypeInfo} (w:World) (a:Addr) (k:IntKind) (i:Int) (h1:P.underlying t=some (.array m e)) (h2:P.info? e=some ei) (h3:0≤i) (h4:i < m) :
  (Instr.indexAt t (.pointer (some a)) (.int k i)).run P w = .ok (.pointer (some (a.add (i.toNat * ei.size)))) w:=by
 simp [Instr.indexAt,asIntOf,run_underlying h1,Instr.sureAddr,run_sizeOf h2,h3,h4]
theorem run_indexAt_sl {t e:TypeId} {ei:TypeInfo} (w:World) (a:Addr) (len cap:Nat) (k:IntKind) (i:Int) (h1:P.underlying t=some (.slice e)) (h2:P.info? e=some ei) (h3:0≤i) (h4:i < len) :
  (Instr.indexAt t (.slice (some a) len cap) (.int k i)).run P w = .ok (.pointer (some (a.add (i.toNat * ei.size)))) w:=by
 simp [Instr.indexAt,asIntOf,run_underlying h1,run_sizeOf h2,h3,h4]
theorem indexAddr_ok {n:Nat} {L:Lay} {w:World} {ts:List TV} {rt:Array Value} (hT:TysOK P C) {t:TypeId} {i:Int} {k:IntKind} {tv tv':TV} {va:Value} (h:indexAddr C t tv i=some tv') (ha:OR n L w ts rt tv va) :
  ∃ rv,(Instr.indexAt t va (.int k i)).run P w = .ok rv w∧OR n L w ts rt tv' rv∧∀ cs,tv' ≠ .bx cs:=by
 unfold indexAddr at h
 cases hi:decide (i < 0) with
 | true=>rw [hi] at h;cases h
 | false =>
  rw [hi,cond_false rfl] at h
  have h0:0≤i:=by simpa using hi
  split at h
  ·rename_i m e a b c f hti
   obtain ⟨_,d,_,_,hd,_,_,hk, -⟩:=(hT t _ hti).ex
   dsimp only at hk
   cases d <;> simp only [tkOf,reduceCtorEq] at hk
   simp only [TK.array.injEq] at hk
   obtain ⟨rfl,rfl⟩:=hk
   cases hb:(!decide (i < (m:Int))) with
   | true=>rw [hb] at h;cases h
   | false =>
    rw [hb,cond_false rfl] at h
    have hlt:i < m:=by simpa using hb
    split at h
    ·cases h
    ·rename_i ei hei
     obtain ⟨eti,_,_,hinfo,_,hsz,_⟩:=(hT _ _ hei).ex
     split at h
     ·rename_i s o
      cases h
      obtain ⟨rb,g1,rfl,g2⟩:=ha
      exact ⟨_,run_indexAt_arr w _ k i hd hinfo h0 hlt,⟨rb,g1,by rw [Addr.plus,hsz],g2⟩,fun _ h=>by cases h⟩
     ·rename_i b o
      cases h
      cases ha with
      | ptr _ _ a hb ha=>exact ⟨_,run_indexAt_arr w a k i hd hinfo h0 hlt,by rw [hsz];exact (VR.ptr b o a hb ha).ptr_add _,fun _ h=>by cases h⟩
     ·rename_i cs
      simp only [Option.map_eq_some_iff] at h
      obtain ⟨x,hx,rfl⟩:=h
      cases ha with
      | rop _ rb ro cv k1 ko k2 =>
       exact ⟨_,run_indexAt_arr w _ k i hd hinfo h0 hlt,by rw [Addr.plus,hsz];exact rop_part hx (.rop _ rb ro cv k1 ko k2),fun _ h=>by cases h⟩
     ·cases h
  ·rename_i e a b c f hti
   obtain ⟨_,d,_,_,hd,_,_,hk, -⟩:=(hT t _ hti).ex
   dsimp only at hk
   cases d <;> simp only [tkOf,reduceCtorEq] at hk
   simp only [TK.slice.injEq] at hk
   subst hk
   split at h
   ·cases h
   ·rename_i ei hei
    obtain ⟨eti,_,_,hinfo,_,hsz,_⟩:=(hT _ _ hei).ex
    split at h
    ·rename_i sz own xs
     cases hb:(sz==ei.size) with
     | false=>rw [hb] at h;cases h
     | true =>
      rw [hb,cond_true rfl] at h
      have hse:sz=ei.size:=by simpa using hb
      simp only [Option.map_eq_some_iff] at h
      obtain ⟨x,hx,rfl⟩:=h
      have hx:=getAt_some hx
      have hxl:=(List.getElem?_eq_some_iff.1 hx).1
      cases ha with
      | lit0=>simp at hxl
      | lit _ _ _ rb ro cap cv hc hs h1 ho h2 hown =>
       refine ⟨_,run_indexAt_sl w _ _ _ k i hd hinfo h0 (by omega), ?_,fun _ h=>by cases h⟩
       rw [Addr.plus,hsz]
       have hxs:=hs x (List.mem_of_getElem? hx)
       subst hse
       have hfl:=flat_length xs hs
       have hle:(i.toNat + 1) * ei.size≤xs.length * ei.size:=Nat.mul_le_mul_right _ hxl
       rw [Nat.succ_mul] at hle
       refine .rop x rb _ (fun j=>cv (i.toNat * ei.size + j)) (fun j hj => ?_) (fun j c hc => ?_) (fun j c hc => ?_)
       ·rw [Nat.add_assoc];exact h1 _ (by omega)
       ·have hj:j < ei.size:=by have:=(List.getElem?_eq_some_iff.1 hc).1;omega
        exact ho _ c (by rw [flat_get xs hs _ x hx j hj];exact hc)
       ·have hj:j < ei.size:=by have:=(List.getElem?_eq_some_iff.1 hc).1;omega
        exact h2 _ c (by rw [flat_get xs hs _ x hx j hj];exact hc)
    ·rename_i sz b off len
     cases hb:(sz==ei.size&&decide (i < (len:Int))) with
     | false=>rw [hb] at h;cases h
     | true =>
      rw [hb,cond_true rfl] at h
      cases h
      simp only [Bool.and_eq_true,beq_iff_eq,decide_eq_true_eq] at hb
      obtain ⟨rfl,hlt⟩:=hb
      cases ha with
      | arr _ _ _ _ a cap hbn hc ha =>
       refine ⟨_,run_indexAt_sl w a len cap k i hd hinfo h0 hlt, ?_,fun _ h=>by cases h⟩
       rw [hsz]
       exact .ptr b _ _ hbn fun p hp=>by rw [(ha p hp).1,Addr.plus,Nat.add_assoc]
    ·cases h
  ·cases h
end
section
variable {P:Program} {C:Cfg}
theorem toList_eq (b:ByteArray):b.toList=b.data.toList:=by rw [ByteArray.toList_eq]
theorem strOf_ok {n:Nat} {L:Lay} {w:World} {l:List UInt8} {v:Value} (h:VR n L w (.str l) v):∃ s:ByteArray,v = .string s∧s.data.toList=l∧s.toList=l∧s.size=l.length:=by
 cases h with
 | str _ s hs =>
  refine ⟨s,rfl,hs,by rw [toList_eq,hs], ?_⟩
  rw [← hs,Array.length_toList];rfl
theorem part_ok {n:Nat} {L:Lay} {w:World} {t:TypeId} {ti:TI} {cs:List AV} {rc:Array Value} {off:Nat} {x:AV} (hT:TyOK P t ti) (h:part ti cs off=some x) (hr:VR n L w (.agg cs) (.agg rc)) :
  ∃ rv,(Go.part t rc off).run P w = .ok rv w∧VR n L w x rv:=by
 obtain ⟨i,d,z,hi,hd,hs,_,hk, -⟩:=hT.ex
 cases hr with
 | agg _ _ hl ho hv =>
  cases ha:ti.k.agg with
  | false =>
   have hx:=part_one ha h
   have hlt:off < rc.size:=by rw [hl];exact (List.getElem?_eq_some_iff.1 hx).1
   rw [hk] at ha
   refine ⟨rc.getD off default, ?_,hv _ _ hx⟩
   simp [Go.part,run_isAgg hd,ha,hlt,Array.getD]
  | true =>
   obtain ⟨rfl,hlen⟩:=part_agg ha h
   rw [hk] at ha
   refine ⟨.agg (rc.extract off (off + ti.size)), ?_, ?_⟩
   ·simp [Go.part,run_isAgg hd,ha,run_sizeOf hi,hs]
   ·have hle:off + ti.size≤cs.length∨ti.size=0:=by
     have:=hlen;simp at this;omega
    refine .agg _ _ ?_ (fun j c hc => ?_) (fun j c hc => ?_)
    ·rw [hlen];simp [Array.size_extract];rw [hl];have:=hlen;simp at this;omega
    ·have hj:j < ti.size:=by have:=(List.getElem?_eq_some_iff.1 hc).1;omega
     rw [List.getElem?_take_of_lt hj,List.getElem?_drop] at hc
     exact ho _ c hc
    ·have hj:j < ti.size:=by have:=(List.getElem?_eq_some_iff.1 hc).1;omega
     rw [List.getElem?_take_of_lt hj,List.getElem?_drop] at hc
     have h1:=hv _ c hc
     have hlt:off + j < rc.size:=by rw [hl];exact (List.getElem?_eq_some_iff.1 hc).1
     have h2:j < (rc.extract off (off + ti.size)).size:=by simp [Array.size_extract];omega
     rw [Array.getD_eq_getD_getElem?,Array.getElem?_eq_getElem hlt] at h1
     rw [Array.getD_eq_getD_getElem?,Array.getElem?_eq_getElem h2,Array.getElem_extract]
     exact h1
def EqOK (P:Program) (n:Nat) (L:Lay) (w:World) (d:Nat) (eq:TypeId→AV→AV→Option Bool):Prop :=
 ∀ t x y b vx vy,eq t x y=some b→VR n L w x vx→VR n L w y vy→∀ D,d≤D→(Op.equalIn D t vx vy).run P w = .ok b w
theorem eqFields_ok {n d:Nat} {L:Lay} {w:World} {eq:TypeId→AV→AV→Option Bool} (hT:TysOK P C) (he:EqOK P n L w d eq) {xs ys:List AV} {rx ry:Array Value} (hx:VR n L w (.agg xs) (.agg rx)) (hy:VR n L w (.agg ys) (.agg ry)) :
  ∀ (fs : List Field) (b : Bool), (fs.all fun f => !(f.name == "_")) = true → eqFields C eq (fs.map fun f => (f.offset, f.type)) xs ys = some b →
   ∀ D,d≤D→(Op.eqFields D rx ry fs).run P w = .ok b w
 | [],b,_,h,D,_=>by simp [eqFields] at h;subst h;simp [Op.eqFields]
 | f::fs,b,hn,h,D,hD=>by
  simp only [List.all_cons,Bool.and_eq_true] at hn
  have hname : f.name ≠ "_" := by have := hn.1; simpa using this
  simp only [List.map_cons,eqFields] at h
  split at h
  ·cases h
  ·rename_i fi hfi
   split at h
   ·rename_i a b' ha hb
    obtain ⟨ra,h1,h2⟩:=part_ok (hT _ _ hfi) ha hx
    obtain ⟨rb,h3,h4⟩:=part_ok (hT _ _ hfi) hb hy
    simp only [Op.eqFields,if_pos hname,Sem.run_bind,h1,h3,Result.andThen_ok]
    split at h
    ·rename_i hq
     rw [he _ _ _ _ _ _ hq h2 h4 D hD]
     simp only [Result.andThen_ok,Bool.not_true,Bool.false_eq_true,if_false]
     exact eqFields_ok hT he hx hy fs b hn.2 h D hD
    ·rename_i hq
     cases h
     rw [he _ _ _ _ _ _ hq h2 h4 D hD]
     simp
    ·cases h
   ·cases h
theorem eqElems_ok {n d:Nat} {L:Lay} {w:World} {eq:TypeId→AV→AV→Option Bool} {e:TypeId} {ei:TI} (hT:TyOK P e ei) (he:EqOK P n L w d eq) {rx ry:Array Value} {xs0 ys0:List AV}
  (hx:VR n L w (.agg xs0) (.agg rx)) (hy:VR n L w (.agg ys0) (.agg ry)):∀ (k i:Nat) (xs ys:List AV) (b:Bool),xs=xs0.drop (i * ei.size)→ys=ys0.drop (i * ei.size) →
   eqElems ei (eq e) k xs ys=some b→∀ D,d≤D →
   (forIn (m:=Sem) (List.range' i k) ((none,()):Option Bool × Unit) (fun i _=>do
    if (!(← Op.equalIn D e (← Go.part e rx (i * ei.size)) (← Go.part e ry (i * ei.size))))=true then pure (ForInStep.done (some false,())) else pure (ForInStep.yield (none,())))).run P w =
   .ok ((if b then none else some false),()) w:=by
 intro k
 induction k with
 | zero=>intro i xs ys b _ _ h D _;simp [eqElems] at h;subst h;simp
 | succ k ih =>
  intro i xs ys b hxs hys h D hD
  simp only [eqElems] at h
  have conv:∀ (zs0:List AV) x,part ei (zs0.drop (i * ei.size)) 0=some x→part ei zs0 (i * ei.size)=some x:=fun zs0 x hp=>by
   unfold part at hp ⊢
   simpa [getAt_eq] using hp
  split at h
  ·rename_i a b' ha hb
   rw [hxs] at ha;rw [hys] at hb
   obtain ⟨ra,h1,h2⟩:=part_ok hT (conv _ _ ha) hx
   obtain ⟨rb,h3,h4⟩:=part_ok hT (conv _ _ hb) hy
   simp only [List.range'_succ,List.forIn_cons,Sem.run_bind,h1,h3,Result.andThen_ok]
   split at h
   ·rename_i hq
    rw [he _ _ _ _ _ _ hq h2 h4 D hD]
    simp only [Result.andThen_ok,Bool.not_true,Bool.false_eq_true,if_false,Sem.run_pure]
    exact ih (i + 1) _ _ b (by rw [hxs,List.drop_drop,Nat.succ_mul]) (by rw [hys,List.drop_drop,Nat.succ_mul]) h D hD
   ·rename_i hq
    cases h
    rw [he _ _ _ _ _ _ hq h2 h4 D hD]
    simp
   ·cases h
  ·cases h
set_option maxHeartbeats 1000000 in
theorem eqAt_ok {n:Nat} {L:Lay} {w:World} (hT:TysOK P C):∀ d,EqOK P n L w d (eqAt C d):=by
 intro d
 induction d with
 | zero=>intro t x y b vx vy h;cases h
 | succ d ih =>
  intro t x y b vx vy h hx hy D hD
  obtain ⟨D,rfl⟩:∃ D',D=D' + 1:=⟨D - 1,by omega⟩
  have hD:d≤D:=by omega
  unfold eqAt at h
  split at h
  ·cases h
  ·rename_i ti hti
   obtain ⟨i,dd,z,hi,hd,hs,_,hk,_,_,_,_,heq, -⟩:=(hT _ _ hti).ex
   split at h
   all_goals try (cases h;done)
   case h_2 =>
    rename_i k a k' b' hkk
    cases hb:decide (k=k') with
    | false=>rw [hb] at h;cases h
    | true =>
     rw [hb,cond_true rfl] at h
     cases h
     rw [hkk] at hk
     cases dd <;> simp only [tkOf,reduceCtorEq] at hk
     have:k=k':=by simpa using hb
     subst this
     cases hx;cases hy
     simp [Op.equalIn,run_underlying hd]
   case h_3 =>
    rename_i a b' hkk
    cases h
    rw [hkk] at hk
    cases dd <;> simp only [tkOf,reduceCtorEq] at hk
    obtain ⟨s,rfl,_,h1,_⟩:=strOf_ok hx
    obtain ⟨s',rfl,_,h2,_⟩:=strOf_ok hy
    rw [run_equalIn_string w D t s s' hd,h1,h2]
   case h_20 =>
    rename_i fs xs ys hkk
    cases hb:ti.eq with
    | false=>rw [hb] at h;cases h
    | true =>
     rw [hb,cond_true rfl] at h
     rw [hkk] at hk
     cases dd <;> simp only [tkOf,reduceCtorEq] at hk
     rename_i fields
     simp only [TK.struct.injEq] at hk
     rw [hb] at heq
     have heq:=heq.symm
     simp only [eqPlain,Bool.and_eq_true,Bool.not_eq_true'] at heq
     have heq:=heq.1
     have hagg:∃ rx ry,vx = .agg rx∧vy = .agg ry:=by cases hx;cases hy;exact ⟨_,_,rfl,rfl⟩
     obtain ⟨rx,ry,rfl,rfl⟩:=hagg
     have hfo:P.fieldsOf t=fields:=by simp [Program.fieldsOf,hd]
     rw [run_equalIn_struct w D t rx ry (by rw [hfo];exact hd) heq.1.1,hfo]
     subst hk
     exact eqFields_ok hT ih hx hy fields.toList b heq.2 h D hD
   case h_21 =>
    rename_i m e xs ys hkk
    cases hb:ti.eq with
    | false=>rw [hb] at h;cases h
    | true =>
     rw [hb] at h
     simp only [Bool.not_true,cond_false] at h
     rw [hkk] at hk
     cases dd <;> simp only [tkOf,reduceCtorEq] at hk
     simp only [TK.array.injEq] at hk
     obtain ⟨rfl,rfl⟩:=hk
     split at h
     ·rename_i ei hei
      have hagg:∃ rx ry,vx = .agg rx∧vy = .agg ry:=by cases hx;cases hy;exact ⟨_,_,rfl,rfl⟩
      obtain ⟨rx,ry,rfl,rfl⟩:=hagg
      obtain ⟨ei',_,_,hinfo,_,hsz,_⟩:=(hT _ _ hei).ex
      have:=eqElems_ok (hT _ _ hei) ih hx hy m 0 xs ys b (by simp) (by simp) h D hD
      simp only [Op.equalIn,Sem.run_bind,run_underlying hd,Result.andThen_ok,run_sizeOf hinfo,hsz]
      rw [Std.Legacy.Range.forIn_eq_forIn_range']
      have hsize:List.range' [:m].start [:m].size [:m].step=List.range' 0 m:=by simp [Std.Legacy.Range.size]
      rw [hsize,this]
      cases b <;> rfl
     ·cases h
   case h_22 =>
    rename_i a u a' v hkk
    rw [hkk] at hk
    cases dd <;> simp only [tkOf,reduceCtorEq] at hk
    cases hx with | iface _ _ vu hu => ?_
    cases hy with | iface _ _ vv hv => ?_
    cases hb:Nat.beq a a' with
    | false =>
     rw [hb] at h
     simp only [Bool.not_false,cond_true] at h
     cases h
     have:a≠a':=fun e=>by subst e;simp at hb
     simp [Op.equalIn,run_underlying hd,this]
    | true =>
     rw [hb] at h
     simp only [Bool.not_true,cond_false] at h
     obtain rfl:=Nat.eq_of_beq_eq_true hb
     split at h
     ·rename_i ai hai
      obtain ⟨i',d',_,hi',hd',_,_,_,_,_,_,_,heq', -⟩:=(hT _ _ hai).ex
      cases he:ai.eq with
      | false=>rw [he] at h;cases h
      | true =>
       rw [he,cond_true rfl] at h
       rw [he] at heq'
       have hcomp:i'.comparable=true:=(Bool.and_eq_true_iff.1 heq'.symm).2
       have:=ih _ _ _ _ _ _ h hu hv D hD
       simp [Op.equalIn,run_underlying hd,run_typeInfo hi',hcomp,this]
     ·cases h
   all_goals (rename_i hkk;cases h;rw [hkk] at hk;cases dd <;> simp only [tkOf,reduceCtorEq] at hk)
   all_goals (cases hx <;> cases hy <;> simp [Op.equalIn,run_underlying hd])
end
section
variable {P:Program} {C:Cfg}
theorem arith_ok {n:Nat} {L:Lay} {w:World} {op:BinOp} {k:IntKind} {a b:Int} {x:AV} {t:TypeId} (h:arith op k a b=some x) (h1:op ≠ .shl) (h2:op ≠ .shr) :
  ∃ rv,(binOp op t (.int k a) (.int k b)).run P w = .ok rv w∧VR n L w x rv:=by
 cases op <;> simp only [arith,Option.some.injEq,reduceCtorEq] at h
 case add=>subst h;exact ⟨_,by simp [binOp,Op.intArith], .int _ _⟩
 case sub=>subst h;exact ⟨_,by simp [binOp,Op.intArith], .int _ _⟩
 case mul=>subst h;exact ⟨_,by simp [binOp,Op.intArith], .int _ _⟩
 case quo =>
  cases hb:(b==0) with
  | true=>rw [hb] at h;cases h
  | false =>
   rw [hb,cond_false rfl] at h;cases h
   have:b≠0:=by simpa using hb
   exact ⟨_,by simp [binOp,Op.intDiv,this], .int _ _⟩
 case rem =>
  cases hb:(b==0) with
  | true=>rw [hb] at h;cases h
  | false =>
   rw [hb,cond_false rfl] at h;cases h
   have:b≠0:=by simpa using hb
   exact ⟨_,by simp [binOp,Op.intDiv,this], .int _ _⟩
 case and=>subst h;exact ⟨_,by simp [binOp,Op.intBits], .int _ _⟩
 case or=>subst h;exact ⟨_,by simp [binOp,Op.intBits], .int _ _⟩
 case xor=>subst h;exact ⟨_,by simp [binOp,Op.intBits], .int _ _⟩
 case andNot=>subst h;exact ⟨_,by simp [binOp,Op.intBits], .int _ _⟩
 all_goals (subst h;exact ⟨_,by simp [binOp,Op.intCmp], .bool _⟩)
theorem shiftE_ok {n:Nat} {L:Lay} {w:World} {op:BinOp} {k k':IntKind} {a b:Int} {x:AV} {t:TypeId} (h:shiftE op k a b=some x) :
  ∃ rv,(binOp op t (.int k a) (.int k' b)).run P w = .ok rv w∧VR n L w x rv:=by
 unfold shiftE at h
 cases hb:decide (b < 0) with
 | true=>rw [hb] at h;cases h
 | false =>
  rw [hb,cond_false rfl] at h
  have h0:¬ b < 0:=by simpa using hb
  cases op <;> simp only [Option.some.injEq,reduceCtorEq] at h
  ·subst h;exact ⟨_,by simp only [binOp,Op.shift,if_neg h0];rfl, .int _ _⟩
  ·subst h;exact ⟨_,by simp only [binOp,Op.shift,if_neg h0];rfl, .int _ _⟩
theorem strOp_ok {n:Nat} {L:Lay} {w:World} {op:BinOp} {a b:List UInt8} {x:AV} {t:TypeId} {s s':ByteArray} (h:strOp op a b=some x) (hs:s.data.toList=a) (hs':s'.data.toList=b) :
  ∃ rv,(binOp op t (.string s) (.string s')).run P w = .ok rv w∧VR n L w x rv:=by
 have e1:s.toList=a:=by rw [toList_eq,hs]
 have e2:s'.toList=b:=by rw [toList_eq,hs']
 have z1:s.size=a.length:=by rw [← hs,Array.length_toList];rfl
 have z2:s'.size=b.length:=by rw [← hs',Array.length_toList];rfl
 have hbin:binOp op t (.string s) (.string s')=Op.stringOp op s s':=by cases op <;> rfl
 rw [hbin]
 cases op <;> simp only [strOp,Option.some.injEq,reduceCtorEq] at h
 case add =>
  cases hb:decide (a.length + b.length≤9223372036854775807) with
  | false=>rw [hb] at h;cases h
  | true =>
   rw [hb,cond_true rfl] at h;cases h
   have hle:a.length + b.length≤9223372036854775807:=by simpa using hb
   have:¬ ((s.size + s'.size:Nat):Int) > IntKind.i64.max:=by
    rw [z1,z2];show ¬ ((a.length + b.length:Nat):Int) > 9223372036854775807;omega
   refine ⟨.string (s++s'),by simp only [Op.stringOp,if_neg this];rfl, .str _ _ ?_⟩
   rw [← hs,← hs'];simp
 all_goals (subst h;exact ⟨_,by simp only [Op.stringOp,e1,e2];rfl, .bool _⟩)
theorem eqAt_agg {d:Nat} {t:TypeId} {xs ys:List AV} {b:Bool} (h:eqAt C d t (.agg xs) (.agg ys)=some b):∃ ti,C.ty t=some ti∧ti.eq=true∧ti.k.agg=true:=by
 cases d with
 | zero=>cases h
 | succ d =>
  unfold eqAt at h
  split at h
  ·cases h
  ·rename_i ti hti
   refine ⟨ti,hti, ?_⟩
   cases hk:ti.k <;> simp only [hk,reduceCtorEq] at h
   all_goals (cases he:ti.eq with
    | true=>exact ⟨rfl,rfl⟩
    | false=>rw [he] at h;simp at h)
theorem eqPlain_guard {t:TypeId} {d:TypeDesc} (h:eqPlain P t d=true) (ha:(tkOf d).agg=true):P.eqGuardType P.depth t=false:=by
 cases d <;> simp only [tkOf,TK.agg,Bool.false_eq_true] at ha
 ·simp only [eqPlain,Bool.not_eq_true'] at h;exact h
 ·simp only [eqPlain,Bool.and_eq_true,Bool.not_eq_true'] at h;exact h.1.2
theorem binE_eq_ok {n:Nat} {L:Lay} {w:World} (hT:TysOK P C) {t:TypeId} {a b:AV} {va vb:Value} {r:Bool} {ox oy:Operand} (hc:(isCst ox||isCst oy || !(isNilI a&&isNilI b))=true)
  (h:eqAt C 32 t a b=some r) (ha:VR n L w a va) (hb:VR n L w b vb) (op:BinOp) (hop:op = .eql∨op = .neq) :
  (eqGuard op t ox oy va vb).run P w = .ok () w∧(Op.equal t va vb).run P w = .ok r w:=by
 refine ⟨?_,eqAt_ok hT 32 t a b r va vb h ha hb _ (by decide)⟩
 cases ha
 case nilI =>
  cases hb
  case nilI =>
   have hcst:(isCst ox||isCst oy)=true:=by simpa [isNilI] using hc
   clear hc
   rcases hop with rfl | rfl <;> cases ox <;> cases oy <;> first | (simp [isCst] at hcst;done) | simp [eqGuard]
  all_goals (rcases hop with rfl | rfl <;> simp [eqGuard])
 case agg xs rx hl ho hv =>
  cases hb
  case agg ys ry hl' ho' hv' =>
   obtain ⟨ti,hti,he,hagg⟩:=eqAt_agg h
   obtain ⟨i,d,z,hi,hd,hs,_,hk,_,_,_,_,heq, -⟩:=(hT _ _ hti).ex
   rw [he] at heq;rw [hk] at hagg
   exact run_eqGuard_agg w op t ox oy rx ry (eqPlain_guard (Bool.and_eq_true_iff.1 heq.symm).1 hagg)
  all_goals (rcases hop with rfl | rfl <;> simp [eqGuard])
 all_goals (rcases hop with rfl | rfl <;> simp [eqGuard])
theorem binE_ok {n:Nat} {L:Lay} {w:World} (hT:TysOK P C) {op:BinOp} {t:TypeId} {a b x:AV} {va vb:Value} {ox oy:Operand} (h:binE C op t (isCst ox||isCst oy) a b=some x) (ha:VR n L w a va) (hb:VR n L w b vb) :
  ∃ rv,(do eqGuard op t ox oy va vb;binOp op t va vb).run P w = .ok rv w∧VR n L w x rv:=by
 have guard:∀ s,(eqGuard op t ox oy va vb).run P w = .ok () w→(∃ rv,s.run P w = .ok rv w∧VR n L w x rv)→∃ rv,(do eqGuard op t ox oy va vb;s).run P w = .ok rv w∧VR n L w x rv:=fun s hg ⟨rv,h1,h2⟩ =>
  ⟨rv,by simp only [Sem.run_bind,hg,Result.andThen_ok];exact h1,h2⟩
 unfold binE at h
 split at h
 ·rename_i k a k' b
  cases ha;cases hb
  refine guard _ (by cases op <;> simp [eqGuard]) ?_
  split at h
  ·exact shiftE_ok h
  ·exact shiftE_ok h
  ·rename_i h1 h2
   cases hb:decide (k=k') with
   | false=>rw [hb] at h;cases h
   | true =>
    rw [hb,cond_true rfl] at h
    have:k=k':=by simpa using hb
    subst this
    exact arith_ok h (fun e=>h1 e) (fun e=>h2 e)
 ·cases ha with
  | str _ s hs=>cases hb with
   | str _ s' hs'=>exact guard _ (by cases op <;> simp [eqGuard]) (strOp_ok h hs hs')
 ·rename_i hni hns
  have hbin:∀ op,(op = .eql∨op = .neq)→binOp op t va vb=(do let r ← Op.equal t va vb;pure (.bool (if op = .eql then r else !r))):=by
   intro op hop
   cases ha
   case int k i =>
    cases hb
    case int k' i'=>exact absurd rfl (hni _ _ _ _ rfl)
    all_goals (rcases hop with rfl | rfl <;> rfl)
   case str l s hs =>
    cases hb
    case str l' s' hs'=>exact absurd rfl (hns _ _ rfl)
    all_goals (rcases hop with rfl | rfl <;> rfl)
   all_goals (rcases hop with rfl | rfl <;> (cases hb <;> rfl))
  split at h
  ·cases hc:(isCst ox||isCst oy || !(isNilI a&&isNilI b)) with
   | false=>rw [hc] at h;cases h
   | true =>
    rw [hc,cond_true rfl] at h
    simp only [Option.map_eq_some_iff] at h
    obtain ⟨r,h1,rfl⟩:=h
    obtain ⟨h2,h3⟩:=binE_eq_ok hT hc h1 ha hb .eql (.inl rfl)
    exact guard _ h2 ⟨.bool r,by rw [hbin _ (.inl rfl)];simp [h3], .bool _⟩
  ·cases hc:(isCst ox||isCst oy || !(isNilI a&&isNilI b)) with
   | false=>rw [hc] at h;cases h
   | true =>
    rw [hc,cond_true rfl] at h
    simp only [Option.map_eq_some_iff] at h
    obtain ⟨r,h1,rfl⟩:=h
    obtain ⟨h2,h3⟩:=binE_eq_ok hT hc h1 ha hb .neq (.inr rfl)
    exact guard _ h2 ⟨.bool !r,by rw [hbin _ (.inr rfl)];simp [h3], .bool _⟩
  ·cases h
theorem unE_ok {n:Nat} {L:Lay} {w:World} {op:UnOp} {a x:AV} {va:Value} (h:unE op a=some x) (ha:VR n L w a va):∃ rv,(Op.unary op va).run P w = .ok rv w∧VR n L w x rv:=by
 unfold unE at h
 split at h
 ·cases h;cases ha;exact ⟨_,by simp only [Op.unary,Op.intArith];rfl, .int _ _⟩
 ·rename_i k i
  cases ha
  simp only [arith,Option.some.injEq] at h
  subst h
  refine ⟨_,by simp only [Op.unary,Op.intBits];rfl, ?_⟩
  have:(bif k.signed then (-1:Int) else k.max)=if k.signed=true then -1 else k.max:=by cases k.signed <;> rfl
  rw [this]
  exact .int _ _
 ·cases h;cases ha;exact ⟨_,by simp only [Op.unary];rfl, .bool _⟩
 ·cases h
theorem indexE_ok {n:Nat} {L:Lay} {w:World} (hT:TysOK P C) {t:TypeId} {i:Int} {k:IntKind} {a x:AV} {va:Value} (h:indexE C t a i=some x) (ha:VR n L w a va) :
  ∃ rv,(Instr.index t va (.int k i)).run P w = .ok rv w∧VR n L w x rv:=by
 unfold indexE at h
 cases hi:decide (i < 0) with
 | true=>rw [hi] at h;cases h
 | false =>
  rw [hi,cond_false rfl] at h
  have h0:0≤i:=by simpa using hi
  split at h
  ·rename_i m e _ _ _ _ cs hti
   obtain ⟨_,d,_,_,hd,_,_,hk, -⟩:=(hT t _ hti).ex
   dsimp only at hk
   cases d <;> simp only [tkOf,reduceCtorEq] at hk
   simp only [TK.array.injEq] at hk
   obtain ⟨rfl,rfl⟩:=hk
   cases hb:(!decide (i < (m:Int))) with
   | true=>rw [hb] at h;cases h
   | false =>
    rw [hb,cond_false rfl] at h
    have hlt:i < m:=by simpa using hb
    split at h
    ·cases h
    ·rename_i ei hei
     obtain ⟨eti,_,_,hinfo,_,hsz,_⟩:=(hT _ _ hei).ex
     cases ha with
     | agg _ rc hl ho hv =>
      obtain ⟨rv,h1,h2⟩:=part_ok (hT _ _ hei) h (VR.agg cs rc hl ho hv)
      exact ⟨rv,by simp [Instr.index,asIntOf,run_underlying hd,h0,hlt,run_sizeOf hinfo,hsz,h1],h2⟩
  ·rename_i _ _ _ _ s hti
   obtain ⟨_,d,_,_,hd,_,_,hk, -⟩:=(hT t _ hti).ex
   dsimp only at hk
   cases d <;> simp only [tkOf,reduceCtorEq] at hk
   simp only [Option.map_eq_some_iff] at h
   obtain ⟨c,hc,rfl⟩:=h
   have hc:=getAt_some hc
   cases ha with
   | str _ b hb =>
    have hlt:i.toNat < b.size:=by
     have:=(List.getElem?_eq_some_iff.1 hc).1
     rw [← hb,Array.length_toList] at this;exact this
    have hget:b[i.toNat]?=some c:=by
     rw [← hb] at hc
     rw [Array.getElem?_toList] at hc
     rw [getElem?_pos b i.toNat hlt]
     rw [← hc]
     exact (Array.getElem?_eq_getElem (xs:=b.data) hlt).symm
    exact ⟨_,by simp [Instr.index,asIntOf,run_underlying hd,h0,hget], .int _ _⟩
  ·cases h
end
section
variable {P:Program} {C:Cfg}
theorem foldSet (off:Nat):∀ (l:List Value) (s:Nat) (cs:Array Value),off + s + l.length≤cs.size →
  ((l.zipIdx s).foldl (fun (cs:Array Value) (p:Value × Nat)=>cs.setIfInBounds (off + p.2) p.1) cs).size=cs.size ∧
  ∀ j,((l.zipIdx s).foldl (fun (cs:Array Value) (p:Value × Nat)=>cs.setIfInBounds (off + p.2) p.1) cs)[j]?=if off + s≤j∧j < off + s + l.length then l[j - (off + s)]? else cs[j]?
 | [],s,cs,_=>⟨rfl,fun j=>by rw [if_neg (by simp)];rfl⟩
 | v::l,s,cs,h=>by
  simp only [List.length_cons] at h
  obtain ⟨h1,h2⟩:=foldSet off l (s + 1) (cs.setIfInBounds (off + s) v) (by simp;omega)
  simp only [List.zipIdx_cons,List.foldl_cons]
  refine ⟨by rw [h1];simp,fun j => ?_⟩
  rw [h2]
  by_cases hj:j=off + s
  ·subst hj
   rw [if_neg (by omega),if_pos (by simp),Array.getElem?_setIfInBounds_self_of_lt (by omega)]
   simp
  ·rw [Array.getElem?_setIfInBounds_ne (by omega)]
   by_cases hj2:off + (s + 1)≤j∧j < off + (s + 1) + l.length
   ·rw [if_pos hj2,if_pos (by simp;omega)]
    obtain ⟨k,hk⟩:∃ k,j - (off + s)=k + 1:=⟨j - (off + s) - 1,by omega⟩
    rw [hk,List.getElem?_cons_succ]
    congr 1;omega
   ·rw [if_neg hj2,if_neg (by simp;omega)]
theorem zipFold (off:Nat) (v cs:Array Value):v.zipIdx.foldl (fun (cs:Array Value) (x:Value × Nat)=>match x with | (c,j)=>cs.setIfInBounds (off + j) c) cs =
  ((v.toList.zipIdx 0).foldl (fun (cs:Array Value) (p:Value × Nat)=>cs.setIfInBounds (off + p.2) p.1) cs):=by
 rw [← Array.foldl_toList,Array.toList_zipIdx]
structure ACR (n:Nat) (L:Lay) (w:World) (cs:List AV) (rc:Array Value):Prop where
 len:rc.size=cs.length
 one:∀ (i:Nat) x,cs[i]?=some x→x.one=true
 vr:∀ (i:Nat) x,cs[i]?=some x→VR n L w x (rc.getD i default)
theorem ACR.splice {n:Nat} {L:Lay} {w:World} {cs:List AV} {rc:Array Value} (h:ACR n L w cs rc) {x:AV} {v:Value} {off:Nat} (hx:VR n L w x v) (hn:x.noTup=true) (hle:off + x.cells.length≤cs.length) :
  ACR n L w (splice cs off x.cells) (v.cells.zipIdx.foldl (fun (cs:Array Value) (x:Value × Nat)=>match x with | (c,j)=>cs.setIfInBounds (off + j) c) rc):=by
 have hcr:=hx.cells
 have hlen:v.cells.toList.length=x.cells.length:=hcr.1
 obtain ⟨h1,h2⟩:=foldSet off v.cells.toList 0 rc (by rw [h.len];omega)
 rw [zipFold]
 refine ⟨by rw [h1,h.len,splice_length hle],fun i y hy => ?_,fun i y hy => ?_⟩
 ·rw [splice_get hle] at hy
  split at hy
  ·exact hx.ones hn _ _ hy
  ·exact h.one _ _ hy
 ·rw [splice_get hle] at hy
  rw [Array.getD_eq_getD_getElem?,h2]
  split at hy
  ·rename_i hin
   rw [if_pos (by omega)]
   obtain ⟨u,hu⟩:∃ u,v.cells.toList[i - off]?=some u:=⟨_,List.getElem?_eq_getElem (by omega)⟩
   have e:i - (off + 0)=i - off:=by omega
   rw [e,hu]
   exact hcr.2 _ _ _ hy hu
  ·rename_i hout
   rw [if_neg (by omega)]
   have:=h.vr _ _ hy
   rwa [Array.getD_eq_getD_getElem?] at this
theorem zero_ok (n:Nat) (L:Lay) (w:World) {z:Value} {zs:List AV} (h:mapO (ofConst 8) z.cells.toList=some zs) (ho:allOne zs=true):ACR n L w zs z.cells:=by
 obtain ⟨hl,hi⟩:=mapO_eq _ _ _ h
 refine ⟨by simp [hl],allOne_mem ho,fun i x hx => ?_⟩
 have hlt:i < z.cells.size:=by have:=(List.getElem?_eq_some_iff.1 hx).1;simpa [hl] using this
 obtain ⟨y,hy,hr⟩:=hi i z.cells[i] (by simp [hlt])
 have:x=y:=by rw [hx] at hr;exact Option.some.inj hr
 subst this
 have:=ofConst_ok L n w _ _ _ hy
 simpa [Array.getD,hlt] using this
def PR (n:Nat) (L:Lay) (w:World):List (Nat × AV)→List (Nat × Value)→Prop
 | [],[]=>True
 | (i,x)::ps,(j,v)::rs=>i=j∧VR n L w x v∧PR n L w ps rs
 | _,_=>False
theorem valParts_ok {B base:Nat} {w0 w:World} {L:Lay} {hp:List Blk} {ts:List TV} {rt:Array Value} {ds:List Deferred} (hI:Inv C.glob B w0 L w hp) (hF:FR hp.length L w base ts rt) :
  ∀ (ps:List (Nat × Operand)) (r:List (Nat × AV)),valParts C ts ps=some r→PR hp.length L w r (ps.map fun (i,x)=>(i,({ tmps:=rt,defers:=ds }:Act).eval x))
 | [],r,h=>by simp [valParts] at h;subst h;trivial
 | (i,x)::ps,r,h=>by
  simp only [valParts] at h
  split at h
  ·rename_i a ha
   split at h
   ·rename_i r' hr
    cases h
    exact ⟨rfl,opv_ok hI hF ha,valParts_ok hI hF ps r' hr⟩
   ·cases h
  ·cases h
theorem fill_ok {n:Nat} {L:Lay} {w:World} (ti:TI) (place:Nat→Option (Nat × Nat))
  (hpl:∀ i off sz,(match ti.k with
   | .struct fs=>(match getAt fs i with
    | some (off,ft)=>(C.ty ft).map fun fi=>(off,fi.size)
    | none=>none)
   | .array _ e=>(C.ty e).map fun ei=>(i * ei.size,ei.size)
   | _=>none)=some (off,sz)→place i=some (off,sz)) :
  ∀ (ps:List (Nat × AV)) (rs:List (Nat × Value)) (cs r:List AV) (rc:Array Value),PR n L w ps rs→ACR n L w cs rc→fill ti C cs ps=some r →
   ∃ rr,Instr.fill place rc rs=some rr∧ACR n L w r rr
 | [],[],cs,r,rc,_,hc,h=>by simp [fill] at h;subst h;exact ⟨rc,rfl,hc⟩
 | [],_::_,_,_,_,hp,_,_=>hp.elim
 | _::_,[],_,_,_,hp,_,_=>by cases hp
 | (i,x)::ps,(j,v)::rs,cs,r,rc,hp,hc,h=>by
  obtain ⟨rfl,hx,hp⟩:=hp
  simp only [fill] at h
  split at h
  ·rename_i off sz hq
   have hpi:=hpl i off sz hq
   cases hb:(x.cells.length==sz&&x.noTup&&decide (off + sz≤cs.length)) with
   | false=>rw [hb] at h;cases h
   | true =>
    rw [hb,cond_true rfl] at h
    simp only [Bool.and_eq_true,beq_iff_eq,decide_eq_true_eq] at hb
    obtain ⟨⟨h1,h2⟩,h3⟩:=hb
    have hvs:v.cells.size=sz:=by have:=hx.cells.1;simp at this;omega
    obtain ⟨rr,h4,h5⟩:=fill_ok ti place hpl ps rs _ r _ hp (hc.splice hx h2 (by omega)) h
    refine ⟨rr, ?_,h5⟩
    simp only [Instr.fill,hpi]
    have hle:off + v.cells.size≤rc.size:=by rw [hc.len,hvs];exact h3
    rw [if_neg (by simp only [Bool.or_eq_true,decide_eq_true_eq,not_or];omega)]
    exact h4
  ·cases h
theorem run_mapM_list {α β:Type} {w:World} (g:α→Sem β) (f:α→β):∀ (l:List α),(∀ a ∈ l,(g a).run P w = .ok (f a) w)→(l.mapM g).run P w = .ok (l.map f) w
 | [],_=>by simp
 | a::l,h=>by
  simp only [List.mapM_cons,Sem.run_bind,h a (List.mem_cons_self ..),Result.andThen_ok,run_mapM_list g f l fun b hb=>h b (List.mem_cons_of_mem _ hb)]
  simp
theorem build_ok {B base:Nat} {w0 w:World} {L:Lay} {hp:List Blk} {ts:List TV} {rt:Array Value} {ds:List Deferred} (hT:TysOK P C) (hI:Inv C.glob B w0 L w hp) (hF:FR hp.length L w base ts rt)
  {t:TypeId} {ti:TI} {ps:Array (Nat × Operand)} {vs:List (Nat × AV)} {cs:List AV} (hti:C.ty t=some ti) (hagg:ti.k.agg=true) (hv:valParts C ts ps.toList=some vs) (h:fill ti C ti.zero vs=some cs) :
  ∃ rv,(Instr.build t (ps.map fun (i,x)=>(i,({ tmps:=rt,defers:=ds }:Act).eval x))).run P w = .ok rv w∧VR hp.length L w (.agg cs) rv:=by
 obtain ⟨i,d,z,hi,hd,hs,_,hk,hz,hzs,hzl,ho,_,hkn⟩:=(hT t ti hti).ex
 have hpr:=valParts_ok (ds:=ds) hI hF ps.toList vs hv
 have hz0:=zero_ok hp.length L w hzs ho
 cases d with
 | struct fs =>
  have hkn:∀ f ∈ fs.toList,∃ fi,P.info? f.type=some fi:=by
   simp only [partsKnown,List.all_eq_true] at hkn
   have hkn:=hkn.1
   exact fun f hf=>Option.isSome_iff_exists.1 (hkn f hf)
  let sz:Field→Nat:=fun f=>((P.info? f.type).map (·.size)).getD 0
  have hplaces:(fs.mapM fun f=>(do pure (f.offset,← Go.sizeOf f.type):Sem (Nat × Nat))).run P w = .ok (fs.map fun f=>(f.offset,sz f)) w:=by
   have:=run_mapM_list (P:=P) (w:=w) (fun f:Field=>(do pure (f.offset,← Go.sizeOf f.type):Sem (Nat × Nat))) (fun f=>(f.offset,sz f)) fs.toList (fun f hf=>by
    obtain ⟨fi,hfi⟩:=hkn f hf
    simp [run_sizeOf hfi,sz,hfi])
   rw [Array.mapM_eq_mapM_toList,Sem.run_map,this]
   exact congrArg (fun a=>Result.ok a w) (Array.ext' (by simp))
  obtain ⟨rr,h1,h2⟩:=fill_ok (n:=hp.length) (L:=L) (w:=w) ti (fun k=>(fs.map fun f=>(f.offset,sz f))[k]?) (fun k off s hq=>by
   rw [hk] at hq
   simp only [tkOf,getAt_eq,List.getElem?_map] at hq
   cases hf:fs.toList[k]? with
   | none=>rw [hf] at hq;cases hq
   | some f =>
    rw [hf] at hq
    simp only [Option.map_some,Option.map_eq_some_iff,Prod.mk.injEq] at hq
    obtain ⟨fti,g1,g2,g3⟩:=hq
    obtain ⟨fi,_,_,g4,_,g5,_⟩:=(hT _ _ g1).ex
    rw [Array.getElem?_toList] at hf
    simp [hf,sz,g4,g2]
    omega) vs _ ti.zero cs z.cells hpr hz0 h
  refine ⟨.agg rr, ?_, .agg _ _ h2.len h2.one h2.vr⟩
  simp only [Instr.build,Sem.run_bind,run_zeroValue hi hz,Result.andThen_ok,run_underlying hd,hplaces]
  have:(ps.map fun (i,x)=>(i,({ tmps:=rt,defers:=ds }:Act).eval x)).toList=ps.toList.map fun (i,x)=>(i,({ tmps:=rt,defers:=ds }:Act).eval x):=by simp
  rw [this,h1]
  rfl
 | array m e =>
  simp only [partsKnown] at hkn
  have hkn:=hkn.1
  obtain ⟨ei,hei⟩:=Option.isSome_iff_exists.1 hkn
  obtain ⟨rr,h1,h2⟩:=fill_ok (n:=hp.length) (L:=L) (w:=w) ti (fun k=>some (k * ei.size,ei.size)) (fun k off s hq=>by
   rw [hk] at hq
   simp only [tkOf,Option.map_eq_some_iff,Prod.mk.injEq] at hq
   obtain ⟨eti,g1,g2,g3⟩:=hq
   obtain ⟨ei',_,_,g4,_,g5,_⟩:=(hT _ _ g1).ex
   rw [hei] at g4;cases g4
   simp;rw [g5];exact ⟨g2,g3⟩) vs _ ti.zero cs z.cells hpr hz0 h
  refine ⟨.agg rr, ?_, .agg _ _ h2.len h2.one h2.vr⟩
  simp only [Instr.build,Sem.run_bind,run_zeroValue hi hz,Result.andThen_ok,run_underlying hd,run_sizeOf hei]
  have:(ps.map fun (i,x)=>(i,({ tmps:=rt,defers:=ds }:Act).eval x)).toList=ps.toList.map fun (i,x)=>(i,({ tmps:=rt,defers:=ds }:Act).eval x):=by simp
  rw [this,h1]
  rfl
 | _=>rw [hk] at hagg;simp [tkOf,TK.agg] at hagg
end
section
variable {P:Program} {C:Cfg}
theorem run_newRow {e:TypeId} {c:Array Value} (w:World):(newRow e c).run P w = .ok ⟨w.heap.size,0,none⟩ (w.alloc (.cells c e)):=by
 simp [newRow]
theorem flat_append:∀ (xs ys:List AV),flat (xs++ys)=flat xs++flat ys
 | [],ys=>rfl
 | x::xs,ys=>by simp [flat,flat_append xs ys]
theorem flat_set {sz:Nat}:∀ (xs:List AV) (i:Nat) (x:AV),(∀ y ∈ xs,y.cells.length=sz)→x.cells.length=sz→i < xs.length→flat (xs.set i x)=splice (flat xs) (i * sz) x.cells
 | [],_,_,_,_,h=>by simp at h
 | y::ys,0,x,hs,hx,_=>by
  have hy:=hs y (List.mem_cons_self ..)
  simp only [List.set_cons_zero,flat,Nat.zero_mul]
  rw [splice_eq _ 0 _ (Nat.zero_le _)]
  simp [hx,← hy]
 | y::ys,i + 1,x,hs,hx,h=>by
  have hy:=hs y (List.mem_cons_self ..)
  have hs':∀ z ∈ ys,z.cells.length=sz:=fun z hz=>hs z (List.mem_cons_of_mem _ hz)
  have hi:i < ys.length:=by simpa using h
  have ih:=flat_set ys i x hs' hx hi
  have hfl:=flat_length ys hs'
  have hle:(i + 1) * sz≤ys.length * sz:=Nat.mul_le_mul_right _ hi
  rw [Nat.succ_mul] at hle
  simp only [List.set_cons_succ,flat,ih]
  rw [splice_eq _ (i * sz) _ (by omega),splice_eq _ ((i + 1) * sz) _ (by simp [Nat.succ_mul];omega)]
  have e1:(i + 1) * sz=y.cells.length + i * sz:=by rw [Nat.succ_mul];omega
  rw [e1,List.take_length_add_append,Nat.add_assoc,List.drop_length_add_append]
  simp
theorem setParts_ok {n:Nat} {L:Lay} {w:World} {sz:Nat}:∀ (ps:List (Nat × AV)) (rs:List (Nat × Value)) (xs r:List AV) (rc:Array Value),PR n L w ps rs→(∀ y ∈ xs,y.cells.length=sz) →
  ACR n L w (flat xs) rc→setParts sz xs ps=some r→∃ rr,Instr.fill (fun i=>some (i * sz,sz)) rc rs=some rr∧ACR n L w (flat r) rr∧(∀ y ∈ r,y.cells.length=sz)∧r.length=xs.length
 | [],[],xs,r,rc,_,hs,hc,h=>by simp [setParts] at h;subst h;exact ⟨rc,rfl,hc,hs,rfl⟩
 | [],_::_,_,_,_,hp,_,_,_=>hp.elim
 | _::_,[],_,_,_,hp,_,_,_=>by cases hp
 | (i,x)::ps,(j,v)::rs,xs,r,rc,hp,hs,hc,h=>by
  obtain ⟨rfl,hx,hp⟩:=hp
  simp only [setParts] at h
  cases hb:(x.cells.length==sz&&x.noTup&&decide (i < xs.length)) with
  | false=>rw [hb] at h;cases h
  | true =>
   rw [hb,cond_true rfl,setAt_eq] at h
   simp only [Bool.and_eq_true,beq_iff_eq,decide_eq_true_eq] at hb
   obtain ⟨⟨h1,h2⟩,h3⟩:=hb
   have hfl:=flat_length xs hs
   have hle:(i + 1) * sz≤xs.length * sz:=Nat.mul_le_mul_right _ h3
   rw [Nat.succ_mul] at hle
   have hvs:v.cells.size=sz:=by have:=hx.cells.1;simp at this;omega
   have hs':∀ y ∈ xs.set i x,y.cells.length=sz:=fun y hy=>by
    rcases List.mem_or_eq_of_mem_set hy with hy | hy
    ·exact hs y hy
    ·subst hy;exact h1
   obtain ⟨rr,h4,h5,h6,h7⟩:=setParts_ok ps rs (xs.set i x) r _ hp hs' (by rw [flat_set xs i x hs h1 h3];exact hc.splice hx h2 (by omega)) h
   refine ⟨rr, ?_,h5,h6,by simpa using h7⟩
   simp only [Instr.fill]
   have hsz:i * sz + v.cells.size≤rc.size:=by rw [hc.len,hvs];omega
   rw [if_neg (by simp only [Bool.or_eq_true,decide_eq_true_eq,not_or];omega)]
   exact h4
def rep (cs:List AV):Nat→List AV
 | 0=>[]
 | n + 1=>cs++rep cs n
theorem rep_length (cs:List AV):∀ n,(rep cs n).length=n * cs.length
 | 0=>by simp [rep]
 | n + 1=>by simp [rep,rep_length cs n,Nat.succ_mul];omega
theorem rep_get (cs:List AV):∀ n j,j < n * cs.length→(rep cs n)[j]?=cs[j % cs.length]?
 | 0,j,h=>by simp at h
 | n + 1,j,h=>by
  simp only [rep]
  by_cases hj:j < cs.length
  ·rw [List.getElem?_append_left hj,Nat.mod_eq_of_lt hj]
  ·rw [Nat.succ_mul] at h
   rw [List.getElem?_append_right (by omega),rep_get cs n _ (by omega)]
   congr 1
   exact (Nat.mod_eq_sub_mod (by omega)).symm
theorem flat_replicate (z:AV):∀ n,flat (List.replicate n z)=rep z.cells n
 | 0=>rfl
 | n + 1=>by simp [List.replicate_succ,flat,rep,flat_replicate z n]
theorem zeros_rep (ti:TI):∀ n,zeros ti n=rep ti.zero n
 | 0=>rfl
 | n + 1=>by simp [zeros,rep,zeros_rep ti n]
theorem rep_ok {n:Nat} {L:Lay} {w:World} {cs:List AV} {rc:Array Value} (h:ACR n L w cs rc) (k:Nat) (hk:rc.size≠0):ACR n L w (rep cs k) ((Array.range (k * rc.size)).map (rc[· % rc.size]!)) where
 len:=by rw [rep_length];simp [h.len]
 one i x hx:=by
  have hlt:=(List.getElem?_eq_some_iff.1 hx).1
  rw [rep_length] at hlt
  rw [rep_get cs k i hlt] at hx
  exact h.one _ x hx
 vr i x hx:=by
  have hlt:=(List.getElem?_eq_some_iff.1 hx).1
  rw [rep_length] at hlt
  rw [rep_get cs k i hlt] at hx
  have:=h.vr _ x hx
  rw [← h.len] at this hlt
  have hm:i % rc.size < rc.size:=Nat.mod_lt _ (by omega)
  simpa [Array.getD,hlt,hm] using this
theorem ACR.mono {n n':Nat} {L L':Lay} {w w':World} {cs:List AV} {rc:Array Value} (hn:n≤n') (e:Ext n L w L' w') (h:ACR n L w cs rc):ACR n' L' w' cs rc :=
 ⟨h.len,h.one,fun i x hx=>(h.vr i x hx).mono hn e⟩
theorem newLit {n n':Nat} {L:Lay} {w:World} {c c':Array Value} {sz:Nat} {xs:List AV} (hx:ACR n L w (flat xs) c) (hs:∀ y ∈ xs,y.cells.length=sz) (cap:Nat) (hcap:xs.length≤cap) (own:Own)
  (w':World) (L':Lay) (hn:n≤n') (ha:Alloc w w' c') (hc':∀ (j:Nat) v,c[j]?=some v→c'[j]?=some v) (hwho:∀ o,o < c.size→L'.who w.heap.size o = .imm) (he:Ext n L w L' w') (ho:OwnOK L' n' own sz w.heap.size 0 xs.length cap) :
  VR n' L' w' (.lit sz own xs) (.slice (some ⟨w.heap.size,0,none⟩) xs.length cap):=by
 have hl:=flat_length xs hs
 refine .lit sz own xs w.heap.size 0 cap (fun j=>c.getD j default) hcap hs (fun j hj => ?_) hx.one (fun j x hj=>(hx.vr j x hj).mono hn he) ho
 have hlt:j < c.size:=by rw [hx.len];omega
 rw [Nat.zero_add,ha.new]
 have:c[j]?=some (c.getD j default):=by simp [Array.getD,hlt]
 exact ⟨hc' j _ this,hwho j hlt⟩
theorem buildSlice_run {B base:Nat} {w0 w:World} {L:Lay} {hp:List Blk} {ts:List TV} {rt:Array Value} {ds:List Deferred} (hT:TysOK P C) (hI:Inv C.glob B w0 L w hp) (hF:FR hp.length L w base ts rt)
  {t e:TypeId} {a b:Nat} {zz:List AV} {q:Bool} {ei:TI} {len:Nat} {ps:Array (Nat × Operand)} {vs:List (Nat × AV)} {z:AV} {xs:List AV} (hti:C.ty t=some ⟨.slice e,a,b,zz,q⟩) (hei:C.ty e=some ei)
  (hz:valOf ei ei.zero=some z) (hv:valParts C ts ps.toList=some vs) (hzl:z.cells.length=ei.size) (hzt:z.noTup=true) (h0:ei.size≠0) (hle:len * ei.size≤16777216)
  (h:setParts ei.size (List.replicate len z) vs=some xs) :
  ∃ rr,(Instr.buildSlice t len (ps.map fun (i,x)=>(i,({ tmps:=rt,defers:=ds }:Act).eval x))).run P w = .ok (.slice (some ⟨w.heap.size,0,none⟩) len len) (w.alloc (.cells rr e)) ∧
   ACR hp.length L w (flat xs) rr∧(∀ y ∈ xs,y.cells.length=ei.size)∧xs.length=len:=by
 obtain ⟨_,d,_,_,hd,_,_,hk, -⟩:=(hT t _ hti).ex
 dsimp only at hk
 cases d <;> simp only [tkOf,reduceCtorEq] at hk
 simp only [TK.slice.injEq] at hk
 subst hk
 obtain ⟨eti,ed,zv,hinfo,hed,hsz,_,hek,hzi,hzs,hzl',hzo,_,_⟩:=(hT _ _ hei).ex
 have hpr:=valParts_ok (ds:=ds) hI hF ps.toList vs hv
 have hz0:=zero_ok hp.length L w hzs hzo
 have hzc:z.cells=ei.zero:=by
  unfold valOf at hz
  have hzl2:ei.zero.length=ei.size:=by rw [← hz0.len,hzl']
  cases ha:ei.k.agg with
  | false =>
   have h1:=part_one ha hz
   have hone:=allOne_mem hzo _ _ h1
   rw [AV.cells_one hone] at hzl ⊢
   have:ei.size=1:=by simpa using hzl.symm
   rw [this] at hzl2
   match hq:ei.zero,hzl2 with
   | [y],_=>rw [hq] at h1;simp at h1;rw [h1]
  | true =>
   obtain ⟨rfl,_⟩:=part_agg ha hz
   simp [AV.cells,← hzl2]
 have hsizes:∀ y ∈ List.replicate len z,y.cells.length=ei.size:=fun y hy=>by rw [(List.mem_replicate.1 hy).2];exact hzl
 have hzsize:zv.cells.size≠0:=by rw [hzl'];exact h0
 have hrep:ACR hp.length L w (flat (List.replicate len z)) ((Array.range (len * zv.cells.size)).map (zv.cells[· % zv.cells.size]!)):=by
  rw [flat_replicate,hzc];exact rep_ok hz0 len hzsize
 obtain ⟨rr,h1,h2,h3,h4⟩:=setParts_ok vs _ _ xs _ hpr hsizes hrep h
 have hlen:xs.length=len:=by rw [h4];simp
 refine ⟨rr, ?_,h2,h3,hlen⟩
 ·have hpart:(ps.map fun (i,x)=>(i,({ tmps:=rt,defers:=ds }:Act).eval x)).toList=ps.toList.map fun (i,x)=>(i,({ tmps:=rt,defers:=ds }:Act).eval x):=by simp
  have hno:¬ (len * eti.size > 2 ^ 24):=by rw [hsz];omega
  simp only [Instr.buildSlice,Sem.run_bind,run_underlying hd,Result.andThen_ok,run_sizeOf hinfo,if_neg hno,hpart,Sem.run_ite]
  by_cases hz2:len * eti.size=0
  ·have:len=0:=by rcases Nat.mul_eq_zero.1 hz2 with h | h;exact h;omega
   subst this
   have hxs:xs=[]:=List.length_eq_zero_iff.1 hlen
   have hf:Instr.fill (fun i=>some (i * eti.size,eti.size)) ((Array.range (0 * eti.size)).map ((#[]:Array Value)[· % 0]!)) (ps.toList.map fun (i,x)=>(i,({ tmps:=rt,defers:=ds }:Act).eval x))=some rr:=by
    rw [← h1,hsz]
    congr 1
    simp
   rw [if_pos hz2]
   simp only [Sem.run_pure,Result.andThen_ok]
   rw [show (#[]:Array Value).size=0 from rfl,hf]
   simp [run_newRow]
  ·rw [if_neg hz2]
   have hf:Instr.fill (fun i=>some (i * eti.size,eti.size)) ((Array.range (len * eti.size)).map (zv.cells[· % zv.cells.size]!)) (ps.toList.map fun (i,x)=>(i,({ tmps:=rt,defers:=ds }:Act).eval x))=some rr:=by
    rw [← h1,hsz,hzl']
   simp only [Sem.run_bind,run_zeroValue hinfo hzi,Result.andThen_ok,Sem.run_pure,hf]
   simp [run_newRow]
theorem buildSlice_ok {B base:Nat} {w0 w:World} {L:Lay} {hp:List Blk} {ts:List TV} {rt:Array Value} {ds:List Deferred} (hT:TysOK P C) (hI:Inv C.glob B w0 L w hp) (hF:FR hp.length L w base ts rt)
  {t e:TypeId} {a b:Nat} {zz:List AV} {q:Bool} {ei:TI} {len:Nat} {ps:Array (Nat × Operand)} {vs:List (Nat × AV)} {z:AV} {xs:List AV} (hti:C.ty t=some ⟨.slice e,a,b,zz,q⟩) (hei:C.ty e=some ei)
  (hz:valOf ei ei.zero=some z) (hv:valParts C ts ps.toList=some vs) (hzl:z.cells.length=ei.size) (hzt:z.noTup=true) (h0:ei.size≠0) (hle:len * ei.size≤16777216)
  (h:setParts ei.size (List.replicate len z) vs=some xs) :
  ∃ w' L',(Instr.buildSlice t len (ps.map fun (i,x)=>(i,({ tmps:=rt,defers:=ds }:Act).eval x))).run P w = .ok (.slice (some ⟨w.heap.size,0,none⟩) len len) w' ∧
   Inv C.glob B w0 L' w' hp∧Ext hp.length L w L' w'∧(∀ s,KeepLoc s L w L' w')∧w.heap.size≤w'.heap.size∧VR hp.length L' w' (.lit ei.size .exact xs) (.slice (some ⟨w.heap.size,0,none⟩) len len):=by
 obtain ⟨rr,h1,h2,h3,hlen⟩:=buildSlice_run (ds:=ds) hT hI hF hti hei hz hv hzl hzt h0 hle h
 obtain ⟨k1,k2,k3⟩:=hI.addRow (alloc_alloc w rr e) (fun o=>if o < rr.size then .imm else .none) (fun o=>⟨fun b=>by split <;> simp,fun g=>by split <;> simp⟩)
 refine ⟨w.alloc (.cells rr e),L.add w.heap.size (fun o=>if o < rr.size then .imm else .none),h1,k1,k2,k3,by simp, ?_⟩
 have:=newLit (n':=hp.length) (c':=rr) h2 h3 len (by omega) .exact (w.alloc (.cells rr e)) (L.add w.heap.size (fun o=>if o < rr.size then .imm else .none)) (Nat.le_refl _) (alloc_alloc w rr e) (fun j v h=>h)
  (fun o ho=>by rw [Lay.add_eq,if_pos ho]) k2 hlen.symm
 rw [hlen] at this
 exact this
end
end Go.Proofs.YtgbheglnmdnkoaaGreatDoor.E
