/- An evaluator of the program's code over plain values, the relation between its values and the machine's, and the first operations' soundness. -/
import GoSem.Core.Program
import GoSem.Core.View
import GoSem.Op.String
import GoSem.Op.IntBits
import GoSem.Op.Equal
import Derived.Below
import Derived.Deep.MidRow
import Derived.Laws.AppendOwn
import Derived.OpenShut
set_option linter.unusedSimpArgs false
set_option linter.unusedVariables false
namespace Go.Proofs.YtkocimfdgdegfaaGreatDoor.E
open Go

inductive Own where
  | sealed
  | exact
  | fam (g st : Nat)

inductive AV where
  | bool (b : Bool)
  | int (k : IntKind) (n : Int)
  | str (s : List UInt8)
  | nilP
  | ptr (b off : Nat)
  | rop (v : AV)
  | nilS
  | lit (sz : Nat) (own : Own) (xs : List AV)
  | arr (sz b off len : Nat)
  | fn (f : Fn) (first captured : List AV)
  | nilF
  | iface (t : TypeId) (v : AV)
  | nilI
  | agg (cs : List AV)
  | tup (vs : List AV)
  | nilM

inductive TV where
  | junk
  | sk
  | v (x : AV)
  | bx (cs : List AV)
  | lp (t off : Nat)

inductive Blk where
  | dead
  | cells (cs : List AV)
  | fam (mark : Nat)

inductive TK where
  | bool | int (k : IntKind) | string | pointer (e : TypeId) | slice (e : TypeId) | array (n : Nat) (e : TypeId)
  | struct (fs : List (Nat × TypeId)) | map (k e : TypeId) | func | iface | other

structure TI where
  k : TK
  size : Nat
  bytes : Nat
  zero : List AV
  eq : Bool

structure FI where
  ntmps : Nat
  results : List ResultVar
  body : Code

inductive Kind where | pure | mut | keep | new

structure Cfg where
  ty : TypeId → Option TI
  code : FuncId → Option FI
  glob : Nat → Option AV
  ext : FuncId → Option (List AV → Option AV)
  isLoc : FuncId → Nat
  loop : FuncId → Nat → Option Nat
  after : FuncId → Nat → Option Nat
  pairs : FuncId → Nat → List (Nat × Nat)
  kind : FuncId → Kind
  arrF : FuncId → Bool
  arrB : FuncId → Bool := fun _ => false

def TK.agg : TK → Bool
  | .struct _ => true
  | .array _ _ => true
  | _ => false

def AV.cells : AV → List AV
  | .agg cs => cs
  | v => [v]

def mapO {α β : Type} (f : α → Option β) : List α → Option (List β)
  | [] => some []
  | x :: xs => match f x with
    | some y => match mapO f xs with
      | some ys => some (y :: ys)
      | none => none
    | none => none

def setAt {α : Type} : List α → Nat → α → List α
  | [], _, _ => []
  | _ :: xs, 0, y => y :: xs
  | x :: xs, n + 1, y => x :: setAt xs n y

def getAt {α : Type} : List α → Nat → Option α
  | [], _ => none
  | x :: _, 0 => some x
  | _ :: xs, n + 1 => getAt xs n

/-- overwrite the cells from 'off' on -/
def splice {α : Type} : List α → Nat → List α → List α
  | xs, 0, ys => ys ++ xs.drop ys.length
  | [], _, _ => []
  | x :: xs, n + 1, ys => x :: splice xs n ys

def bit (m t : Nat) : Bool := Nat.testBit m t

structure St where
  tmps : List TV
  hp : List Blk

inductive Fp where
  | z | hr | hw | fw | hb (b : Nat) | al (n : Nat) | lr (t : Nat) | lw (t : Nat) | bx (t : Nat)

def Fp.clash : Fp → Fp → Bool
  | .hw, .hw => true
  | .hw, .fw => true
  | .fw, .hw => true
  | .fw, .fw => true
  | .fw, .hr => true
  | .hw, .hr => true
  | .hr, .hw => true
  | .hb _, .hw => true
  | .hw, .hb _ => true
  | .fw, .hb _ => true
  | .al n, .hb b => decide (n ≤ b)
  | .al _, .hr => true
  | .al _, .hw => true
  | .hw, .al _ => true
  | .al _, .fw => true
  | .fw, .al _ => true
  | .al _, .al _ => true
  | .lw t, .lw u => t == u
  | .lw t, .lr u => t == u
  | .lr t, .lw u => t == u
  | .bx t, .lw u => t == u
  | .bx t, .lr u => t == u
  | .bx t, .bx u => t == u
  | .lw t, .bx u => t == u
  | .lr t, .bx u => t == u
  | _, _ => false

inductive Ex where | normal | exit (id : Nat) | ret

/-- is it the value of one cell? -/
def AV.one : AV → Bool
  | .agg _ => false
  | .tup _ => false
  | _ => true
def AV.noTup : AV → Bool
  | .tup _ => false
  | _ => true
def allOne : List AV → Bool
  | [] => true
  | x :: xs => x.one && allOne xs

/-! values of constants -/
def ofConst : Nat → Value → Option AV
  | 0, _ => none
  | d + 1, v => match v with
    | .bool b => some (.bool b)
    | .int k n => some (.int k n)
    | .string s => some (.str s.data.toList)
    | .pointer none => some .nilP
    | .slice none 0 0 => some .nilS
    | .nilFunc => some .nilF
    | .nilIface => some .nilI
    | .map none => some .nilM
    | .agg cs => match mapO (ofConst d) cs.toList with
      | some r => bif allOne r then some (.agg r) else none
      | none => none
    | .tuple cs => (mapO (ofConst d) cs.toList).map .tup
    | _ => none

def opnd (C : Cfg) (tmps : List TV) : Operand → Option TV
  | .tmp t => match getAt tmps t with
    | some (.bx _) => some (.lp t 0)
    | some x => some x
    | none => some .sk
  | .const v => (ofConst 8 v).map .v
  | .global g => (C.glob g).map fun x => .v (.rop x)
  | .func f => some (.v (.fn (.func f) [] []))

/-- value operands -/
def opv (C : Cfg) (tmps : List TV) (x : Operand) : Option AV :=
  match opnd C tmps x with
  | some (.v a) => some a
  | _ => none

/-- a slot that holds a box of its own is not written over -/
def put (tmps : List TV) (dst : Option Tmp) (x : TV) : Option (List TV) :=
  match dst with
  | some d => match getAt tmps d with
    | some (.bx _) => none
    | some _ => some (setAt tmps d x)
    | none => none
  | none => some tmps

/-! reads -/
def part (ti : TI) (cs : List AV) (off : Nat) : Option AV :=
  bif ti.k.agg then
    let c := (cs.drop off).take ti.size
    bif c.length == ti.size then some (.agg c) else none
  else getAt cs off

def asVal (ti : TI) (v : AV) : Option AV :=
  bif ti.k.agg then
    match v with
    | .agg cs => bif cs.length == ti.size then some v else none
    | _ => none
  else
    match v with
    | .agg _ => none
    | .tup _ => none
    | v => some v

def blkCells (hp : List Blk) (b : Nat) : Option (List AV) :=
  match getAt hp b with
  | some (.cells cs) => some cs
  | _ => none

def slotCells (tmps : List TV) (t : Nat) : Option (List AV) :=
  match getAt tmps t with
  | some (.bx cs) => some cs
  | _ => none

/-- the elements of size 'sz' that lie in cells -/
def chunk (sz : Nat) : Nat → List AV → Option (List AV)
  | 0, _ => some []
  | n + 1, cs =>
    match (bif sz == 1 then cs.head? else (let c := cs.take sz; bif c.length == sz then some (.agg c) else none)) with
    | some x => match chunk sz n (cs.drop sz) with
      | some xs => some (x :: xs)
      | none => none
    | none => none

/-- elements of a slice -/
def elems (hp : List Blk) (sz : Nat) : AV → Option (List AV)
  | .nilS => some []
  | .lit s _ xs => bif s == sz then some xs else none
  | .arr s b off len => bif s == sz then (match blkCells hp b with
      | some cs => chunk sz len (cs.drop off)
      | none => none) else none
  | .str s => bif sz == 1 then some (s.map fun c => .int .u8 c.toNat) else none
  | _ => none

def slcLen : AV → Option Nat
  | .nilS => some 0
  | .lit _ _ xs => some xs.length
  | .arr _ _ _ len => some len
  | _ => none
def strLen : AV → Option Nat
  | .str s => some s.length
  | _ => none

def lenE (C : Cfg) (t : TypeId) (x : AV) : Option Nat :=
  match C.ty t with
  | some ⟨.array n _, _, _, _, _⟩ => some n
  | some ⟨.string, _, _, _, _⟩ => strLen x
  | some ⟨.slice _, _, _, _, _⟩ => slcLen x
  | _ => none

def allSize (sz : Nat) : List AV → Bool
  | [] => true
  | x :: xs => (x.cells.length == sz) && allSize sz xs

def flat : List AV → List AV
  | [] => []
  | x :: xs => x.cells ++ flat xs

/-! arithmetic -/
def arith (op : BinOp) (k : IntKind) (a b : Int) : Option AV :=
  match op with
  | .add => some (.int k (k.wrap (a + b)))
  | .sub => some (.int k (k.wrap (a - b)))
  | .mul => some (.int k (k.wrap (a * b)))
  | .quo => bif b == 0 then none else some (.int k (k.wrap (a.tdiv b)))
  | .rem => bif b == 0 then none else some (.int k (a.tmod b))
  | .and => some (.int k (k.wrap (BitVec.ofInt k.bits a &&& BitVec.ofInt k.bits b).toNat))
  | .or => some (.int k (k.wrap (BitVec.ofInt k.bits a ||| BitVec.ofInt k.bits b).toNat))
  | .xor => some (.int k (k.wrap (BitVec.ofInt k.bits a ^^^ BitVec.ofInt k.bits b).toNat))
  | .andNot => some (.int k (k.wrap (BitVec.ofInt k.bits a &&& ~~~BitVec.ofInt k.bits b).toNat))
  | .eql => some (.bool (a == b))
  | .neq => some (.bool (a != b))
  | .lss => some (.bool (decide (a < b)))
  | .leq => some (.bool (decide (a ≤ b)))
  | .gtr => some (.bool (decide (a > b)))
  | .geq => some (.bool (decide (a ≥ b)))
  | _ => none

def shiftE (op : BinOp) (k : IntKind) (a b : Int) : Option AV :=
  bif decide (b < 0) then none else
    let n := Nat.min b.toNat k.bits
    match op with
    | .shl => some (.int k (k.wrap (a * 2 ^ n)))
    | .shr => some (.int k (a.fdiv (2 ^ n)))
    | _ => none

def strOp (op : BinOp) (x y : List UInt8) : Option AV :=
  match op with
  | .add => bif decide (x.length + y.length ≤ 9223372036854775807) then some (.str (x ++ y)) else none
  | .eql => some (.bool (x == y))
  | .neq => some (.bool (!(x == y)))
  | .lss => some (.bool (Op.bytesLess x y))
  | .leq => some (.bool (Op.bytesLess x y || x == y))
  | .gtr => some (.bool (!(Op.bytesLess x y || x == y)))
  | .geq => some (.bool (!Op.bytesLess x y))
  | _ => none

/-- equality at a type -/
def eqFields (C : Cfg) (eq : TypeId → AV → AV → Option Bool) : List (Nat × TypeId) → List AV → List AV → Option Bool
  | [], _, _ => some true
  | (off, ft) :: fs, xs, ys => match C.ty ft with
    | none => none
    | some fi => match part fi xs off, part fi ys off with
      | some a, some b => match eq ft a b with
        | some true => eqFields C eq fs xs ys
        | some false => some false
        | none => none
      | _, _ => none
def eqElems (ei : TI) (eq : AV → AV → Option Bool) : Nat → List AV → List AV → Option Bool
  | 0, _, _ => some true
  | n + 1, xs, ys => match part ei xs 0, part ei ys 0 with
    | some a, some b => match eq a b with
      | some true => eqElems ei eq n (xs.drop ei.size) (ys.drop ei.size)
      | some false => some false
      | none => none
    | _, _ => none
def eqAt (C : Cfg) : Nat → TypeId → AV → AV → Option Bool
  | 0, _, _, _ => none
  | d + 1, t, x, y =>
    match C.ty t with
    | none => none
    | some ti => match ti.k, x, y with
      | .bool, .bool a, .bool b => some (a == b)
      | .int _, .int k a, .int k' b => bif decide (k = k') then some (a == b) else none
      | .string, .str a, .str b => some (a == b)
      | .pointer _, .nilP, .nilP => some true
      | .pointer _, .nilP, .ptr _ _ => some false
      | .pointer _, .ptr _ _, .nilP => some false
      | .pointer _, .nilP, .rop _ => some false
      | .pointer _, .rop _, .nilP => some false
      | .slice _, .nilS, .nilS => some true
      | .slice _, .nilS, .lit _ _ _ => some false
      | .slice _, .nilS, .arr _ _ _ _ => some false
      | .slice _, .lit _ _ _, .nilS => some false
      | .slice _, .arr _ _ _ _, .nilS => some false
      | .func, .nilF, .nilF => some true
      | .func, .nilF, .fn _ _ _ => some false
      | .func, .fn _ _ _, .nilF => some false
      | .iface, .nilI, .nilI => some true
      | .iface, .nilI, .iface _ _ => some false
      | .iface, .iface _ _, .nilI => some false
      | .struct fs, .agg xs, .agg ys => bif ti.eq then eqFields C (eqAt C d) fs xs ys else none
      | .array n e, .agg xs, .agg ys => bif !ti.eq then none else (match C.ty e with
          | some ei => eqElems ei (eqAt C d e) n xs ys
          | none => none)
      | .iface, .iface a u, .iface b v => bif !Nat.beq a b then some false else (match C.ty a with
          | some ai => bif ai.eq then eqAt C d a u v else none
          | none => none)
      | _, _, _ => none

/-! the types of a program -/
def tkOf : TypeDesc → TK
  | .bool => .bool
  | .int k => .int k
  | .string => .string
  | .pointer e => .pointer e
  | .slice e => .slice e
  | .array n e => .array n e
  | .struct fs => .struct (fs.toList.map fun f => (f.offset, f.type))
  | .map k e => .map k e
  | .func _ _ _ => .func
  | .interface _ => .iface
  | _ => .other

/-- may values of a type be held against one another by their parts alone? -/
def eqPlain (P : Program) (t : TypeId) : TypeDesc → Bool
  | .struct fs => !P.stoodInHeld t && !P.eqGuardType P.depth t && fs.toList.all fun f => !(f.name == "_")
  | .array _ _ => !P.eqGuardType P.depth t
  | _ => true

/-- are the sizes of a struct's fields, of an array's elements known? -/
def partsKnown (P : Program) : TypeDesc → Bool
  | .struct fs => fs.toList.all fun f => (P.info? f.type).isSome
  | .array _ e => (P.info? e).isSome
  | .slice e => (P.info? e).isSome
  | _ => true

def tiOf (P : Program) (t : TypeId) : Option TI :=
  match P.info? t, P.underlying t with
  | some i, some d => match i.zero with
    | some z => match mapO (ofConst 8) z.cells.toList with
      | some zs => bif z.cells.size == i.size && allOne zs && partsKnown P d then some ⟨tkOf d, i.size, i.bytes, zs, eqPlain P t d && i.comparable⟩ else none
      | none => none
    | none => none
  | _, _ => none

/-! operations -/
abbrev CallF := FuncId → List AV → List Blk → Option (AV × List Blk)

/-- what an operation comes to: its value (sk: none), the frame's slots, the heap, what it touched -/
structure Res where
  val : TV
  tmps : List TV
  hp : List Blk
  fp : Fp

def pureR (st : St) (x : TV) : Option Res := some ⟨x, st.tmps, st.hp, .z⟩
def ofO (st : St) (x : Option AV) : Option Res := x.map fun a => ⟨.v a, st.tmps, st.hp, .z⟩

def loadAt (C : Cfg) (st : St) (t : TypeId) (a : TV) : Option Res :=
  match C.ty t with
  | none => none
  | some ti => match a with
    | .v (.rop v) => ofO st (asVal ti v)
    | .v (.ptr b off) => match blkCells st.hp b with
      | some cs => (part ti cs off).map fun x => ⟨.v x, st.tmps, st.hp, .hb b⟩
      | none => none
    | .lp s off => match slotCells st.tmps s with
      | some cs => (part ti cs off).map fun x => ⟨.v x, st.tmps, st.hp, .lr s⟩
      | none => none
    | _ => none

def storeAt (C : Cfg) (fl : Nat) (st : St) (t : TypeId) (a : TV) (x : AV) : Option Res :=
  match C.ty t with
  | none => none
  | some ti => bif !(x.cells.length == ti.size) || !x.noTup then none else match a with
    | .v (.ptr b off) => match blkCells st.hp b with
      | some cs => bif decide (off + ti.size ≤ cs.length) && decide (fl ≤ b) then
          some ⟨.sk, st.tmps, setAt st.hp b (.cells (splice cs off x.cells)), .hw⟩ else none
      | none => none
    | .lp s off => match slotCells st.tmps s with
      | some cs => bif decide (off + ti.size ≤ cs.length) then
          some ⟨.sk, setAt st.tmps s (.bx (splice cs off x.cells)), st.hp, .lw s⟩ else none
      | none => none
    | _ => none

def field (C : Cfg) (t : TypeId) (i : Nat) : Option (Nat × TI) :=
  match C.ty t with
  | some ⟨.struct fs, _, _, _, _⟩ => match getAt fs i with
    | some (off, ft) => (C.ty ft).map fun ti => (off, ti)
    | none => none
  | _ => none

def fieldAddr (C : Cfg) (t : TypeId) (i : Nat) (a : TV) : Option TV :=
  match field C t i with
  | none => none
  | some (off, ti) => bif ti.size == 0 then none else match a with
    | .lp s o => some (.lp s (o + off))
    | .v (.ptr b o) => some (.v (.ptr b (o + off)))
    | .v (.rop (.agg cs)) => (part ti cs off).map fun x => .v (.rop x)
    | _ => none

def indexAddr (C : Cfg) (t : TypeId) (a : TV) (i : Int) : Option TV :=
  bif decide (i < 0) then none else
  match C.ty t with
  | some ⟨.array n e, _, _, _, _⟩ => bif !decide (i < n) then none else match C.ty e with
    | none => none
    | some ei => match a with
      | .lp s o => some (.lp s (o + i.toNat * ei.size))
      | .v (.ptr b o) => some (.v (.ptr b (o + i.toNat * ei.size)))
      | .v (.rop (.agg cs)) => (part ei cs (i.toNat * ei.size)).map fun x => .v (.rop x)
      | _ => none
  | some ⟨.slice e, _, _, _, _⟩ => match C.ty e with
    | none => none
    | some ei => match a with
      | .v (.lit sz _ xs) => bif sz == ei.size then (getAt xs i.toNat).map fun x => .v (.rop x) else none
      | .v (.arr sz b off len) => bif sz == ei.size && decide (i < len) then some (.v (.ptr b (off + i.toNat * sz))) else none
      | _ => none
  | _ => none

def indexE (C : Cfg) (t : TypeId) (a : AV) (i : Int) : Option AV :=
  bif decide (i < 0) then none else
  match C.ty t, a with
  | some ⟨.array n e, _, _, _, _⟩, .agg cs => bif !decide (i < n) then none else match C.ty e with
    | none => none
    | some ei => part ei cs (i.toNat * ei.size)
  | some ⟨.string, _, _, _, _⟩, .str s => (getAt s i.toNat).map fun c => .int .u8 c.toNat
  | _, _ => none

/-- the bounds of a slice expression: low, high, max (if told) -/
def bnd (x : Option AV) (d : Nat) : Option Nat :=
  match x with
  | none => some d
  | some (.int _ n) => bif decide (n < 0) then none else some n.toNat
  | _ => none

def sliceE (C : Cfg) (st : St) (t : TypeId) (a : TV) (lo hi mx : Option AV) : Option AV :=
  match C.ty t with
  | some ⟨.string, _, _, _, _⟩ => match a, mx with
    | .v (.str s), none => match bnd lo 0, bnd hi s.length with
      | some l, some h => bif decide (l ≤ h) && decide (h ≤ s.length) then some (.str ((s.drop l).take (h - l))) else none
      | _, _ => none
    | _, _ => none
  | some ⟨.slice e, _, _, _, _⟩ => match C.ty e with
    | none => none
    | some ei => match a with
      | .v .nilS => match bnd lo 0, bnd hi 0, bnd mx 0 with
        | some 0, some 0, some 0 => bif mx.isSome && !hi.isSome then none else some .nilS
        | _, _, _ => none
      | .v (.lit sz own xs) => match bnd lo 0, bnd hi xs.length with
        | some l, some h => bif !(decide (l ≤ h) && decide (h ≤ xs.length) && sz == ei.size) then none else
          let ys := (xs.drop l).take (h - l)
          match mx with
          | some m => match hi.isSome, bnd (some m) 0 with
            | true, some m => bif !(decide (h ≤ m) && decide (m ≤ xs.length)) then none else
              some (.lit sz (bif m == h then .exact else .sealed) ys)
            | _, _ => none
          | none => match own with
            | .exact => some (.lit sz (bif h == xs.length then .exact else .sealed) ys)
            | .fam g s => some (.lit sz (bif h == xs.length && !(l == h) then .fam g (s + l) else .sealed) ys)
            | .sealed => some (.lit sz .sealed ys)
        | _, _ => none
      | .v (.arr sz b off len) => match bnd lo 0, bnd hi len, blkCells st.hp b with
        | some l, some h, some _ => bif !(decide (l ≤ h) && decide (h ≤ len) && sz == ei.size) then none else
          match mx with
          | some m => match hi.isSome, bnd (some m) 0 with
            | true, some m => bif !(decide (h ≤ m) && decide (m ≤ len)) then none else
              bif m == h && l == h then some (.lit sz .exact []) else none
            | _, _ => none
          | none => bif l == h && !(l == 0) then some (.lit sz .sealed []) else some (.arr sz b (off + l * sz) (h - l))
        | _, _, _ => none
      | _ => none
  | some ⟨.array n e, _, _, _, _⟩ => match C.ty e with
    | none => none
    | some ei => match a with
      | .v (.ptr b off) => match bnd lo 0, bnd hi n, mx, blkCells st.hp b with
        | some l, some h, none, some cs => bif !(decide (l < h) && decide (h ≤ n) && decide (off + n * ei.size = cs.length)) then none else some (.arr ei.size b (off + l * ei.size) (h - l))
        | _, _, _, _ => none
      | _ => none
  | _ => none

def fill (ti : TI) (C : Cfg) (cs : List AV) : List (Nat × AV) → Option (List AV)
  | [] => some cs
  | (i, x) :: ps =>
    match (match ti.k with
      | .struct fs => (match getAt fs i with
        | some (off, ft) => (C.ty ft).map fun fi => (off, fi.size)
        | none => none)
      | .array _ e => (C.ty e).map fun ei => (i * ei.size, ei.size)
      | _ => none) with
    | some (off, sz) => bif x.cells.length == sz && x.noTup && decide (off + sz ≤ cs.length) then fill ti C (splice cs off x.cells) ps else none
    | none => none

def valParts (C : Cfg) (tmps : List TV) : List (Nat × Operand) → Option (List (Nat × AV))
  | [] => some []
  | (i, x) :: ps => match opv C tmps x with
    | some a => match valParts C tmps ps with
      | some r => some ((i, a) :: r)
      | none => none
    | none => none

def setParts (sz : Nat) (xs : List AV) : List (Nat × AV) → Option (List AV)
  | [] => some xs
  | (i, x) :: ps => bif x.cells.length == sz && x.noTup && decide (i < xs.length) then setParts sz (setAt xs i x) ps else none

/-- a new mutable block -/
def newBlk (st : St) (cs : List AV) (mk : Nat → AV) : Option Res :=
  some ⟨.v (mk st.hp.length), st.tmps, st.hp ++ [.cells cs], .hw⟩

def valOf (ti : TI) (cs : List AV) : Option AV := part ti cs 0

def zeros (ti : TI) : Nat → List AV
  | 0 => []
  | n + 1 => ti.zero ++ zeros ti n

def isSlc : AV → Bool
  | .nilS => true
  | .lit _ _ _ => true
  | .arr _ _ _ _ => true
  | _ => false

def isArr : AV → Bool
  | .arr _ _ _ _ => true
  | _ => false

/-- what is appended: a slice's elements, a text's bytes, or so many zero values -/
def appElems (C : Cfg) (hp : List Blk) (ei : TI) (t2 : TypeId) (x : AV) : Option (List AV) :=
  match C.ty t2 with
  | some ⟨.int _, _, _, _, _⟩ => match x, valOf ei ei.zero with
    | .int _ n, some z => bif decide (0 ≤ n) && decide (n * ei.bytes ≤ 35184372088832) && decide (n ≤ 35184372088832) && z.cells.length == ei.size then some (List.replicate n.toNat z) else none
    | _, _ => none
  | some ⟨.slice _, _, _, _, _⟩ => elems hp ei.size x
  | some ⟨.string, _, _, _, _⟩ => elems hp ei.size x
  | _ => none

def appendE (C : Cfg) (fl : Nat) (arrM : Bool) (st : St) (t t2 : TypeId) (s x : AV) : Option Res :=
  match C.ty t with
  | some ⟨.slice e, _, _, _, _⟩ => match C.ty e with
    | none => none
    | some ei => match appElems C st.hp ei t2 x, elems st.hp ei.size s with
      | some xs, some ys =>
        let k := xs.length
        let n := ys.length
        let fp : Fp := bif isArr s || isArr x then .hw else .fw
        bif !decide ((n + k) * ei.bytes ≤ 35184372088832) || ei.size == 0 || ei.bytes == 0 || !isSlc s then none else
        bif k == 0 then some ⟨.v s, st.tmps, st.hp, fp⟩ else
        let fresh : Option Res :=
          bif arrM then some ⟨.v (.arr ei.size st.hp.length 0 (n + k)), st.tmps, st.hp ++ [.cells (flat (ys ++ xs))], fp⟩
          else some ⟨.v (.lit ei.size (.fam st.hp.length 0) (ys ++ xs)), st.tmps, st.hp ++ [.fam (n + k)], fp⟩
        match s with
        | .nilS => fresh
        | .lit _ .exact _ => fresh
        | .lit _ (.fam g st0) _ => match getAt st.hp g with
          | some (.fam mark) => bif (st0 + n == mark) && decide (fl ≤ g) then
              some ⟨.v (.lit ei.size (.fam g st0) (ys ++ xs)), st.tmps, setAt st.hp g (.fam (mark + k)), fp⟩ else none
          | _ => none
        | .arr _ b off _ => match blkCells st.hp b with
          | some cs => bif !decide (fl ≤ b) then none else
            bif decide (off + (n + k) * ei.size ≤ cs.length) then
              some ⟨.v (.arr ei.size b off (n + k)), st.tmps, setAt st.hp b (.cells (splice cs (off + n * ei.size) (flat xs))), fp⟩
            else
              some ⟨.v (.arr ei.size st.hp.length 0 (n + k)), st.tmps, setAt st.hp b .dead ++ [.cells (flat (ys ++ xs))], fp⟩
          | none => none
        | _ => none
      | _, _ => none
  | _ => none

def copyE (C : Cfg) (fl : Nat) (st : St) (t : TypeId) (d x : AV) : Option Res :=
  match C.ty t with
  | some ⟨.slice e, _, _, _, _⟩ => match C.ty e with
    | none => none
    | some ei => match elems st.hp ei.size x with
      | some xs => match d with
        | .arr sz b off len => match blkCells st.hp b with
          | some cs =>
            bif decide (fl ≤ b) && sz == ei.size && !(ei.size == 0) && decide (xs.length ≤ len) && decide (off + xs.length * sz ≤ cs.length) then
              some ⟨.v (.int .i64 xs.length), st.tmps, setAt st.hp b (.cells (splice cs off (flat xs))), .hw⟩ else none
          | none => none
        | _ => none
      | none => none
  | _ => none

def clearE (C : Cfg) (fl : Nat) (st : St) (t : TypeId) (d : AV) : Option Res :=
  match C.ty t with
  | some ⟨.slice e, _, _, _, _⟩ => match C.ty e with
    | none => none
    | some ei => match d with
      | .nilS => some ⟨.v (.tup []), st.tmps, st.hp, .z⟩
      | .lit _ _ [] => some ⟨.v (.tup []), st.tmps, st.hp, .z⟩
      | .arr sz b off len => match blkCells st.hp b with
        | some cs => bif decide (fl ≤ b) && sz == ei.size && !(ei.size == 0) && decide (off + len * sz ≤ cs.length) then
            some ⟨.v (.tup []), st.tmps, setAt st.hp b (.cells (splice cs off (zeros ei len))), .hw⟩ else none
        | none => none
      | _ => none
  | _ => none

def minE (isMax : Bool) : List AV → Option AV
  | [.int k a, .int k' b] => bif decide (k = k') then some (.int k (bif isMax then (bif decide (a < b) then b else a) else (bif decide (b < a) then b else a))) else none
  | _ => none

def capE (C : Cfg) (t : TypeId) (x : AV) : Option Nat :=
  match C.ty t with
  | some ⟨.slice _, _, _, _, _⟩ => match x with
    | .nilS => some 0
    | .lit _ .exact xs => some xs.length
    | _ => none
  | _ => none

def builtinE (C : Cfg) (fl : Nat) (arrM : Bool) (st : St) (b : Builtin) (ts : List TypeId) (args : List AV) : Option Res :=
  match b, ts, args with
  | .len, t :: _, [x] => ofO st ((lenE C t x).map fun (k : Nat) => .int .i64 (k : Int))
  | .cap, t :: _, [x] => ofO st ((capE C t x).map fun (k : Nat) => .int .i64 (k : Int))
  | .append, t :: t2 :: _, [s, x] => appendE C fl arrM st t t2 s x
  | .copy, t :: _, [d, x] => copyE C fl st t d x
  | .clear, t :: _, [d] => clearE C fl st t d
  | .min, _, xs => ofO st (minE false xs)
  | .max, _, xs => ofO st (minE true xs)
  | _, _, _ => none

def bytesOf : List AV → Option (List UInt8)
  | [] => some []
  | .int .u8 n :: xs => match bytesOf xs with
    | some r => some (UInt8.ofNat n.toNat :: r)
    | none => none
  | _ => none

def convE (C : Cfg) (arrM : Bool) (st : St) (src dst : TypeId) (x : AV) : Option Res :=
  match C.ty src, C.ty dst, x with
  | some _, some ⟨.int k, _, _, _, _⟩, .int _ n => ofO st (some (.int k (k.wrap n)))
  | some _, some ⟨.string, _, _, _, _⟩, .str s => ofO st (some (.str s))
  | some _, some ⟨.slice e, _, _, _, _⟩, .str s => match C.ty e with
    | some ⟨.int .u8, _, _, _, _⟩ =>
      bif arrM then newBlk st (s.map fun c => .int .u8 c.toNat) (fun b => .arr 1 b 0 s.length)
      else ofO st (some (.lit 1 .sealed (s.map fun c => .int .u8 c.toNat)))
    | _ => none
  | some ⟨.slice e, _, _, _, _⟩, some ⟨.string, _, _, _, _⟩, x => bif !isSlc x then none else match C.ty e with
    | some ⟨.int .u8, _, _, _, _⟩ => match elems st.hp 1 x with
      | some xs => (bytesOf xs).map fun s => ⟨.v (.str s), st.tmps, st.hp, .hr⟩
      | none => none
    | _ => none
  | _, _, _ => none

def isNilI : AV → Bool
  | .nilI => true
  | _ => false
def binE (C : Cfg) (op : BinOp) (t : TypeId) (cst : Bool) (x y : AV) : Option AV :=
  match x, y with
  | .int k a, .int k' b => (match op with
    | .shl => shiftE .shl k a b
    | .shr => shiftE .shr k a b
    | op => bif decide (k = k') then arith op k a b else none)
  | .str a, .str b => strOp op a b
  | x, y => (match op with
    | .eql => bif cst || !(isNilI x && isNilI y) then (eqAt C 32 t x y).map .bool else none
    | .neq => bif cst || !(isNilI x && isNilI y) then (eqAt C 32 t x y).map fun b => .bool !b else none
    | _ => none)

def unE (op : UnOp) (x : AV) : Option AV :=
  match op, x with
  | .neg, .int k n => some (.int k (k.wrap (0 - n)))
  | .xor, .int k n => arith .xor k (bif k.signed then -1 else k.max) n
  | .not, .bool b => some (.bool (!b))
  | _, _ => none

def optV (C : Cfg) (tmps : List TV) : Option Operand → Option (Option AV)
  | none => some none
  | some x => (opv C tmps x).map some

/-- does a call of it leave all blocks of before as they are? -/
def keepsB (C : Cfg) (f : FuncId) : Bool := (C.ext f).isSome || match C.kind f with
  | .pure => true
  | .new => true
  | _ => false
def callFp (C : Cfg) (f : FuncId) (n : Nat) : Fp := bif keepsB C f then .al n else .hw

def callE (C : Cfg) (call : CallF) (st : St) (f : FuncId) (args : List AV) : Option Res :=
  match call f args st.hp with
  | some (v, hp) => some ⟨.v v, st.tmps, hp, callFp C f st.hp.length⟩
  | none => none

def slFp : TV → Fp
  | .v (.arr _ _ _ _) => .hr
  | .v (.ptr _ _) => .hr
  | _ => .z

def isCst : Operand → Bool
  | .const _ => true
  | _ => false

def evOp (C : Cfg) (call : CallF) (fl : Nat) (me : FuncId) (o : Oper) (st : St) : Option Res :=
  match o.op with
  | .move x => (opnd C st.tmps x).bind (pureR st)
  | .assign x => (opnd C st.tmps x).bind (pureR st)
  | .pick c a b => match opv C st.tmps c with
    | some (.bool t) => (opnd C st.tmps (bif t then a else b)).bind (pureR st)
    | _ => none
  | .alloc e => match C.ty e with
    | none => none
    | some ti => bif ti.size == 0 then none else match o.dst with
      | none => none
      | some d => bif bit (C.isLoc me) d then some ⟨.bx ti.zero, st.tmps, st.hp, .bx d⟩ else newBlk st ti.zero (fun b => .ptr b 0)
  | .box _ x => match opv C st.tmps x, o.dst with
    | some a, some d => bif a.cells.length == 0 || !a.noTup then none else
      bif bit (C.isLoc me) d then some ⟨.bx a.cells, st.tmps, st.hp, .bx d⟩ else newBlk st a.cells (fun b => .ptr b 0)
    | _, _ => none
  | .build t ps => match C.ty t, valParts C st.tmps ps.toList with
    | some ti, some vs => bif ti.k.agg then ofO st ((fill ti C ti.zero vs).map .agg) else none
    | _, _ => none
  | .buildSlice t len ps => match C.ty t, valParts C st.tmps ps.toList with
    | some ⟨.slice e, _, _, _, _⟩, some vs => match C.ty e with
      | none => none
      | some ei => match valOf ei ei.zero with
        | none => none
        | some z => match setParts ei.size (List.replicate len z) vs with
          | none => none
          | some xs => bif ei.size == 0 || decide (16777216 < len * ei.size) || !(z.cells.length == ei.size) || !z.noTup then none else
            bif C.arrB me then newBlk st (flat xs) (fun b => .arr ei.size b 0 len) else ofO st (some (.lit ei.size .exact xs))
    | _, _ => none
  | .load t a => (opnd C st.tmps a).bind (loadAt C st t)
  | .store t a x => match opnd C st.tmps a, opv C st.tmps x with
    | some a, some x => storeAt C fl st t a x
    | _, _ => none
  | .nilCheck x => match opnd C st.tmps x with
    | some (.lp s o) => pureR st (.lp s o)
    | some (.v (.ptr b o)) => pureR st (.v (.ptr b o))
    | some (.v (.rop v)) => pureR st (.v (.rop v))
    | some (.v (.fn (.func f) a b)) => pureR st (.v (.fn (.func f) a b))
    | _ => none
  | .binOp op t x y _ => match opv C st.tmps x, opv C st.tmps y with
    | some a, some b => ofO st (binE C op t (isCst x || isCst y) a b)
    | _, _ => none
  | .unOp op _ x => match opv C st.tmps x with
    | some a => ofO st (unE op a)
    | none => none
  | .convert s d x => match opv C st.tmps x with
    | some a => convE C (C.arrF me) st s d a
    | none => none
  | .makeInterface t x => match C.ty t, opv C st.tmps x with
    | some ti, some a => (match ti.k with
      | .iface => none
      | _ => ofO st (some (.iface t a)))
    | _, _ => none
  | .makeFunc f first captured => match mapO (opv C st.tmps) first.toList, mapO (opv C st.tmps) captured.toList with
    | some a, some b => ofO st (some (.fn f a b))
    | _, _ => none
  | .makeSlice t l c => match C.ty t, opv C st.tmps l, opv C st.tmps c with
    | some ⟨.slice e, _, _, _, _⟩, some (.int _ n), some (.int _ m) => match C.ty e with
      | none => none
      | some ei => bif decide (0 ≤ n) && decide (n ≤ m) && decide (m * ei.bytes ≤ 35184372088832) && !(ei.size == 0) && !(ei.bytes == 0) then
          newBlk st (zeros ei m.toNat) (fun b => .arr ei.size b 0 n.toNat) else none
    | _, _, _ => none
  | .slice t x lo hi mx => match opnd C st.tmps x, optV C st.tmps lo, optV C st.tmps hi, optV C st.tmps mx with
    | some a, some l, some h, some m => (sliceE C st t a l h m).map fun y => ⟨.v y, st.tmps, st.hp, slFp a⟩
    | _, _, _, _ => none
  | .fieldAddr t x f => match opnd C st.tmps x with
    | some a => (fieldAddr C t f a).bind (pureR st)
    | none => none
  | .field t x f => match opv C st.tmps x with
    | some (.agg cs) => match field C t f with
      | some (off, ti) => ofO st (part ti cs off)
      | none => none
    | _ => none
  | .indexAddr t x i => match opnd C st.tmps x, opv C st.tmps i with
    | some a, some (.int _ n) => (indexAddr C t a n).bind (pureR st)
    | _, _ => none
  | .index t x i => match opv C st.tmps x, opv C st.tmps i with
    | some a, some (.int _ n) => ofO st (indexE C t a n)
    | _, _ => none
  | .extract x i => match opv C st.tmps x with
    | some (.tup vs) => ofO st (getAt vs i)
    | _ => none
  | .call c => match mapO (opv C st.tmps) c.args.toList with
    | none => none
    | some args => match c.callee with
      | .builtin b => builtinE C fl (C.arrF me) st b c.argTypes.toList args
      | .value f => match opv C st.tmps f with
        | some (.fn (.func g) first captured) => callE C call st g (first ++ args ++ captured)
        | _ => none
      | .invoke _ _ => none
  | _ => none

/-- is the operation carried out? -/
def wantedE (ops : List Oper) (tmps : List TV) (o : Oper) : Option Bool :=
  match o.guard with
  | none => some true
  | some (j, want) => match getAt ops j with
    | none => some false
    | some g => match g.dst with
      | none => some false
      | some d => match getAt tmps d with
        | some (.v (.bool b)) => some (b == want)
        | some (.v _) => some false
        | some .sk => some false
        | _ => none

/-- one operation: what it touched, and what comes of it -/
def evOne (C : Cfg) (call : CallF) (fl : Nat) (me : FuncId) (ops : List Oper) (o : Oper) (st : St) : Option (St × Fp) :=
  match wantedE ops st.tmps o with
  | some true => match evOp C call fl me o st with
    | some r => match put r.tmps o.dst r.val with
      | some t => some (⟨t, r.hp⟩, r.fp)
      | none => none
    | none => none
  | some false => match put st.tmps o.dst .sk with
    | some t => some (⟨t, st.hp⟩, .z)
    | none => none
  | none => none

def runOps (C : Cfg) (call : CallF) (fl : Nat) (me : FuncId) (ops : List Oper) : List Oper → St → Option (St × List Fp)
  | [], st => some (st, [])
  | o :: rest, st => match evOne C call fl me ops o st with
    | some (st1, f) => match runOps C call fl me ops rest st1 with
      | some (st', fps) => some (st', f :: fps)
      | none => none
    | none => none

def noClash (fps : List Fp) : List (Nat × Nat) → Bool
  | [] => true
  | (i, j) :: ps => (match getAt fps i, getAt fps j with
    | some a, some b => !(a.clash b)
    | _, _ => false) && noClash fps ps

/-- at a loop's head: the slots that the mask keeps; no address within the frame is kept -/
def cleanT : List TV → Nat → List TV
  | [], _ => []
  | x :: xs, m => (bif m % 2 == 1 then (match x with | .lp _ _ => .junk | x => x) else .junk) :: cleanT xs (m / 2)

def firstReg : Code → Nat
  | .region id _ _ => id
  | .seq a _ => firstReg a
  | .cond _ a _ => firstReg a
  | .block _ a => firstReg a
  | .loop a => firstReg a
  | _ => 1000000

def evLoop (body : St → Option (Ex × St)) (clean : St → St) : Nat → St → Option (Ex × St)
  | 0, _ => none
  | k + 1, st => match body (clean st) with
    | some (.normal, st') => evLoop body clean k st'
    | r => r

def cleanSt (m : Option Nat) (st : St) : St :=
  match m with
  | none => st
  | some m => ⟨cleanT st.tmps m, st.hp⟩

def run (C : Cfg) (call : CallF) (fl : Nat) (me : FuncId) (k : Nat) : Code → St → Option (Ex × St)
  | .skip, st => some (.normal, st)
  | .region id ops draw, st => match runOps C call fl me ops.toList ops.toList st with
    | some (st', fps) => bif !draw || noClash fps (C.pairs me id) then some (.normal, st') else none
    | none => none
  | .seq a b, st => match run C call fl me k a st with
    | some (.normal, st') => run C call fl me k b st'
    | r => r
  | .cond c a b, st => match opv C st.tmps c with
    | some (.bool t) => bif t then run C call fl me k a st else run C call fl me k b st
    | _ => none
  | .block id b, st => match run C call fl me k b st with
    | some (.exit j, st') => bif j == id then some (.normal, st') else some (.exit j, st')
    | r => r
  | .loop b, st => match evLoop (run C call fl me k b) (cleanSt (C.loop me (firstReg b))) k st with
    | some (e, st') => some (e, cleanSt (C.after me (firstReg b)) st')
    | none => none
  | .exit id, st => some (.exit id, st)
  | .ret, st => some (.ret, st)
  | _, _ => none

def resultsE (C : Cfg) (st : St) : List ResultVar → Option (List AV)
  | [] => some []
  | .tmp t :: rs => match getAt st.tmps t with
    | some (.v x) => match resultsE C st rs with
      | some xs => some (x :: xs)
      | none => none
    | _ => none
  | .cell a t :: rs => match opnd C st.tmps (.tmp a) with
    | some a => match loadAt C st t a with
      | some ⟨.v x, _, _, _⟩ => match resultsE C st rs with
        | some xs => some (x :: xs)
        | none => none
      | _ => none
    | none => none

def one : List AV → AV
  | [x] => x
  | xs => .tup xs

/-- a value that outlives the blocks from n on: they are read out -/
def shutV (hp : List Blk) (n : Nat) : Nat → AV → Option AV
  | 0, _ => none
  | d + 1, v => match v with
    | .ptr b off => bif decide (b < n) then some (.ptr b off) else none
    | .rop x => (shutV hp n d x).map .rop
    | .lit sz own xs => match mapO (shutV hp n d) xs with
      | some ys => some (.lit sz (match own with
          | .fam g s => bif decide (g < n) then .fam g s else .sealed
          | o => o) ys)
      | none => none
    | .arr sz b off len => bif decide (b < n) then some (.arr sz b off len) else
      match elems hp sz (.arr sz b off len) with
      | some xs => (mapO (shutV hp n d) xs).map fun ys => .lit sz .sealed ys
      | none => none
    | .fn f a b => match mapO (shutV hp n d) a, mapO (shutV hp n d) b with
      | some a, some b => some (.fn f a b)
      | _, _ => none
    | .iface t x => (shutV hp n d x).map (.iface t)
    | .agg cs => (mapO (shutV hp n d) cs).map .agg
    | .tup cs => (mapO (shutV hp n d) cs).map .tup
    | v => some v

/-- does a value hang on no block from n on? -/
def clo (n : Nat) : Nat → AV → Bool
  | 0, _ => false
  | d + 1, v => match v with
    | .ptr b _ => decide (b < n)
    | .rop x => clo n d x
    | .lit _ own xs => (match own with | .fam g _ => decide (g < n) | _ => true) && xs.all (clo n d)
    | .arr _ b _ _ => decide (b < n)
    | .fn _ a b => a.all (clo n d) && b.all (clo n d)
    | .iface _ x => clo n d x
    | .agg cs => cs.all (clo n d)
    | .tup cs => cs.all (clo n d)
    | _ => true
def cloH (n : Nat) (hp : List Blk) : Bool := hp.all fun b => match b with
  | .cells cs => cs.all (clo n 100000)
  | _ => true

def evCall (C : Cfg) : Nat → Nat → CallF
  | 0, _, _, _, _ => none
  | k + 1, fl, f, args, hp =>
    match C.ext f with
    | some e => (e args).map fun v => (v, hp)
    | none => match C.code f with
      | none => none
      | some fi =>
        let fl' := match C.kind f with | .pure => hp.length | .new => hp.length | _ => fl
        match run C (evCall C k fl') fl' f k fi.body ⟨args.map .v ++ List.replicate (fi.ntmps - args.length) .sk, hp⟩ with
        | some (.exit _, _) => none
        | some (_, st) => match resultsE C st fi.results with
          | none => none
          | some rs => match C.kind f with
            | .pure => match shutV st.hp hp.length 100000 (one rs) with
              | some v => some (v, hp)
              | none => none
            | .mut => bif !cloH hp.length (st.hp.take hp.length) then none else
              match shutV st.hp hp.length 100000 (one rs) with
              | some v => some (v, st.hp.take hp.length)
              | none => none
            | .keep => some (one rs, st.hp)
            | .new => some (one rs, st.hp)
        | none => none

end Go.Proofs.YtkocimfdgdegfaaGreatDoor.E

namespace Go.Proofs.YtkocimfdgdegfaaGreatDoor.E
open Go Go.RowKit

theorem getAt_eq {α : Type} : ∀ (l : List α) (i : Nat), getAt l i = l[i]?
  | [], _ => by simp [getAt]
  | x :: xs, 0 => by simp [getAt]
  | x :: xs, n + 1 => by simp [getAt, getAt_eq xs n]

theorem setAt_eq {α : Type} : ∀ (l : List α) (i : Nat) (x : α), setAt l i x = l.set i x
  | [], _, _ => by simp [setAt]
  | x :: xs, 0, y => by simp [setAt]
  | x :: xs, n + 1, y => by simp [setAt, setAt_eq xs n]

theorem splice_eq {α : Type} : ∀ (l : List α) (o : Nat) (ys : List α), o ≤ l.length → splice l o ys = l.take o ++ ys ++ l.drop (o + ys.length)
  | [], 0, ys, _ => by simp [splice]
  | x :: xs, 0, ys, _ => by simp [splice]
  | [], n + 1, ys, h => by simp at h
  | x :: xs, n + 1, ys, h => by
    simp only [splice, splice_eq xs n ys (by simpa using h)]
    simp [Nat.add_right_comm]

theorem mapO_eq {α β : Type} (f : α → Option β) : ∀ (l : List α) (r : List β), mapO f l = some r →
    r.length = l.length ∧ ∀ (i : Nat) x, l[i]? = some x → ∃ y, f x = some y ∧ r[i]? = some y
  | [], r, h => by simp [mapO] at h; subst h; simp
  | x :: xs, r, h => by
    simp only [mapO] at h
    split at h
    · rename_i y hy
      split at h
      · rename_i ys hys
        cases h
        obtain ⟨hl, hi⟩ := mapO_eq f xs ys hys
        refine ⟨by simp [hl], fun i z hz => ?_⟩
        cases i with
        | zero => simp at hz; subst hz; exact ⟨y, hy, by simp⟩
        | succ i => simp at hz; obtain ⟨u, hu, hv⟩ := hi i z hz; exact ⟨u, hu, by simpa using hv⟩
      · cases h
    · cases h

/-- who owns a real cell -/
inductive Who where
  | none | imm | blk (b : Nat) | spare (g : Nat) | loc (t : Nat)

structure FamL where
  mark : Nat
  sz : Nat
  st : Nat
  rb : Nat
  ro : Nat
  en : Nat

structure Lay where
  loc : Nat → Option (Nat × Nat)
  ext : Nat → Nat
  fam : Nat → Option FamL
  who : Nat → Nat → Who

def OwnOK (L : Lay) (n : Nat) (own : Own) (sz rb ro len cap : Nat) : Prop :=
  match own with
  | .sealed => True
  | .exact => cap = len
  | .fam g st => g < n ∧ ∀ F, L.fam g = some F → st + len ≤ F.mark ∧
      (st + len = F.mark → F.sz = sz ∧ F.st ≤ st ∧ rb = F.rb ∧ ro = F.ro + (st - F.st) * sz ∧ st + cap = F.en)

inductive VR (n : Nat) (L : Lay) (w : World) : AV → Value → Prop where
  | bool (b : Bool) : VR n L w (.bool b) (.bool b)
  | int (k : IntKind) (i : Int) : VR n L w (.int k i) (.int k i)
  | str (l : List UInt8) (s : ByteArray) : s.data.toList = l → VR n L w (.str l) (.string s)
  | nilP : VR n L w .nilP (.pointer none)
  | ptr (b off : Nat) (a : Addr) : b < n → (∀ p, L.loc b = some p → a = ⟨p.1, p.2 + off, none⟩) → VR n L w (.ptr b off) (.pointer (some a))
  | rop (v : AV) (rb ro : Nat) (cv : Nat → Value) :
      (∀ j, j < v.cells.length → w.cell? ⟨rb, ro + j, none⟩ = some (cv j) ∧ L.who rb (ro + j) = .imm) →
      (∀ (j : Nat) (c : AV), v.cells[j]? = some c → c.one = true) → (∀ j c, v.cells[j]? = some c → VR n L w c (cv j)) → VR n L w (.rop v) (.pointer (some ⟨rb, ro, none⟩))
  | nilS : VR n L w .nilS (.slice none 0 0)
  | lit (sz : Nat) (own : Own) (xs : List AV) (rb ro cap : Nat) (cv : Nat → Value) : xs.length ≤ cap →
      (∀ x ∈ xs, x.cells.length = sz) →
      (∀ j, j < xs.length * sz → w.cell? ⟨rb, ro + j, none⟩ = some (cv j) ∧ L.who rb (ro + j) = .imm) →
      (∀ (j : Nat) (c : AV), (flat xs)[j]? = some c → c.one = true) → (∀ j c, (flat xs)[j]? = some c → VR n L w c (cv j)) →
      OwnOK L n own sz rb ro xs.length cap → VR n L w (.lit sz own xs) (.slice (some ⟨rb, ro, none⟩) xs.length cap)
  | arr (sz b off len : Nat) (a : Addr) (cap : Nat) : b < n → len ≤ cap →
      (∀ p, L.loc b = some p → a = ⟨p.1, p.2 + off, none⟩ ∧ (∀ j, j < cap * sz → L.who p.1 (p.2 + off + j) = .blk b) ∧ L.ext b ≤ off + cap * sz) →
      VR n L w (.arr sz b off len) (.slice (some a) len cap)
  | fn (f : Fn) (xs ys : List AV) (rx ry : Array Value) : rx.size = xs.length → ry.size = ys.length →
      (∀ i x, xs[i]? = some x → VR n L w x (rx.getD i default)) → (∀ i x, ys[i]? = some x → VR n L w x (ry.getD i default)) →
      VR n L w (.fn f xs ys) (.func f rx ry)
  | nilF : VR n L w .nilF .nilFunc
  | iface (t : TypeId) (x : AV) (v : Value) : VR n L w x v → VR n L w (.iface t x) (.iface t v)
  | nilI : VR n L w .nilI .nilIface
  | agg (cs : List AV) (rc : Array Value) : rc.size = cs.length → (∀ (i : Nat) x, cs[i]? = some x → x.one = true) → (∀ i x, cs[i]? = some x → VR n L w x (rc.getD i default)) →
      VR n L w (.agg cs) (.agg rc)
  | tup (cs : List AV) (rc : Array Value) : rc.size = cs.length → (∀ i x, cs[i]? = some x → VR n L w x (rc.getD i default)) →
      VR n L w (.tup cs) (.tuple rc)
  | nilM : VR n L w .nilM (.map none)

/-- From (L, w) to (L', w'): what a value of before stands on stands. -/
structure Ext (n : Nat) (L : Lay) (w : World) (L' : Lay) (w' : World) : Prop where
  imm : ∀ r o, L.who r o = .imm → L'.who r o = .imm ∧ w'.cell? ⟨r, o, none⟩ = w.cell? ⟨r, o, none⟩
  loc : ∀ b p, b < n → L'.loc b = some p → L.loc b = some p ∧ (∀ r o, L.who r o = .blk b → L'.who r o = .blk b) ∧ L'.ext b = L.ext b
  fam : ∀ g F', g < n → L'.fam g = some F' → ∃ F, L.fam g = some F ∧ (F' = F ∨ F.mark < F'.mark)

theorem Ext.refl (n : Nat) (L : Lay) (w : World) : Ext n L w L w :=
  ⟨fun _ _ h => ⟨h, rfl⟩, fun _ _ _ h => ⟨h, fun _ _ h => h, rfl⟩, fun _ F _ h => ⟨F, h, .inl rfl⟩⟩

theorem Ext.trans {n n' : Nat} {L : Lay} {w : World} {L1 : Lay} {w1 : World} {L2 : Lay} {w2 : World} (hn : n ≤ n') (h : Ext n L w L1 w1) (k : Ext n' L1 w1 L2 w2) : Ext n L w L2 w2 where
  imm r o hr := by
    obtain ⟨h1, h2⟩ := h.imm r o hr
    obtain ⟨k1, k2⟩ := k.imm r o h1
    exact ⟨k1, k2.trans h2⟩
  loc b p hb hp := by
    obtain ⟨k1, k2, k3⟩ := k.loc b p (by omega) hp
    obtain ⟨h1, h2, h3⟩ := h.loc b p hb k1
    exact ⟨h1, fun r o hr => k2 r o (h2 r o hr), k3.trans h3⟩
  fam g F hg hF := by
    obtain ⟨F1, k1, k2⟩ := k.fam g F (by omega) hF
    obtain ⟨F0, h1, h2⟩ := h.fam g F1 hg k1
    refine ⟨F0, h1, ?_⟩
    rcases k2 with rfl | k2
    · exact h2
    · rcases h2 with rfl | h2
      · exact .inr k2
      · exact .inr (by omega)

theorem Ext.less {n n' : Nat} {L : Lay} {w : World} {L1 : Lay} {w1 : World} (hn : n ≤ n') (h : Ext n' L w L1 w1) : Ext n L w L1 w1 :=
  ⟨h.imm, fun b p hb => h.loc b p (by omega), fun g F hg => h.fam g F (by omega)⟩

theorem OwnOK.mono {n n' : Nat} {L : Lay} {w : World} {L' : Lay} {w' : World} (hn : n ≤ n') (e : Ext n L w L' w') {own : Own} {sz rb ro len cap : Nat} (h : OwnOK L n own sz rb ro len cap) : OwnOK L' n' own sz rb ro len cap := by
  cases own with
  | sealed => trivial
  | exact => exact h
  | fam g st =>
    obtain ⟨hg, h⟩ := h
    refine ⟨by omega, fun F' hF' => ?_⟩
    obtain ⟨F, hF, hh⟩ := e.fam g F' hg hF'
    obtain ⟨h1, h2⟩ := h F hF
    rcases hh with rfl | hh
    · exact ⟨h1, h2⟩
    · exact ⟨by omega, fun he => by omega⟩

theorem VR.mono {n n' : Nat} {L : Lay} {w : World} {L' : Lay} {w' : World} (hn : n ≤ n') (e : Ext n L w L' w') {x : AV} {v : Value} (h : VR n L w x v) : VR n' L' w' x v := by
  induction h with
  | bool b => exact .bool b
  | int k i => exact .int k i
  | str l s h => exact .str l s h
  | nilP => exact .nilP
  | ptr b off a hb ha => exact .ptr b off a (by omega) fun p hp => ha p (e.loc b p hb hp).1
  | rop v rb ro cv h1 ho _ ih => exact .rop v rb ro cv (fun j hj => ⟨((e.imm _ _ (h1 j hj).2).2).trans (h1 j hj).1, (e.imm _ _ (h1 j hj).2).1⟩) ho ih
  | nilS => exact .nilS
  | lit sz own xs rb ro cap cv hc hs h1 h1o _ ho ih =>
    exact .lit sz own xs rb ro cap cv hc hs (fun j hj => ⟨((e.imm _ _ (h1 j hj).2).2).trans (h1 j hj).1, (e.imm _ _ (h1 j hj).2).1⟩) h1o ih (ho.mono hn e)
  | arr sz b off len a cap hb hc ha =>
    refine .arr sz b off len a cap (by omega) hc fun p hp => ?_
    obtain ⟨h1, h2, h2'⟩ := e.loc b p hb hp
    obtain ⟨h3, h4, h5⟩ := ha p h1
    exact ⟨h3, fun j hj => h2 _ _ (h4 j hj), by rw [h2']; exact h5⟩
  | fn f xs ys rx ry h1 h2 _ _ i1 i2 => exact .fn f xs ys rx ry h1 h2 i1 i2
  | nilF => exact .nilF
  | iface t x v _ ih => exact .iface t x v ih
  | nilI => exact .nilI
  | agg cs rc h ho _ ih => exact .agg cs rc h ho ih
  | tup cs rc h _ ih => exact .tup cs rc h ih
  | nilM => exact .nilM

/-- the same value stands on fewer blocks -/
theorem VR.restrict {n n' : Nat} {L L0 : Lay} {w w0 : World} {x : AV} {v : Value} (h : VR n' L w x v) : ∀ {v0 : Value}, VR n L0 w0 x v0 → VR n L w x v := by
  induction h with
  | bool b => intro _ _; exact .bool b
  | int k i => intro _ _; exact .int k i
  | str l s h => intro _ _; exact .str l s h
  | nilP => intro _ _; exact .nilP
  | ptr b off a hb ha => intro _ k; cases k with | ptr _ _ _ hb' _ => exact .ptr b off a hb' ha
  | rop v rb ro cv h1 ho _ ih => intro _ k; cases k with | rop _ _ _ cv' _ _ h2 => exact .rop v rb ro cv h1 ho fun j c hj => ih j c hj (h2 j c hj)
  | nilS => intro _ _; exact .nilS
  | lit sz own xs rb ro cap cv hc hs h1 h1o _ ho ih =>
    intro _ k
    cases k with
    | lit _ _ _ rb' ro' cap' cv' hc' hs' h1' _ h2' ho' =>
      refine .lit sz own xs rb ro cap cv hc hs h1 h1o (fun j c hj => ih j c hj (h2' j c hj)) ?_
      cases own with
      | sealed => trivial
      | exact => exact ho
      | fam g st => exact ⟨ho'.1, ho.2⟩
  | arr sz b off len a cap hb hc ha => intro _ k; cases k with | arr _ _ _ _ _ _ hb' _ _ => exact .arr sz b off len a cap hb' hc ha
  | fn f xs ys rx ry h1 h2 _ _ i1 i2 =>
    intro _ k
    cases k with
    | fn _ _ _ rx' ry' _ _ k1 k2 => exact .fn f xs ys rx ry h1 h2 (fun i x hi => i1 i x hi (k1 i x hi)) (fun i x hi => i2 i x hi (k2 i x hi))
  | nilF => intro _ _; exact .nilF
  | iface t x v _ ih => intro _ k; cases k with | iface _ _ _ k => exact .iface t x v (ih k)
  | nilI => intro _ _; exact .nilI
  | agg cs rc h ho _ ih => intro _ k; cases k with | agg _ _ _ _ k => exact .agg cs rc h ho fun i x hi => ih i x hi (k i x hi)
  | tup cs rc h _ ih => intro _ k; cases k with | tup _ _ _ k => exact .tup cs rc h fun i x hi => ih i x hi (k i x hi)
  | nilM => intro _ _; exact .nilM

/-- values, one by one -/
def VRs (n : Nat) (L : Lay) (w : World) (xs : List AV) (vs : List Value) : Prop :=
  xs.length = vs.length ∧ ∀ (i : Nat) x v, xs[i]? = some x → vs[i]? = some v → VR n L w x v

/-- an owned, written-to cell is there -/
structure Inv (glob : Nat → Option AV) (B : Nat) (w0 : World) (L : Lay) (w : World) (hp : List Blk) : Prop where
  below : Below B w0 w
  size : B ≤ w.heap.size
  blks : ∀ b cs, hp[b]? = some (.cells cs) → ∃ p, L.loc b = some p ∧ L.ext b = cs.length ∧ ∀ j c, cs[j]? = some c →
    L.who p.1 (p.2 + j) = .blk b ∧ c.one = true ∧ ∃ rv, w.cell? ⟨p.1, p.2 + j, none⟩ = some rv ∧ VR hp.length L w c rv
  own : ∀ r o b, L.who r o = .blk b → B ≤ r ∧ (∃ v, w.cell? ⟨r, o, none⟩ = some v) ∧ w.frozen? ⟨r, o, none⟩ = false
  fams : ∀ g m, hp[g]? = some (.fam m) → ∃ F, L.fam g = some F ∧ F.mark = m ∧ F.st ≤ m ∧ m ≤ F.en ∧ ∀ j, (m - F.st) * F.sz ≤ j → j < (F.en - F.st) * F.sz → L.who F.rb (F.ro + j) = .spare g
  spare : ∀ r o g, L.who r o = .spare g → B ≤ r ∧ (∃ v, w.cell? ⟨r, o, none⟩ = some v) ∧ w.frozen? ⟨r, o, none⟩ = false
  fresh : ∀ r o, w.heap.size ≤ r → L.who r o = .none
  noLoc : ∀ b, hp.length ≤ b → L.loc b = none
  noFam : ∀ b, hp.length ≤ b → L.fam b = none
  globs : ∀ g v, glob g = some v → VR 0 L w (.rop v) (.pointer (some ⟨g, 0, none⟩))

end Go.Proofs.YtkocimfdgdegfaaGreatDoor.E

namespace Go.Proofs.YtkocimfdgdegfaaGreatDoor.E
open Go Go.RowKit
variable {P : Program}

theorem cond_true {α : Type} {c : Bool} {x y : α} (h : c = true) : cond c x y = x := by subst h; rfl
theorem cond_false {α : Type} {c : Bool} {x y : α} (h : c = false) : cond c x y = y := by subst h; rfl

/-- what the table says of a type -/
structure TyOK (P : Program) (t : TypeId) (ti : TI) : Prop where
  ex : ∃ (i : TypeInfo) (d : TypeDesc) (z : Value), P.info? t = some i ∧ P.underlying t = some d ∧ i.size = ti.size ∧ i.bytes = ti.bytes ∧ ti.k = tkOf d ∧
    i.zero = some z ∧ mapO (ofConst 8) z.cells.toList = some ti.zero ∧ z.cells.size = ti.size ∧ allOne ti.zero = true ∧ ti.eq = (eqPlain P t d && i.comparable) ∧ partsKnown P d = true

theorem tiOf_ok {t : TypeId} {ti : TI} (h : tiOf P t = some ti) : TyOK P t ti := by
  unfold tiOf at h
  split at h
  · rename_i i d hi hd
    split at h
    · rename_i z hz
      split at h
      · rename_i zs hzs
        cases hb : (z.cells.size == i.size && allOne zs && partsKnown P d) with
        | false => rw [hb] at h; cases h
        | true =>
          rw [hb] at h
          cases h
          simp only [Bool.and_eq_true, beq_iff_eq] at hb
          exact ⟨i, d, z, hi, hd, rfl, rfl, rfl, hz, hzs, hb.1.1, hb.1.2, rfl, hb.2⟩
      · cases h
    · cases h
  · cases h

def TysOK (P : Program) (C : Cfg) : Prop := ∀ t ti, C.ty t = some ti → TyOK P t ti

theorem run_typeInfo {t : TypeId} {i : TypeInfo} (h : P.info? t = some i) (w : World) : (typeInfo t).run P w = .ok i w := by
  simp [typeInfo, h]
theorem run_sizeOf {t : TypeId} {i : TypeInfo} (h : P.info? t = some i) (w : World) : (Go.sizeOf t).run P w = .ok i.size w := by
  simp [Go.sizeOf, run_typeInfo h]
theorem run_zeroValue {t : TypeId} {i : TypeInfo} {z : Value} (h : P.info? t = some i) (hz : i.zero = some z) (w : World) : (zeroValue t).run P w = .ok z w := by
  simp [zeroValue, run_typeInfo h, hz]
theorem run_isAgg {t : TypeId} {d : TypeDesc} (h : P.underlying t = some d) (w : World) : (isAgg t).run P w = .ok (tkOf d).agg w := by
  simp only [isAgg, Sem.run_bind, run_underlying h w, Result.andThen_ok]
  cases d <;> simp [tkOf, TK.agg]

theorem allOne_mem : ∀ {xs : List AV}, allOne xs = true → ∀ (i : Nat) x, xs[i]? = some x → x.one = true
  | [], _, i, x, h => by simp at h
  | y :: ys, h, 0, x, hx => by simp [allOne] at h; simp at hx; subst hx; exact h.1
  | y :: ys, h, i + 1, x, hx => by simp [allOne] at h; exact allOne_mem h.2 i x (by simpa using hx)

/-! constants -/
theorem ofConst_ok (L : Lay) (n : Nat) (w : World) : ∀ (d : Nat) (v : Value) (x : AV), ofConst d v = some x → VR n L w x v := by
  intro d
  induction d with
  | zero => intro v x h; cases h
  | succ d ih =>
    intro v x h
    unfold ofConst at h
    split at h
    all_goals first
      | (cases h; first | exact .bool _ | exact .int _ _ | exact .str _ _ rfl | exact .nilP | exact .nilS | exact .nilF | exact .nilI | exact .nilM)
      | skip
    · rename_i cs
      cases hm : mapO (ofConst d) cs.toList with
      | none => rw [hm] at h; cases h
      | some r =>
        rw [hm] at h
        dsimp only at h
        cases hb : allOne r with
        | false => rw [hb] at h; cases h
        | true =>
        rw [hb] at h; cases h
        obtain ⟨hl, hi⟩ := mapO_eq _ _ _ hm
        refine .agg r cs (by simp [hl]) (allOne_mem hb) fun i x hx => ?_
        have hlt : i < cs.size := by have := (List.getElem?_eq_some_iff.1 hx).1; simpa [hl] using this
        obtain ⟨y, hy, hr⟩ := hi i cs[i] (by simp [hlt])
        have : x = y := by rw [hx] at hr; exact Option.some.inj hr
        subst this
        have := ih _ _ hy
        simpa [Array.getD, hlt] using this
    · rename_i cs
      cases hm : mapO (ofConst d) cs.toList with
      | none => rw [hm] at h; cases h
      | some r =>
        rw [hm] at h; cases h
        obtain ⟨hl, hi⟩ := mapO_eq _ _ _ hm
        refine .tup r cs (by simp [hl]) fun i x hx => ?_
        have hlt : i < cs.size := by have := (List.getElem?_eq_some_iff.1 hx).1; simpa [hl] using this
        obtain ⟨y, hy, hr⟩ := hi i cs[i] (by simp [hlt])
        have : x = y := by rw [hx] at hr; exact Option.some.inj hr
        subst this
        have := ih _ _ hy
        simpa [Array.getD, hlt] using this
    · cases h

/-- cells, one by one -/
def CR (n : Nat) (L : Lay) (w : World) (xs : List AV) (vs : List Value) : Prop :=
  vs.length = xs.length ∧ ∀ (i : Nat) x v, xs[i]? = some x → vs[i]? = some v → VR n L w x v

theorem VR.cells {n : Nat} {L : Lay} {w : World} {x : AV} {v : Value} (h : VR n L w x v) : CR n L w x.cells v.cells.toList := by
  have one : x.cells = [x] → v.cells = #[v] → CR n L w x.cells v.cells.toList := fun h1 h2 => by
    rw [h1, h2]
    refine ⟨rfl, fun i y u hy hu => ?_⟩
    cases i with
    | zero => simp at hy hu; subst hy; subst hu; exact h
    | succ i => simp at hy
  cases h with
  | agg cs rc hl _ hi =>
    refine ⟨by simp [Value.cells, AV.cells, hl], fun i x v hx hv => ?_⟩
    simp only [AV.cells] at hx
    simp only [Value.cells] at hv
    have := hi i x hx
    rw [Array.getElem?_toList] at hv
    have e : rc.getD i default = v := by
      rw [Array.getD_eq_getD_getElem?, hv]; rfl
    rw [e] at this
    exact this
  | _ => exact one rfl rfl


theorem AV.cells_one {x : AV} (h : x.one = true) : x.cells = [x] := by cases x <;> first | rfl | cases h

/-- the cells of a value are each of one cell -/
theorem VR.ones {n : Nat} {L : Lay} {w : World} {x : AV} {v : Value} (h : VR n L w x v) (hx : x.noTup = true) : ∀ (i : Nat) c, x.cells[i]? = some c → c.one = true := by
  have one : x.one = true → ∀ (i : Nat) c, x.cells[i]? = some c → c.one = true := fun h1 i c hc => by
    rw [AV.cells_one h1] at hc
    cases i with
    | zero => simp at hc; subst hc; exact h1
    | succ i => simp at hc
  cases h with
  | agg cs rc hl ho hi => exact ho
  | tup => cases hx
  | _ => exact one rfl

end Go.Proofs.YtkocimfdgdegfaaGreatDoor.E

namespace Go.Proofs.YtkocimfdgdegfaaGreatDoor.E
open Go Go.RowKit
variable {P : Program} {C : Cfg}

/-- a real cell: its value, and that it may be written to -/
def Boxed (n : Nat) (L : Lay) (w : World) (base t : Nat) (cs : List AV) (v : Value) : Prop :=
  ∃ rb, v = .pointer (some ⟨rb, 0, none⟩) ∧ base ≤ rb ∧ rb < w.heap.size ∧ ∀ (j : Nat) c, cs[j]? = some c → L.who rb j = .loc t ∧ w.frozen? ⟨rb, j, none⟩ = false ∧ c.one = true ∧
    ∃ rv, w.cell? ⟨rb, j, none⟩ = some rv ∧ VR n L w c rv

/-- what a slot says of the frame's own value -/
def SlotR (n : Nat) (L : Lay) (w : World) (base : Nat) (rt : Array Value) (i : Nat) : TV → Prop
  | .junk => True
  | .sk => rt.getD i undef = undef
  | .v x => VR n L w x (rt.getD i undef)
  | .bx cs => Boxed n L w base i cs (rt.getD i undef)
  | .lp t off => ∃ rb, rt.getD t undef = .pointer (some ⟨rb, 0, none⟩) ∧ rt.getD i undef = .pointer (some ⟨rb, off, none⟩)

structure FR (n : Nat) (L : Lay) (w : World) (base : Nat) (ts : List TV) (rt : Array Value) : Prop where
  len : ts.length = rt.size
  slot : ∀ i x, ts[i]? = some x → SlotR n L w base rt i x
  root : ∀ (i : Nat) t off, ts[i]? = some (.lp t off) → ∃ cs, ts[t]? = some (.bx cs)

/-- what an operand says of its value -/
def OR (n : Nat) (L : Lay) (w : World) (ts : List TV) (rt : Array Value) : TV → Value → Prop
  | .junk, _ => True
  | .sk, v => v = undef
  | .v x, v => VR n L w x v
  | .bx _, _ => False
  | .lp t off, v => ∃ rb, rt.getD t undef = .pointer (some ⟨rb, 0, none⟩) ∧ v = .pointer (some ⟨rb, off, none⟩) ∧ ∃ cs, ts[t]? = some (.bx cs)

theorem Inv.glob0 {glob : Nat → Option AV} {B : Nat} {w0 w : World} {L : Lay} {hp : List Blk} (h : Inv glob B w0 L w hp) {g : Nat} {v : AV} (hg : glob g = some v) (n : Nat) :
    VR n L w (.rop v) (.pointer (some ⟨g, 0, none⟩)) := (h.globs g v hg).mono (Nat.zero_le _) (Ext.refl 0 L w)

theorem opnd_ok {B base : Nat} {w0 w : World} {L : Lay} {hp : List Blk} {ts : List TV} {rt : Array Value} {ds : List Deferred} (hI : Inv C.glob B w0 L w hp) (hF : FR hp.length L w base ts rt)
    {x : Operand} {tv : TV} (h : opnd C ts x = some tv) : OR hp.length L w ts rt tv (({ tmps := rt, defers := ds } : Act).eval x) := by
  cases x with
  | tmp t =>
    simp only [opnd, getAt_eq] at h
    show OR _ _ _ _ _ _ (rt.getD t undef)
    split at h
    · rename_i cs hcs
      cases h
      obtain ⟨rb, h1, _⟩ := hF.slot t _ hcs
      exact ⟨rb, h1, h1, cs, hcs⟩
    · rename_i y hb hy
      cases h
      have hs := hF.slot t _ hy
      cases tv with
      | junk => trivial
      | sk => exact hs
      | v x => exact hs
      | bx cs => exact (hb cs rfl).elim
      | lp s off =>
        obtain ⟨rb, h1, h2⟩ := hs
        exact ⟨rb, h1, h2, hF.root t s off hy⟩
    · rename_i hn
      cases h
      have h1 : rt.size ≤ t := by
        have := List.getElem?_eq_none_iff.1 hn
        rw [hF.len] at this
        exact this
      have h2 : ¬ t < rt.size := Nat.not_lt.2 h1
      show rt.getD t undef = undef
      simp [Array.getD, h2]
  | const v =>
    simp only [opnd, Option.map_eq_some_iff] at h
    obtain ⟨a, ha, rfl⟩ := h
    exact ofConst_ok L _ w 8 v a ha
  | global g =>
    simp only [opnd, Option.map_eq_some_iff] at h
    obtain ⟨a, ha, rfl⟩ := h
    exact hI.glob0 ha _
  | func f =>
    simp only [opnd, Option.some.injEq] at h
    subst h
    exact .fn _ _ _ _ _ rfl rfl (fun i x hx => by simp at hx) (fun i x hx => by simp at hx)

theorem opv_ok {B base : Nat} {w0 w : World} {L : Lay} {hp : List Blk} {ts : List TV} {rt : Array Value} {ds : List Deferred} (hI : Inv C.glob B w0 L w hp) (hF : FR hp.length L w base ts rt)
    {x : Operand} {a : AV} (h : opv C ts x = some a) : VR hp.length L w a (({ tmps := rt, defers := ds } : Act).eval x) := by
  unfold opv at h
  split at h
  · rename_i b hb
    cases h
    exact opnd_ok hI hF hb
  · cases h

/-! ### the steps of the memory -/

/-- what a step leaves of the boxes of frames that began below 's' -/
def KeepLoc (s : Nat) (L : Lay) (w : World) (L' : Lay) (w' : World) : Prop :=
  ∀ r o t, r < s → L.who r o = .loc t → L'.who r o = .loc t ∧ w'.cell? ⟨r, o, none⟩ = w.cell? ⟨r, o, none⟩ ∧ w'.frozen? ⟨r, o, none⟩ = w.frozen? ⟨r, o, none⟩

theorem KeepLoc.refl (s : Nat) (L : Lay) (w : World) : KeepLoc s L w L w := fun _ _ _ _ h => ⟨h, rfl, rfl⟩
theorem KeepLoc.trans {s s' : Nat} {L L1 L2 : Lay} {w w1 w2 : World} (hs : s ≤ s') (h : KeepLoc s L w L1 w1) (k : KeepLoc s' L1 w1 L2 w2) : KeepLoc s L w L2 w2 := fun r o t hr hl => by
  obtain ⟨h1, h2, h3⟩ := h r o t hr hl
  obtain ⟨k1, k2, k3⟩ := k r o t (by omega) h1
  exact ⟨k1, k2.trans h2, k3.trans h3⟩
theorem KeepLoc.less {s s' : Nat} {L L1 : Lay} {w w1 : World} (hs : s ≤ s') (h : KeepLoc s' L w L1 w1) : KeepLoc s L w L1 w1 := fun r o t hr hl => h r o t (by omega) hl

theorem Boxed.mono {n n' base t : Nat} {L L' : Lay} {w w' : World} {cs : List AV} {v : Value} (hn : n ≤ n') (e : Ext n L w L' w') (hk : KeepLoc w.heap.size L w L' w') (hs : w.heap.size ≤ w'.heap.size)
    (h : Boxed n L w base t cs v) : Boxed n' L' w' base t cs v := by
  obtain ⟨rb, h1, h2, h3, h4⟩ := h
  refine ⟨rb, h1, h2, by omega, fun j c hj => ?_⟩
  obtain ⟨k1, k2, ko, rv, k3, k4⟩ := h4 j c hj
  obtain ⟨l1, l2, l3⟩ := hk rb j t h3 k1
  exact ⟨l1, l3.trans k2, ko, rv, l2.trans k3, k4.mono hn e⟩

theorem SlotR.mono {n n' base i : Nat} {L L' : Lay} {w w' : World} {rt : Array Value} {x : TV} (hn : n ≤ n') (e : Ext n L w L' w') (hk : KeepLoc w.heap.size L w L' w') (hs : w.heap.size ≤ w'.heap.size)
    (h : SlotR n L w base rt i x) : SlotR n' L' w' base rt i x := by
  cases x with
  | junk => trivial
  | sk => exact h
  | v x => exact VR.mono hn e h
  | bx cs => exact Boxed.mono hn e hk hs h
  | lp t off => exact h

theorem FR.mono {n n' base : Nat} {L L' : Lay} {w w' : World} {ts : List TV} {rt : Array Value} (hn : n ≤ n') (e : Ext n L w L' w') (hk : KeepLoc w.heap.size L w L' w') (hs : w.heap.size ≤ w'.heap.size)
    (h : FR n L w base ts rt) : FR n' L' w' base ts rt :=
  ⟨h.len, fun i x hx => (h.slot i x hx).mono hn e hk hs, h.root⟩

/-! ### writing a slot -/
theorem getD_set_eq {rt : Array Value} {d : Nat} {v : Value} (hd : d < rt.size) : (rt.setIfInBounds d v).getD d undef = v := by
  simp [Array.getD, hd]
theorem getD_set_ne' {rt : Array Value} {d i : Nat} {v : Value} (h : d ≠ i) : (rt.setIfInBounds d v).getD i undef = rt.getD i undef := by
  simp [Array.getElem?_setIfInBounds_ne h]

/-- what a value says that is to be laid into slot d -/
def DstR (n : Nat) (L : Lay) (w : World) (base : Nat) (ts : List TV) (rt : Array Value) (d : Nat) : TV → Value → Prop
  | .bx cs, v => Boxed n L w base d cs v
  | x, v => OR n L w ts rt x v

theorem put_ok {n base : Nat} {L : Lay} {w : World} {ts ts' : List TV} {rt : Array Value} {ds : List Deferred} {dst : Option Tmp} {x : TV} {v : Value} (h : put ts dst x = some ts') (hF : FR n L w base ts rt)
    (hx : ∀ d, dst = some d → DstR n L w base ts rt d x v) : FR n L w base ts' ((({ tmps := rt, defers := ds } : Act).put dst v).tmps) := by
  cases dst with
  | none => simp only [put, Option.some.injEq] at h; subst h; exact hF
  | some d =>
    simp only [put, getAt_eq] at h
    split at h
    · cases h
    · rename_i y hb hy
      cases h
      have hd : d < rt.size := by have := (List.getElem?_eq_some_iff.1 hy).1; rw [hF.len] at this; exact this
      have hdl : d < ts.length := by rw [hF.len]; exact hd
      show FR n L w base (setAt ts d x) (rt.setIfInBounds d v)
      rw [setAt_eq]
      have hx := hx d rfl
      have hroot : ∀ (i : Nat) off, ts[i]? ≠ some (.lp d off) := fun i off hi => by
        obtain ⟨cs, hc⟩ := hF.root i d off hi
        exact hb cs (by rw [hy] at hc; exact Option.some.inj hc)
      refine ⟨by simp [hF.len], fun i z hz => ?_, fun i t off hz => ?_⟩
      · by_cases hi : d = i
        · subst hi
          rw [List.getElem?_set_self hdl] at hz
          cases hz
          cases x with
          | junk => trivial
          | sk => show _ = _; rw [getD_set_eq hd]; exact hx
          | v x => show VR _ _ _ _ _; rw [getD_set_eq hd]; exact hx
          | bx cs => show Boxed _ _ _ _ _ _ _; rw [getD_set_eq hd]; exact hx
          | lp t off =>
            obtain ⟨rb, h1, h2, cs, h3⟩ := hx
            have hne : d ≠ t := fun e => hb cs (by rw [← e, hy] at h3; exact Option.some.inj h3)
            exact ⟨rb, by rw [getD_set_ne' hne]; exact h1, by rw [getD_set_eq hd]; exact h2⟩
        · rw [List.getElem?_set_ne hi] at hz
          have := hF.slot i z hz
          cases z with
          | junk => trivial
          | sk => show _ = _; rw [getD_set_ne' hi]; exact this
          | v x => show VR _ _ _ _ _; rw [getD_set_ne' hi]; exact this
          | bx cs => show Boxed _ _ _ _ _ _ _; rw [getD_set_ne' hi]; exact this
          | lp t off =>
            obtain ⟨rb, h1, h2⟩ := this
            have hne : d ≠ t := fun e => hroot i off (e ▸ hz)
            exact ⟨rb, by rw [getD_set_ne' hne]; exact h1, by rw [getD_set_ne' hi]; exact h2⟩
      · by_cases hi : d = i
        · subst hi
          rw [List.getElem?_set_self hdl] at hz
          cases hz
          obtain ⟨rb, h1, h2, cs, h3⟩ := hx
          have hne : d ≠ t := fun e => hb cs (by rw [← e, hy] at h3; exact Option.some.inj h3)
          exact ⟨cs, by rw [List.getElem?_set_ne hne]; exact h3⟩
        · rw [List.getElem?_set_ne hi] at hz
          obtain ⟨cs, hc⟩ := hF.root i t off hz
          have hne : d ≠ t := fun e => hroot i off (e ▸ hz)
          exact ⟨cs, by rw [List.getElem?_set_ne hne]; exact hc⟩
    · cases h

/-- WHAT AN OPERATION COMES TO: the model's run, and what holds behind it. -/
def OpOK (C : Cfg) (B : Nat) (w0 : World) (base : Nat) (L : Lay) (w : World) (hp : List Blk) (rt : Array Value) (dst : Option Tmp) (r : Res) (w' : World) (rv : Value) : Prop :=
  ∃ L', Inv C.glob B w0 L' w' r.hp ∧ Ext hp.length L w L' w' ∧ KeepLoc base L w L' w' ∧ w.heap.size ≤ w'.heap.size ∧ hp.length ≤ r.hp.length ∧
    FR r.hp.length L' w' base r.tmps rt ∧ ∀ d, dst = some d → (∀ cs, r.tmps[d]? ≠ some (.bx cs)) → DstR r.hp.length L' w' base r.tmps rt d r.val rv

end Go.Proofs.YtkocimfdgdegfaaGreatDoor.E

namespace Go.Proofs.YtkocimfdgdegfaaGreatDoor.E
open Go Go.RowKit
variable {P : Program} {C : Cfg}

theorem run_load_cell {w : World} {a : Addr} {v : Value} (h : w.cell? a = some v) : (load a).run P w = .ok v w := by
  simp [load, Sem.run, h]

/-- cells lie from an address on -/
def Lies (n : Nat) (L : Lay) (w : World) (cs : List AV) (rb ro : Nat) : Prop :=
  ∀ (j : Nat) c, cs[j]? = some c → c.one = true ∧ ∃ rv, w.cell? ⟨rb, ro + j, none⟩ = some rv ∧ VR n L w c rv

theorem part_one {ti : TI} {cs : List AV} {off : Nat} {x : AV} (ha : ti.k.agg = false) (h : part ti cs off = some x) : cs[off]? = some x := by
  unfold part at h; rw [ha] at h; simpa [getAt_eq] using h
theorem part_agg {ti : TI} {cs : List AV} {off : Nat} {x : AV} (ha : ti.k.agg = true) (h : part ti cs off = some x) :
    x = .agg ((cs.drop off).take ti.size) ∧ ((cs.drop off).take ti.size).length = ti.size := by
  unfold part at h; rw [ha] at h
  simp only [cond_true] at h
  cases hb : (((cs.drop off).take ti.size).length == ti.size) with
  | false => rw [hb] at h; cases h
  | true => rw [hb] at h; cases h; exact ⟨rfl, by simpa using hb⟩

theorem run_loadVar_part {n : Nat} {L : Lay} {w : World} {t : TypeId} {ti : TI} {cs : List AV} {off : Nat} {x : AV} {rb ro : Nat} (hT : TyOK P t ti) (h : part ti cs off = some x) (hl : Lies n L w cs rb ro) :
    ∃ rv, (loadVar t ⟨rb, ro + off, none⟩).run P w = .ok rv w ∧ VR n L w x rv := by
  obtain ⟨i, d, z, hi, hd, hs, _, hk, -⟩ := hT.ex
  cases ha : ti.k.agg with
  | false =>
    have := part_one ha h
    obtain ⟨_, rv, h1, h2⟩ := hl off x this
    refine ⟨rv, ?_, h2⟩
    rw [hk] at ha
    simp [loadVar, run_isAgg hd, ha, h1]
  | true =>
    obtain ⟨rfl, hlen⟩ := part_agg ha h
    have hget : ∀ j, j < ti.size → ∃ c, cs[off + j]? = some c := fun j hj => by
      have : j < ((cs.drop off).take ti.size).length := by omega
      have h2 := List.getElem?_eq_getElem this
      rw [List.getElem?_take_of_lt hj, List.getElem?_drop] at h2
      exact ⟨_, h2⟩
    let f : Nat → Value := fun j => (w.cell? ⟨rb, ro + off + j, none⟩).getD default
    have hf : ∀ j c, cs[off + j]? = some c → w.cell? ⟨rb, ro + off + j, none⟩ = some (f j) ∧ VR n L w c (f j) := fun j c hc => by
      obtain ⟨_, rv, h1, h2⟩ := hl (off + j) c hc
      rw [← Nat.add_assoc] at h1
      have : f j = rv := by simp [f, h1]
      rw [this]; exact ⟨h1, h2⟩
    refine ⟨.agg ((List.range ti.size).map f).toArray, ?_, ?_⟩
    · refine run_loadVar_mid w rb (ro + off) t _ d ?_ hd ?_ ?_
      · intro j v hv
        simp only [List.getElem?_map, Option.map_eq_some_iff] at hv
        obtain ⟨k, hk1, rfl⟩ := hv
        have hj : j < ti.size := by
          rcases Nat.lt_or_ge j ti.size with hj | hj
          · exact hj
          · simp [Nat.not_lt.2 hj] at hk1
        have : j = k := by simpa [List.getElem?_range, hj] using hk1
        subst this
        obtain ⟨c, hc⟩ := hget j hj
        exact (hf j c hc).1
      · rw [hk] at ha; cases d <;> simp_all [tkOf, TK.agg, TypeDesc.isRow]
      · simp [hi, hs]
    · refine .agg _ _ (by simp [hlen]) (fun j c hc => ?_) fun j c hc => ?_
      · have hj : j < ti.size := by have := (List.getElem?_eq_some_iff.1 hc).1; omega
        rw [List.getElem?_take_of_lt hj, List.getElem?_drop] at hc
        exact (hl _ c hc).1
      have hj : j < ti.size := by have := (List.getElem?_eq_some_iff.1 hc).1; omega
      rw [List.getElem?_take_of_lt hj, List.getElem?_drop] at hc
      have := (hf j c hc).2
      simpa [Array.getD, hj] using this

theorem asVal_part {ti : TI} {v x : AV} (h : asVal ti v = some x) : x = v ∧ part ti v.cells 0 = some v := by
  unfold asVal at h
  cases ha : ti.k.agg with
  | true =>
    rw [ha] at h
    simp only [cond_true] at h
    split at h
    · rename_i cs
      cases hb : (cs.length == ti.size) with
      | false => rw [hb] at h; cases h
      | true =>
        rw [hb] at h; cases h
        refine ⟨rfl, ?_⟩
        have : cs.length = ti.size := by simpa using hb
        simp [part, ha, AV.cells, this.symm]
    · cases h
  | false =>
    rw [ha] at h
    simp only [cond_false] at h
    split at h
    · cases h
    · cases h
    · rename_i h1 h2
      cases h
      refine ⟨rfl, ?_⟩
      have : v.cells = [v] := by cases v <;> first | rfl | (exact absurd rfl (h1 _))
      simp [part, ha, this, getAt]

theorem VR.lies {n : Nat} {L : Lay} {w : World} {v : AV} {rb ro : Nat} {cv : Nat → Value} (h1 : ∀ j, j < v.cells.length → w.cell? ⟨rb, ro + j, none⟩ = some (cv j) ∧ L.who rb (ro + j) = .imm)
    (ho : ∀ (j : Nat) c, v.cells[j]? = some c → c.one = true) (h2 : ∀ (j : Nat) c, v.cells[j]? = some c → VR n L w c (cv j)) : Lies n L w v.cells rb ro := fun j c hc =>
  ⟨ho j c hc, cv j, (h1 j (List.getElem?_eq_some_iff.1 hc).1).1, h2 j c hc⟩

theorem blkCells_eq {hp : List Blk} {b : Nat} {cs : List AV} (h : blkCells hp b = some cs) : hp[b]? = some (.cells cs) := by
  unfold blkCells at h
  rw [getAt_eq] at h
  split at h
  · rename_i cs' hc; cases h; exact hc
  · cases h
theorem slotCells_eq {ts : List TV} {b : Nat} {cs : List AV} (h : slotCells ts b = some cs) : ts[b]? = some (.bx cs) := by
  unfold slotCells at h
  rw [getAt_eq] at h
  split at h
  · rename_i cs' hc; cases h; exact hc
  · cases h

theorem Inv.lies {glob : Nat → Option AV} {B : Nat} {w0 w : World} {L : Lay} {hp : List Blk} (hI : Inv glob B w0 L w hp) {b : Nat} {cs : List AV} (h : hp[b]? = some (.cells cs)) :
    ∃ p, L.loc b = some p ∧ Lies hp.length L w cs p.1 p.2 := by
  obtain ⟨p, h1, _, h2⟩ := hI.blks b cs h
  exact ⟨p, h1, fun j c hc => (h2 j c hc).2⟩

theorem Boxed.lies {n base t : Nat} {L : Lay} {w : World} {cs : List AV} {v : Value} (h : Boxed n L w base t cs v) : ∃ rb, v = .pointer (some ⟨rb, 0, none⟩) ∧ Lies n L w cs rb 0 := by
  obtain ⟨rb, h1, _, _, h2⟩ := h
  refine ⟨rb, h1, fun j c hc => ?_⟩
  obtain ⟨_, _, ho, rv, h3, h4⟩ := h2 j c hc
  exact ⟨ho, rv, by rw [Nat.zero_add]; exact h3, h4⟩

theorem loadAt_ok {B base : Nat} {w0 w : World} {L : Lay} {st : St} {rt : Array Value} (hT : TysOK P C) (hI : Inv C.glob B w0 L w st.hp) (hF : FR st.hp.length L w base st.tmps rt)
    {t : TypeId} {tv : TV} {va : Value} {r : Res} (h : loadAt C st t tv = some r) (ha : OR st.hp.length L w st.tmps rt tv va) :
    r.tmps = st.tmps ∧ r.hp = st.hp ∧ ∃ x rv, r.val = .v x ∧ (Instr.loadAt t va).run P w = .ok rv w ∧ VR st.hp.length L w x rv := by
  unfold loadAt at h
  cases hti : C.ty t with
  | none => rw [hti] at h; cases h
  | some ti =>
    rw [hti] at h
    have hty := hT t ti hti
    dsimp only at h
    split at h
    · rename_i v
      unfold ofO at h
      simp only [Option.map_eq_some_iff] at h
      obtain ⟨x, hx, rfl⟩ := h
      obtain ⟨rfl, hp⟩ := asVal_part hx
      cases ha with
      | rop _ rb ro cv h1 ho h2 =>
        obtain ⟨rv, h3, h4⟩ := run_loadVar_part hty hp (VR.lies h1 ho h2)
        exact ⟨rfl, rfl, x, rv, rfl, by simpa [Instr.loadAt, Instr.sureAddr] using h3, h4⟩
    · rename_i b off
      split at h
      · rename_i cs hcs
        simp only [Option.map_eq_some_iff] at h
        obtain ⟨x, hx, rfl⟩ := h
        cases ha with
        | ptr _ _ a hb ha =>
          obtain ⟨p, hp1, hp2⟩ := hI.lies (blkCells_eq hcs)
          obtain ⟨rv, h3, h4⟩ := run_loadVar_part hty hx hp2
          have := ha p hp1; subst this
          exact ⟨rfl, rfl, x, rv, rfl, by simpa [Instr.loadAt, Instr.sureAddr] using h3, h4⟩
      · cases h
    · rename_i s off
      split at h
      · rename_i cs hcs
        simp only [Option.map_eq_some_iff] at h
        obtain ⟨x, hx, rfl⟩ := h
        obtain ⟨rb, h1, rfl, _⟩ := ha
        obtain ⟨rb', h1', hl⟩ := Boxed.lies (hF.slot s _ (slotCells_eq hcs))
        have : rb = rb' := by rw [h1] at h1'; cases h1'; rfl
        subst this
        obtain ⟨rv, h3, h4⟩ := run_loadVar_part hty hx hl
        exact ⟨rfl, rfl, x, rv, rfl, by simpa [Instr.loadAt, Instr.sureAddr] using h3, h4⟩
      · cases h
    · cases h

end Go.Proofs.YtkocimfdgdegfaaGreatDoor.E

namespace Go.Proofs.YtkocimfdgdegfaaGreatDoor.E
open Go Go.RowKit
variable {P : Program} {C : Cfg}

/-- w' is w but for the cells [lo, lo + vs.length) of block rb, which hold vs -/
structure Wrote (w w' : World) (rb lo : Nat) (vs : List Value) : Prop where
  size : w'.heap.size = w.heap.size
  out : ∀ r o, (r = rb → o < lo ∨ lo + vs.length ≤ o) → w'.cell? ⟨r, o, none⟩ = w.cell? ⟨r, o, none⟩
  inn : ∀ (j : Nat) v, vs[j]? = some v → w'.cell? ⟨rb, lo + j, none⟩ = some v
  fro : ∀ a, w'.frozen? a = w.frozen? a
  below : ∀ B w0, (vs ≠ [] → B ≤ rb) → Below B w0 w → Below B w0 w'

theorem Below.setCells' {B : Nat} {w0 : World} {b : Nat} (hb : B ≤ b) : ∀ (vs : List Value) (o : Nat) (w : World), Below B w0 w → Below B w0 (w.setCells b o vs)
  | [], _, _, h => h
  | v :: vs, o, w, h => Below.setCells' hb vs (o + 1) (w.setCell ⟨b, o, none⟩ v) (h.setCell hb v)

theorem wrote_setCells {w : World} {rb lo : Nat} {vs : List Value} (h : ∀ j, j < vs.length → (w.cell? ⟨rb, lo + j, none⟩).isSome = true) : Wrote w (w.setCells rb lo vs) rb lo vs where
  size := by
    have : ∀ (vs : List Value) (o : Nat) (w : World), (w.setCells rb o vs).heap.size = w.heap.size := by
      intro vs
      induction vs with
      | nil => intro o w; rfl
      | cons v vs ih => intro o w; show ((w.setCell _ v).setCells rb (o + 1) vs).heap.size = _; rw [ih]; simp
    exact this vs lo w
  out r o hr := World.cell?_setCells_out rb vs lo w ⟨r, o, none⟩ (fun h _ => hr h)
  inn j v hv := by
    obtain ⟨hj, rfl⟩ := List.getElem?_eq_some_iff.1 hv
    exact World.cell?_setCells_in rb vs lo w h j hj
  fro a := World.frozen?_setCells rb vs lo w a
  below B w0 hb hB := by
    cases vs with
    | nil => exact hB
    | cons v vs => exact Below.setCells' (hb (by simp)) (v :: vs) lo w hB

theorem run_storeVar_any {t : TypeId} {i : TypeInfo} {w : World} {rb o : Nat} {v : Value} (hi : P.info? t = some i) (hs : v.cells.size = i.size)
    (ht : ∀ j, j < v.cells.size → (w.cell? ⟨rb, o + j, none⟩).isSome = true ∧ w.frozen? ⟨rb, o + j, none⟩ = false) (h1 : ∀ x ∈ v.cells.toList, x.oneCell' = true) :
    (storeVar t ⟨rb, o, none⟩ v).run P w = .ok () (w.setCells rb o v.cells.toList) := by
  have := run_storeCells_cells (P := P) rb o v.cells.toList 0 w (fun j hj => by simpa using (ht j (by simpa using hj)).1) (fun j hj => by simpa using (ht j (by simpa using hj)).2) h1
  simp only [Nat.add_zero] at this
  simp [storeVar, run_sizeOf hi, hs, this]

theorem VR.one {n : Nat} {L : Lay} {w : World} {x : AV} {v : Value} (h : VR n L w x v) (hx : x.one = true) : v.oneCell' = true := by
  cases h <;> first | rfl | cases hx

theorem CR.allOne {n : Nat} {L : Lay} {w : World} {xs : List AV} {vs : List Value} (h : CR n L w xs vs) (ho : ∀ (i : Nat) x, xs[i]? = some x → x.one = true) : ∀ v ∈ vs, v.oneCell' = true := fun v hv => by
  obtain ⟨i, hi⟩ := List.mem_iff_getElem?.1 hv
  have hlt : i < xs.length := by have := (List.getElem?_eq_some_iff.1 hi).1; rw [h.1] at this; exact this
  have hx := List.getElem?_eq_getElem hlt
  exact (h.2 i _ v hx hi).one (ho i _ hx)

theorem splice_length {α : Type} {cs xs : List α} {off : Nat} (h : off + xs.length ≤ cs.length) : (splice cs off xs).length = cs.length := by
  rw [splice_eq cs off xs (by omega)]
  simp; omega

theorem splice_get {α : Type} {cs xs : List α} {off : Nat} (h : off + xs.length ≤ cs.length) (j : Nat) :
    (splice cs off xs)[j]? = if off ≤ j ∧ j < off + xs.length then xs[j - off]? else cs[j]? := by
  rw [splice_eq cs off xs (by omega)]
  by_cases h1 : j < off
  · rw [if_neg (by omega), List.append_assoc, List.getElem?_append_left (by simp; omega), List.getElem?_take_of_lt h1]
  · by_cases h2 : j < off + xs.length
    · rw [if_pos ⟨by omega, h2⟩, List.append_assoc, List.getElem?_append_right (by simp; omega), List.getElem?_append_left (by simp; omega)]
      congr 1
      simp; omega
    · rw [if_neg (by omega), List.getElem?_append_right (by simp; omega), List.getElem?_drop]
      congr 1
      simp; omega

/-- what a write to cells that are owned by one (not immutable, not a box of the frame's fellows) leaves -/
theorem Wrote.ext {n : Nat} {L : Lay} {w w' : World} {rb lo : Nat} {vs : List Value} (h : Wrote w w' rb lo vs) (ho : ∀ j, j < vs.length → L.who rb (lo + j) ≠ .imm) : Ext n L w L w' where
  imm r o hr := ⟨hr, h.out r o fun e => by
    rcases Nat.lt_or_ge o lo with h1 | h1
    · exact .inl h1
    · rcases Nat.lt_or_ge o (lo + vs.length) with h2 | h2
      · subst e
        have := ho (o - lo) (by omega)
        rw [show lo + (o - lo) = o by omega] at this
        exact absurd hr this
      · exact .inr h2⟩
  loc b p _ hp := ⟨hp, fun _ _ h => h, rfl⟩
  fam g F _ hF := ⟨F, hF, .inl rfl⟩

theorem Wrote.keep {L : Lay} {w w' : World} {rb lo s : Nat} {vs : List Value} (h : Wrote w w' rb lo vs) (ho : ∀ j t, j < vs.length → rb < s → L.who rb (lo + j) ≠ .loc t) : KeepLoc s L w L w' := fun r o t hr hl =>
  ⟨hl, h.out r o fun e => by
    rcases Nat.lt_or_ge o lo with h1 | h1
    · exact .inl h1
    · rcases Nat.lt_or_ge o (lo + vs.length) with h2 | h2
      · subst e
        have := ho (o - lo) t (by omega) hr
        rw [show lo + (o - lo) = o by omega] at this
        exact absurd hl this
      · exact .inr h2, h.fro _⟩

theorem Wrote.some {w w' : World} {rb lo : Nat} {vs : List Value} (h : Wrote w w' rb lo vs) {r o : Nat} (hc : ∃ v, w.cell? ⟨r, o, none⟩ = some v) : ∃ v, w'.cell? ⟨r, o, none⟩ = some v := by
  by_cases hr : r = rb ∧ lo ≤ o ∧ o < lo + vs.length
  · obtain ⟨rfl, h1, h2⟩ := hr
    have := List.getElem?_eq_getElem (l := vs) (i := o - lo) (by omega)
    have := h.inn _ _ this
    rw [show lo + (o - lo) = o by omega] at this
    exact ⟨_, this⟩
  · obtain ⟨v, hv⟩ := hc
    exact ⟨v, by rw [h.out r o (fun e => by omega)]; exact hv⟩

theorem Inv.write {glob : Nat → Option AV} {B : Nat} {w0 w w' : World} {L : Lay} {hp : List Blk} (hI : Inv glob B w0 L w hp) {b : Nat} {cs : List AV} (hb : hp[b]? = some (.cells cs))
    {p : Nat × Nat} (hp' : L.loc b = some p) {off : Nat} {xs : List AV} {vs : List Value} (hv : CR hp.length L w xs vs) (hone : ∀ (i : Nat) x, xs[i]? = some x → x.one = true) (hr : off + xs.length ≤ cs.length) (hw : Wrote w w' p.1 (p.2 + off) vs) :
    Inv glob B w0 L w' (hp.set b (.cells (splice cs off xs))) ∧ Ext hp.length L w L w' ∧ ∀ s, KeepLoc s L w L w' := by
  obtain ⟨p', hp1, hlen, hcs⟩ := hI.blks b cs hb
  have : p' = p := by rw [hp'] at hp1; exact (Option.some.inj hp1).symm
  subst this
  have hown : ∀ j, j < vs.length → L.who p'.1 (p'.2 + off + j) = .blk b := fun j hj => by
    have hj' : off + j < cs.length := by rw [hv.1] at hj; omega
    have := (hcs (off + j) _ (List.getElem?_eq_getElem hj')).1
    rw [← Nat.add_assoc] at this; exact this
  have hext : Ext hp.length L w L w' := hw.ext fun j hj => by rw [hown j hj]; simp
  have hkeep : ∀ s, KeepLoc s L w L w' := fun s => hw.keep fun j t hj _ => by rw [hown j hj]; simp
  have hbl : b < hp.length := (List.getElem?_eq_some_iff.1 hb).1
  refine ⟨⟨?_, ?_, ?_, ?_, ?_, ?_, ?_, ?_, ?_, ?_⟩, hext, hkeep⟩
  · exact hw.below B w0 (fun hz => (hI.own _ _ _ (hown 0 (by cases vs <;> simp_all))).1) hI.below
  · rw [hw.size]; exact hI.size
  · intro b2 cs2 h2
    by_cases he : b = b2
    · subst he
      rw [List.getElem?_set_self hbl] at h2
      cases h2
      refine ⟨p', hp1, by rw [splice_length hr]; exact hlen, fun j c hc => ?_⟩
      rw [splice_get hr] at hc
      split at hc
      · rename_i hin
        obtain ⟨rv, hrv⟩ : ∃ rv, vs[j - off]? = some rv := ⟨_, List.getElem?_eq_getElem (by rw [hv.1]; omega)⟩
        have h1 := hown (j - off) (by rw [hv.1]; omega)
        have h2 := hw.inn _ _ hrv
        rw [show p'.2 + off + (j - off) = p'.2 + j by omega] at h1 h2
        exact ⟨h1, hone _ _ hc, rv, h2, by simpa using (hv.2 _ _ _ hc hrv).mono (Nat.le_refl _) hext⟩
      · rename_i hout
        obtain ⟨h1, ho, rv, h2, h3⟩ := hcs j c hc
        refine ⟨h1, ho, rv, ?_, by simpa using h3.mono (Nat.le_refl _) hext⟩
        rw [hw.out _ _ (fun _ => by rw [hv.1]; omega)]; exact h2
    · rw [List.getElem?_set_ne he] at h2
      obtain ⟨q, hq, hql, h3⟩ := hI.blks b2 cs2 h2
      refine ⟨q, hq, hql, fun j c hc => ?_⟩
      obtain ⟨h4, ho, rv, h5, h6⟩ := h3 j c hc
      refine ⟨h4, ho, rv, ?_, by simpa using h6.mono (Nat.le_refl _) hext⟩
      rw [hw.out _ _ (fun e => ?_)]; exact h5
      rcases Nat.lt_or_ge (q.2 + j) (p'.2 + off) with h7 | h7
      · exact .inl h7
      · rcases Nat.lt_or_ge (q.2 + j) (p'.2 + off + vs.length) with h8 | h8
        · have := hown (q.2 + j - (p'.2 + off)) (by omega)
          rw [show p'.2 + off + (q.2 + j - (p'.2 + off)) = q.2 + j by omega, ← e, h4] at this
          exact absurd (Who.blk.inj this).symm he
        · exact .inr h8
  · intro r o b2 h
    obtain ⟨h1, h2, h3⟩ := hI.own r o b2 h
    exact ⟨h1, hw.some h2, by rw [hw.fro]; exact h3⟩
  · intro g m h
    refine hI.fams g m ?_
    by_cases he : b = g
    · subst he; rw [List.getElem?_set_self hbl] at h; cases h
    · rw [List.getElem?_set_ne he] at h; exact h
  · intro r o g h
    obtain ⟨h1, h2, h3⟩ := hI.spare r o g h
    exact ⟨h1, hw.some h2, by rw [hw.fro]; exact h3⟩
  · intro r o h; rw [hw.size] at h; exact hI.fresh r o h
  · intro b2 h; exact hI.noLoc b2 (by simpa using h)
  · intro b2 h; exact hI.noFam b2 (by simpa using h)
  · intro g v h; exact (hI.globs g v h).mono (Nat.le_refl _) (hext.less (Nat.zero_le _))

end Go.Proofs.YtkocimfdgdegfaaGreatDoor.E

namespace Go.Proofs.YtkocimfdgdegfaaGreatDoor.E
open Go Go.RowKit
variable {P : Program} {C : Cfg}

theorem Inv.writeLoc {glob : Nat → Option AV} {B : Nat} {w0 w w' : World} {L : Lay} {hp : List Blk} (hI : Inv glob B w0 L w hp) {rb lo : Nat} {vs : List Value} (hw : Wrote w w' rb lo vs)
    (hl : ∀ j, j < vs.length → ∃ t, L.who rb (lo + j) = .loc t) (hB : B ≤ rb) : Inv glob B w0 L w' hp ∧ Ext hp.length L w L w' := by
  have hext : Ext hp.length L w L w' := hw.ext fun j hj => by obtain ⟨t, ht⟩ := hl j hj; rw [ht]; simp
  have hne : ∀ r o, (∀ t, L.who r o ≠ .loc t) → w'.cell? ⟨r, o, none⟩ = w.cell? ⟨r, o, none⟩ := fun r o h => hw.out r o fun e => by
    rcases Nat.lt_or_ge o lo with h1 | h1
    · exact .inl h1
    · rcases Nat.lt_or_ge o (lo + vs.length) with h2 | h2
      · obtain ⟨t, ht⟩ := hl (o - lo) (by omega)
        rw [show lo + (o - lo) = o by omega, ← e] at ht
        exact absurd ht (h t)
      · exact .inr h2
  refine ⟨⟨hw.below B w0 (fun _ => hB) hI.below, by rw [hw.size]; exact hI.size, ?_, ?_, hI.fams, ?_, ?_, hI.noLoc, hI.noFam, ?_⟩, hext⟩
  · intro b cs hb
    obtain ⟨p, hp1, hql, h2⟩ := hI.blks b cs hb
    refine ⟨p, hp1, hql, fun j c hc => ?_⟩
    obtain ⟨h3, ho, rv, h4, h5⟩ := h2 j c hc
    exact ⟨h3, ho, rv, by rw [hne _ _ (fun t => by rw [h3]; simp)]; exact h4, h5.mono (Nat.le_refl _) hext⟩
  · intro r o b h
    obtain ⟨h1, h2, h3⟩ := hI.own r o b h
    exact ⟨h1, hw.some h2, by rw [hw.fro]; exact h3⟩
  · intro r o g h
    obtain ⟨h1, h2, h3⟩ := hI.spare r o g h
    exact ⟨h1, hw.some h2, by rw [hw.fro]; exact h3⟩
  · intro r o h; rw [hw.size] at h; exact hI.fresh r o h
  · intro g v h; exact (hI.globs g v h).mono (Nat.le_refl _) (hext.less (Nat.zero_le _))

theorem storeAt_ok {B base fl : Nat} {w0 w : World} {L : Lay} {st : St} {rt : Array Value} (hT : TysOK P C) (hI : Inv C.glob B w0 L w st.hp) (hF : FR st.hp.length L w base st.tmps rt) (hBb : B ≤ base)
    {t : TypeId} {tv : TV} {va : Value} {x : AV} {vx : Value} {r : Res} (h : storeAt C fl st t tv x = some r) (ha : OR st.hp.length L w st.tmps rt tv va) (hx : VR st.hp.length L w x vx) :
    ∃ w', (Instr.storeAt t va vx).run P w = .ok () w' ∧ r.val = .sk ∧ Inv C.glob B w0 L w' r.hp ∧ Ext st.hp.length L w L w' ∧ KeepLoc base L w L w' ∧ w.heap.size ≤ w'.heap.size ∧
      st.hp.length ≤ r.hp.length ∧ FR r.hp.length L w' base r.tmps rt := by
  unfold storeAt at h
  cases hti : C.ty t with
  | none => rw [hti] at h; cases h
  | some ti =>
    rw [hti] at h
    obtain ⟨i, d, z, hi, hd, hs, _, hk, -⟩ := (hT t ti hti).ex
    dsimp only at h
    cases hc : (!(x.cells.length == ti.size) || !x.noTup) with
    | true => rw [hc] at h; cases h
    | false =>
      rw [hc, cond_false rfl] at h
      simp only [Bool.or_eq_false_iff, Bool.not_eq_false', beq_iff_eq] at hc
      obtain ⟨hlen, hone⟩ := hc
      have hcr := hx.cells
      have hvs : vx.cells.size = i.size := by have := hcr.1; simp at this; omega
      have hones := hx.ones hone
      have hvone := hcr.allOne hones
      split at h
      · rename_i b off
        split at h
        · rename_i cs hcs
          cases hb : (decide (off + ti.size ≤ cs.length) && decide (fl ≤ b)) with
          | false => rw [hb] at h; cases h
          | true =>
            rw [hb, cond_true rfl] at h
            cases h
            simp only [Bool.and_eq_true, decide_eq_true_eq] at hb
            have hbb := blkCells_eq hcs
            obtain ⟨p, hp1, _, hp2⟩ := hI.blks b cs hbb
            cases ha with
            | ptr _ _ a hbn ha =>
              have := ha p hp1; subst this
              have hthere : ∀ j, j < vx.cells.size → (w.cell? ⟨p.1, p.2 + off + j, none⟩).isSome = true ∧ w.frozen? ⟨p.1, p.2 + off + j, none⟩ = false := fun j hj => by
                have hj' : off + j < cs.length := by omega
                obtain ⟨h1, _, rv, h2, _⟩ := hp2 (off + j) _ (List.getElem?_eq_getElem hj')
                rw [← Nat.add_assoc] at h1 h2
                exact ⟨by rw [h2]; rfl, (hI.own _ _ _ h1).2.2⟩
              have hrun := run_storeVar_any (P := P) (t := t) hi hvs hthere hvone
              have hw := wrote_setCells (w := w) (rb := p.1) (lo := p.2 + off) (vs := vx.cells.toList) (fun j hj => (hthere j (by simpa using hj)).1)
              obtain ⟨h1, h2, h3⟩ := hI.write hbb hp1 hcr hones (by omega) hw
              rw [setAt_eq]
              refine ⟨_, by simpa [Instr.storeAt, Instr.sureAddr] using hrun, rfl, h1, h2, h3 base, Nat.le_of_eq hw.size.symm, by simp, ?_⟩
              rw [List.length_set]
              exact hF.mono (Nat.le_refl _) h2 (h3 _) (Nat.le_of_eq hw.size.symm)
        · cases h
      · rename_i s off
        split at h
        · rename_i cs hcs
          cases hb : decide (off + ti.size ≤ cs.length) with
          | false => rw [hb] at h; cases h
          | true =>
            rw [hb, cond_true rfl] at h
            cases h
            simp only [decide_eq_true_eq] at hb
            have hss := slotCells_eq hcs
            obtain ⟨rb, h1, rfl, _⟩ := ha
            obtain ⟨rb', h1', hbase, hsz, hcells⟩ := hF.slot s _ hss
            have : rb = rb' := by rw [h1] at h1'; cases h1'; rfl
            subst this
            have hthere : ∀ j, j < vx.cells.size → (w.cell? ⟨rb, off + j, none⟩).isSome = true ∧ w.frozen? ⟨rb, off + j, none⟩ = false := fun j hj => by
              have hj' : off + j < cs.length := by omega
              obtain ⟨_, h3, _, rv, h2, _⟩ := hcells (off + j) _ (List.getElem?_eq_getElem hj')
              exact ⟨by rw [h2]; rfl, h3⟩
            have hrun := run_storeVar_any (P := P) (t := t) hi hvs hthere hvone
            have hw := wrote_setCells (w := w) (rb := rb) (lo := off) (vs := vx.cells.toList) (fun j hj => (hthere j (by simpa using hj)).1)
            have hloc : ∀ j, j < vx.cells.toList.length → L.who rb (off + j) = .loc s := fun j hj => by
              have hj' : off + j < cs.length := by simp at hj; omega
              exact (hcells (off + j) _ (List.getElem?_eq_getElem hj')).1
            obtain ⟨k1, k2⟩ := hI.writeLoc hw (fun j hj => ⟨s, hloc j hj⟩) (by omega)
            refine ⟨_, by simpa [Instr.storeAt, Instr.sureAddr] using hrun, rfl, k1, k2, hw.keep (fun j t _ hj => by omega), Nat.le_of_eq hw.size.symm, Nat.le_refl _, ?_⟩
            rw [setAt_eq]
            have hsl : s < st.tmps.length := (List.getElem?_eq_some_iff.1 hss).1
            have hcl : vx.cells.toList.length = x.cells.length := hcr.1
            refine ⟨by simpa using hF.len, fun i y hy => ?_, fun i t o hy => ?_⟩
            · by_cases he : s = i
              · subst he
                rw [List.getElem?_set_self hsl] at hy
                cases hy
                refine ⟨rb, h1, hbase, by rw [hw.size]; exact hsz, fun j c hc => ?_⟩
                rw [splice_get (by omega)] at hc
                split at hc
                · rename_i hin
                  obtain ⟨rv, hrv⟩ : ∃ rv, vx.cells.toList[j - off]? = some rv := ⟨_, List.getElem?_eq_getElem (by omega)⟩
                  have h5 := hloc (j - off) (by omega)
                  have h6 := hw.inn _ _ hrv
                  rw [show off + (j - off) = j by omega] at h5 h6
                  exact ⟨h5, by rw [hw.fro]; exact (by have := (hthere (j - off) (by simp at hcl; omega)).2; rwa [show off + (j - off) = j by omega] at this), hones _ _ hc, rv, h6, (hcr.2 _ _ _ hc hrv).mono (Nat.le_refl _) k2⟩
                · rename_i hout
                  obtain ⟨h5, h6, ho, rv, h7, h8⟩ := hcells j c hc
                  exact ⟨h5, by rw [hw.fro]; exact h6, ho, rv, by rw [hw.out _ _ (fun _ => by omega)]; exact h7, h8.mono (Nat.le_refl _) k2⟩
              · rw [List.getElem?_set_ne he] at hy
                have := hF.slot i y hy
                cases y with
                | junk => trivial
                | sk => exact this
                | v y => exact VR.mono (Nat.le_refl _) k2 this
                | lp t o => exact this
                | bx cs2 =>
                  obtain ⟨rb2, g1, g2, g3, g4⟩ := this
                  refine ⟨rb2, g1, g2, by rw [hw.size]; exact g3, fun j c hc => ?_⟩
                  obtain ⟨g5, g6, go, rv, g7, g8⟩ := g4 j c hc
                  refine ⟨g5, by rw [hw.fro]; exact g6, go, rv, ?_, g8.mono (Nat.le_refl _) k2⟩
                  rw [hw.out _ _ (fun e => ?_)]; exact g7
                  rcases Nat.lt_or_ge j off with h7 | h7
                  · exact .inl h7
                  · rcases Nat.lt_or_ge j (off + vx.cells.toList.length) with h8 | h8
                    · have := hloc (j - off) (by omega)
                      rw [show off + (j - off) = j by omega, ← e, g5] at this
                      exact absurd (Who.loc.inj this).symm he
                    · exact .inr h8
            · by_cases he : s = i
              · subst he; rw [List.getElem?_set_self hsl] at hy; cases hy
              · rw [List.getElem?_set_ne he] at hy
                obtain ⟨cs2, hc2⟩ := hF.root i t o hy
                by_cases he2 : s = t
                · subst he2; exact ⟨_, List.getElem?_set_self hsl⟩
                · exact ⟨cs2, by rw [List.getElem?_set_ne he2]; exact hc2⟩
        · cases h
      · cases h

/-! ### new memory -/
structure Alloc (w w' : World) (c : Array Value) : Prop where
  size : w'.heap.size = w.heap.size + 1
  old : ∀ a : Addr, a.block < w.heap.size → w'.cell? a = w.cell? a ∧ w'.frozen? a = w.frozen? a
  new : ∀ o, w'.cell? ⟨w.heap.size, o, none⟩ = c[o]?
  fro : ∀ o, o < c.size → w'.frozen? ⟨w.heap.size, o, none⟩ = false
  below : ∀ B w0, B ≤ w.heap.size → Below B w0 w → Below B w0 w'

theorem alloc_alloc (w : World) (c : Array Value) (t : TypeId) : Alloc w (w.alloc (.cells c t)) c where
  size := by simp
  old a h := ⟨World.cell?_alloc_lt w _ a h, World.frozen?_alloc_old w _ a (Nat.ne_of_lt h)⟩
  new o := World.cell?_alloc_new w c t o
  fro o _ := World.frozen?_alloc_new w c t o
  below B w0 hB h := h.alloc hB _

theorem cell_lt {w : World} {r o : Nat} (h : ∃ v, w.cell? ⟨r, o, none⟩ = some v) : r < w.heap.size := by
  obtain ⟨v, h⟩ := h; exact World.block_lt_of_cell? w (a := ⟨r, o, none⟩) h

/-- the layout with a new real block -/
def Lay.add (L : Lay) (k : Nat) (W : Nat → Who) : Lay := { L with who := fun r o => if r = k then W o else L.who r o }

theorem Lay.add_ne {L : Lay} {k r o : Nat} {W : Nat → Who} (h : r ≠ k) : (L.add k W).who r o = L.who r o := by simp [Lay.add, h]
theorem Lay.add_eq {L : Lay} {k o : Nat} {W : Nat → Who} : (L.add k W).who k o = W o := by simp [Lay.add]

theorem Inv.lt {glob : Nat → Option AV} {B : Nat} {w0 w : World} {L : Lay} {hp : List Blk} (hI : Inv glob B w0 L w hp) {r o : Nat} (h : L.who r o ≠ .none) : r < w.heap.size := by
  rcases Nat.lt_or_ge r w.heap.size with h1 | h1
  · exact h1
  · exact absurd (hI.fresh r o h1) h

theorem Alloc.ext {glob : Nat → Option AV} {B : Nat} {w0 : World} {hp : List Blk} {n : Nat} {L L' : Lay} {w w' : World} {c : Array Value} (hI : Inv glob B w0 L w hp) (h : Alloc w w' c)
    (hwho : ∀ r o, r ≠ w.heap.size → L'.who r o = L.who r o) (hloc : ∀ b, b < n → L'.loc b = L.loc b ∧ L'.ext b = L.ext b) (hfam : ∀ b, b < n → L'.fam b = L.fam b) :
    Ext n L w L' w' ∧ ∀ s, KeepLoc s L w L' w' := by
  have same : ∀ r o, L.who r o ≠ .none → L'.who r o = L.who r o ∧ w'.cell? ⟨r, o, none⟩ = w.cell? ⟨r, o, none⟩ ∧ w'.frozen? ⟨r, o, none⟩ = w.frozen? ⟨r, o, none⟩ := fun r o hr => by
    have := hI.lt hr
    exact ⟨hwho r o (by omega), (h.old ⟨r, o, none⟩ this).1, (h.old ⟨r, o, none⟩ this).2⟩
  refine ⟨⟨fun r o hr => ?_, fun b p hb hp => ?_, fun g F hg hF => ?_⟩, fun s r o t _ hl => ?_⟩
  · obtain ⟨h1, h2, _⟩ := same r o (by rw [hr]; simp); exact ⟨h1.trans hr, h2⟩
  · rw [(hloc b hb).1] at hp
    exact ⟨hp, fun r o hr => by obtain ⟨h1, _, _⟩ := same r o (by rw [hr]; simp); exact h1.trans hr, (hloc b hb).2⟩
  · rw [hfam g hg] at hF; exact ⟨F, hF, .inl rfl⟩
  · obtain ⟨h1, h2, h3⟩ := same r o (by rw [hl]; simp); exact ⟨h1.trans hl, h2, h3⟩

/-- A new real block whose cells are owned by no block of the heap's: the heap stands. -/
theorem Inv.addRow {glob : Nat → Option AV} {B : Nat} {w0 : World} {hp : List Blk} {L : Lay} {w w' : World} {c : Array Value} (hI : Inv glob B w0 L w hp) (h : Alloc w w' c) (W : Nat → Who)
    (hW : ∀ o, (∀ b, W o ≠ .blk b) ∧ (∀ g, W o ≠ .spare g)) : Inv glob B w0 (L.add w.heap.size W) w' hp ∧ Ext hp.length L w (L.add w.heap.size W) w' ∧ ∀ s, KeepLoc s L w (L.add w.heap.size W) w' := by
  obtain ⟨he, hk⟩ := h.ext (L' := L.add w.heap.size W) (n := hp.length) hI (fun r o hr => Lay.add_ne hr) (fun _ _ => ⟨rfl, rfl⟩) (fun _ _ => rfl)
  have who : ∀ r o, r < w.heap.size → (L.add w.heap.size W).who r o = L.who r o := fun r o hr => Lay.add_ne (by omega)
  refine ⟨⟨h.below B w0 hI.size hI.below, by have := hI.size; rw [h.size]; omega, ?_, ?_, ?_, ?_, ?_, hI.noLoc, hI.noFam, ?_⟩, he, hk⟩
  · intro b cs hb
    obtain ⟨p, hp1, hql, h2⟩ := hI.blks b cs hb
    refine ⟨p, hp1, hql, fun j c hc => ?_⟩
    obtain ⟨h3, ho, rv, h4, h5⟩ := h2 j c hc
    have hlt := cell_lt ⟨rv, h4⟩
    exact ⟨(who _ _ hlt).trans h3, ho, rv, ((h.old ⟨p.1, p.2 + j, none⟩ hlt).1).trans h4, h5.mono (Nat.le_refl _) he⟩
  · intro r o b hr
    by_cases hn : r = w.heap.size
    · subst hn; rw [Lay.add_eq] at hr; exact absurd hr ((hW o).1 b)
    · rw [Lay.add_ne hn] at hr
      obtain ⟨h1, ⟨v, h2⟩, h3⟩ := hI.own r o b hr
      have hlt := cell_lt ⟨v, h2⟩
      exact ⟨h1, ⟨v, ((h.old ⟨r, o, none⟩ hlt).1).trans h2⟩, ((h.old ⟨r, o, none⟩ hlt).2).trans h3⟩
  · intro g m hg
    obtain ⟨F, h1, h2, h3, h4, h5⟩ := hI.fams g m hg
    refine ⟨F, h1, h2, h3, h4, fun j hj1 hj2 => ?_⟩
    have := h5 j hj1 hj2
    exact (who _ _ (hI.lt (by rw [this]; simp))).trans this
  · intro r o g hr
    by_cases hn : r = w.heap.size
    · subst hn; rw [Lay.add_eq] at hr; exact absurd hr ((hW o).2 g)
    · rw [Lay.add_ne hn] at hr
      obtain ⟨h1, ⟨v, h2⟩, h3⟩ := hI.spare r o g hr
      have hlt := cell_lt ⟨v, h2⟩
      exact ⟨h1, ⟨v, ((h.old ⟨r, o, none⟩ hlt).1).trans h2⟩, ((h.old ⟨r, o, none⟩ hlt).2).trans h3⟩
  · intro r o hr
    rw [h.size] at hr
    have hrn : r ≠ w.heap.size := by omega
    rw [Lay.add_ne hrn]
    exact hI.fresh r o (by omega)
  · intro g v hg; exact (hI.globs g v hg).mono (Nat.le_refl _) (he.less (Nat.zero_le _))

/-- A new block of the heap's. -/
theorem Inv.addBlk {glob : Nat → Option AV} {B : Nat} {w0 : World} {hp : List Blk} {L : Lay} {w w' : World} {c : Array Value} {cs : List AV} (hI : Inv glob B w0 L w hp) (h : Alloc w w' c)
    (hc : ∀ (j : Nat) x, cs[j]? = some x → x.one = true ∧ ∃ v, c[j]? = some v ∧ VR hp.length L w x v) :
    ∃ L', L'.loc hp.length = some (w.heap.size, 0) ∧ L'.ext hp.length = cs.length ∧ (∀ o, o < c.size → L'.who w.heap.size o = .blk hp.length) ∧
      Inv glob B w0 L' w' (hp ++ [.cells cs]) ∧ Ext hp.length L w L' w' ∧ ∀ s, KeepLoc s L w L' w' := by
  let L' : Lay := { L.add w.heap.size (fun o => if o < c.size then .blk hp.length else .none) with loc := fun b => if b = hp.length then some (w.heap.size, 0) else L.loc b, ext := fun b => if b = hp.length then cs.length else L.ext b }
  have who : ∀ r o, r < w.heap.size → L'.who r o = L.who r o := fun r o hr => by
    have hrn : r ≠ w.heap.size := Nat.ne_of_lt hr
    exact if_neg hrn
  have whoN : ∀ o, L'.who w.heap.size o = if o < c.size then .blk hp.length else .none := fun o => if_pos rfl
  obtain ⟨he, hk⟩ := h.ext (L' := L') (n := hp.length) hI (fun r o hr => if_neg hr) (fun b hb => ⟨if_neg (by omega), if_neg (by omega)⟩) (fun _ _ => rfl)
  have hlen : (hp ++ [Blk.cells cs]).length = hp.length + 1 := by simp
  refine ⟨L', if_pos rfl, if_pos rfl, fun o ho => (whoN o).trans (if_pos ho), ⟨h.below B w0 hI.size hI.below, by have := hI.size; rw [h.size]; omega, ?_, ?_, ?_, ?_, ?_, ?_, ?_, ?_⟩, he, hk⟩
  · intro b cs2 hb
    rw [hlen]
    by_cases hbn : b = hp.length
    · subst hbn
      rw [List.getElem?_append_right (Nat.le_refl _)] at hb
      simp at hb
      subst hb
      refine ⟨(w.heap.size, 0), if_pos rfl, if_pos rfl, fun j x hx => ?_⟩
      obtain ⟨ho, v, hv, hr⟩ := hc j x hx
      have hj : j < c.size := (Array.getElem?_eq_some_iff.1 hv).1
      refine ⟨?_, ho, v, ?_, hr.mono (by omega) he⟩
      · show L'.who w.heap.size (0 + j) = _
        rw [whoN, Nat.zero_add, if_pos hj]
      · rw [Nat.zero_add]; exact (h.new j).trans hv
    · have hb' : hp[b]? = some (.cells cs2) := by
        rw [← hb, List.getElem?_append_left]
        have := (List.getElem?_eq_some_iff.1 hb).1
        rw [hlen] at this; omega
      obtain ⟨p, hp1, hql, h2⟩ := hI.blks b cs2 hb'
      refine ⟨p, by show (if b = hp.length then _ else _) = _; rw [if_neg hbn]; exact hp1, by show (if b = hp.length then _ else _) = _; rw [if_neg hbn]; exact hql, fun j x hx => ?_⟩
      obtain ⟨h3, ho, rv, h4, h5⟩ := h2 j x hx
      have hlt := cell_lt ⟨rv, h4⟩
      exact ⟨(who _ _ hlt).trans h3, ho, rv, ((h.old ⟨p.1, p.2 + j, none⟩ hlt).1).trans h4, h5.mono (by omega) he⟩
  · intro r o b hr
    by_cases hn : r = w.heap.size
    · subst hn
      rw [whoN] at hr
      split at hr
      · rename_i ho
        refine ⟨hI.size, ⟨c[o], by rw [h.new]; simp [ho]⟩, h.fro o ho⟩
      · cases hr
    · have hr' : L.who r o = .blk b := by rw [← hr]; exact (if_neg hn).symm
      obtain ⟨h1, ⟨v, h2⟩, h3⟩ := hI.own r o b hr'
      have hlt := cell_lt ⟨v, h2⟩
      exact ⟨h1, ⟨v, ((h.old ⟨r, o, none⟩ hlt).1).trans h2⟩, ((h.old ⟨r, o, none⟩ hlt).2).trans h3⟩
  · intro g m hg
    have hg' : hp[g]? = some (.fam m) := by
      have hlt := (List.getElem?_eq_some_iff.1 hg).1
      rw [hlen] at hlt
      by_cases hgn : g = hp.length
      · subst hgn; rw [List.getElem?_append_right (Nat.le_refl _)] at hg; simp at hg
      · rw [← hg, List.getElem?_append_left]; omega
    obtain ⟨F, h1, h2, h3, h4, h5⟩ := hI.fams g m hg'
    refine ⟨F, h1, h2, h3, h4, fun j hj1 hj2 => ?_⟩
    have := h5 j hj1 hj2
    exact (who _ _ (hI.lt (by rw [this]; simp))).trans this
  · intro r o g hr
    by_cases hn : r = w.heap.size
    · subst hn
      rw [whoN] at hr
      split at hr <;> cases hr
    · have hr' : L.who r o = .spare g := by rw [← hr]; exact (if_neg hn).symm
      obtain ⟨h1, ⟨v, h2⟩, h3⟩ := hI.spare r o g hr'
      have hlt := cell_lt ⟨v, h2⟩
      exact ⟨h1, ⟨v, ((h.old ⟨r, o, none⟩ hlt).1).trans h2⟩, ((h.old ⟨r, o, none⟩ hlt).2).trans h3⟩
  · intro r o hr
    rw [h.size] at hr
    have hrn : r ≠ w.heap.size := by omega
    have : L'.who r o = L.who r o := if_neg hrn
    rw [this]
    exact hI.fresh r o (by omega)
  · intro b hb
    rw [hlen] at hb
    show (if b = hp.length then _ else _) = _
    rw [if_neg (by omega)]
    exact hI.noLoc b (by omega)
  · intro b hb; rw [hlen] at hb; exact hI.noFam b (by omega)
  · intro g v hg; exact (hI.globs g v hg).mono (Nat.le_refl _) (he.less (Nat.zero_le _))

end Go.Proofs.YtkocimfdgdegfaaGreatDoor.E
