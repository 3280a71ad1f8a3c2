/- The abstract machine, its compiler, and what an abstract value says of one of the model. -/
import GoSem.Step
import Derived.Orders
import Derived.Deep.MidRow
import Derived.Deep.AppendSrc
import Derived.Below
import Derived.RowKit
import Derived.IntWalk
import Derived.Laws.Cover1
import Derived.Laws.Cover3
import Derived.Laws.StructEq
import Derived.Laws.Strings
import Derived.Lib.Strings
import Derived.Great.FillDense
import Derived.Laws.Tables
import Derived.Lib.UnsafeStr
set_option linter.unusedVariables false
set_option linter.unusedSimpArgs false
set_option autoImplicit false
namespace Den
open Go

/-- a whole number, perhaps a linear term over named ones -/
inductive SI where
  | c (n : Int)
  | l (k : Int) (ts : List (Nat × Int))
  deriving Inhabited

inductive Ref where
  | ptr (b off : Nat)
  | nilptr
  | nilsl
  | hsl (z b off n cap : Nat)
  | mapn
  | mapr (b : Nat)
  | nilfunc
  | niliface
  deriving Inhabited
inductive Hd where
  | agg
  | tup
  | eptr (off : Nat)
  | sdp (tok st : Nat)
  | vsl (z tok st : Nat) (xc : Option Nat)
  | func (f n : Nat)
  deriving Inhabited
inductive AV where
  | int (k : IntKind) (n : SI)
  | bool (b : Bool)
  | str (l : List Nat)
  | ref (r : Ref)
  | lst (h : Hd) (xs : List AV)
  deriving Inhabited

inductive Tr (α : Type) where
  | leaf
  | node (l : Tr α) (v : Option α) (r : Tr α)
  deriving Inhabited
def Tr.get {α : Type} : Tr α → Nat → Option α
  | .leaf, _ => none
  | .node l v r, i => match i with
    | 0 => v
    | j + 1 => match j % 2 with | 0 => l.get (j / 2) | _ => r.get (j / 2)
def Tr.lft {α : Type} : Tr α → Tr α | .leaf => .leaf | .node l _ _ => l
def Tr.rgt {α : Type} : Tr α → Tr α | .leaf => .leaf | .node _ _ r => r
def Tr.top {α : Type} : Tr α → Option α | .leaf => none | .node _ v _ => v
def Tr.set {α : Type} : Nat → Tr α → Nat → Option α → Tr α
  | 0, t, _, _ => t
  | f + 1, t, i, x => match i with
    | 0 => .node t.lft x t.rgt
    | j + 1 => match j % 2 with
      | 0 => .node (Tr.set f t.lft (j / 2) x) t.top t.rgt
      | _ => .node t.lft t.top (Tr.set f t.rgt (j / 2) x)
def Tr.put {α : Type} (t : Tr α) (i : Nat) (x : α) : Tr α := Tr.set (i + 1) t i (some x)
def Tr.del {α : Type} (t : Tr α) (i : Nat) : Tr α := Tr.set (i + 1) t i none

inductive AObj where
  | cells (cs : List AV)
  | bld (t : Nat) (cs : List AV)
  | map (es : List (AV × AV × Nat)) (clock : Nat)
  | miter (m : Option Nat) (since : Nat) (seen : List Nat) (last : Nat)
  deriving Inhabited

structure St where
  nb : Nat
  blk : Tr AObj
  nt : Nat
  top : Tr Nat
  deriving Inhabited

inductive D8 where
  | d0 | d1 | d2 | d3 | d4 | d5 | d6 | d7
  deriving Inhabited, DecidableEq
structure Slot where
  i : D8
  j : D8
  k : D8
  deriving Inhabited, DecidableEq
structure E1 where
  (a b c d e f g h : AV)
  deriving Inhabited
structure E2 where
  (a b c d e f g h : E1)
  deriving Inhabited
structure EnvR where
  (b c d e f g h : E2)
  deriving Inhabited
structure Env where
  a : E2
  r : EnvR
  deriving Inhabited
def E1.at (x : E1) : D8 → AV
  | .d0 => x.a | .d1 => x.b | .d2 => x.c | .d3 => x.d | .d4 => x.e | .d5 => x.f | .d6 => x.g | .d7 => x.h
def E2.at (x : E2) : D8 → E1
  | .d0 => x.a | .d1 => x.b | .d2 => x.c | .d3 => x.d | .d4 => x.e | .d5 => x.f | .d6 => x.g | .d7 => x.h
def Env.at (x : Env) : D8 → E2
  | .d0 => x.a | .d1 => x.r.b | .d2 => x.r.c | .d3 => x.r.d | .d4 => x.r.e | .d5 => x.r.f | .d6 => x.r.g | .d7 => x.r.h
def E1.to (x : E1) (v : AV) : D8 → E1
  | .d0 => { x with a := v } | .d1 => { x with b := v } | .d2 => { x with c := v } | .d3 => { x with d := v }
  | .d4 => { x with e := v } | .d5 => { x with f := v } | .d6 => { x with g := v } | .d7 => { x with h := v }
def E2.to (x : E2) (v : E1) : D8 → E2
  | .d0 => { x with a := v } | .d1 => { x with b := v } | .d2 => { x with c := v } | .d3 => { x with d := v }
  | .d4 => { x with e := v } | .d5 => { x with f := v } | .d6 => { x with g := v } | .d7 => { x with h := v }
def Env.to (x : Env) (v : E2) : D8 → Env
  | .d0 => { x with a := v } | .d1 => { x with r := { x.r with b := v } } | .d2 => { x with r := { x.r with c := v } } | .d3 => { x with r := { x.r with d := v } }
  | .d4 => { x with r := { x.r with e := v } } | .d5 => { x with r := { x.r with f := v } } | .d6 => { x with r := { x.r with g := v } } | .d7 => { x with r := { x.r with h := v } }
def Env.get (e : Env) (s : Slot) : AV := ((e.at s.i).at s.j).at s.k
def Env.put (e : Env) (s : Slot) (v : AV) : Env := e.to ((e.at s.i).to (((e.at s.i).at s.j).to v s.k) s.j) s.i
def E1.empty : E1 := ⟨.lst .tup [], .lst .tup [], .lst .tup [], .lst .tup [], .lst .tup [], .lst .tup [], .lst .tup [], .lst .tup []⟩
def E2.empty : E2 := ⟨.empty, .empty, .empty, .empty, .empty, .empty, .empty, .empty⟩
def Env.empty : Env := ⟨.empty, ⟨.empty, .empty, .empty, .empty, .empty, .empty, .empty⟩⟩

inductive Opd where
  | t (s : Slot)
  | k (v : AV)
  | f (id : Nat)
  deriving Inhabited
def Opd.ev (e : Env) : Opd → AV
  | .t s => e.get s
  | .k v => v
  | .f id => .lst (.func id 0) []

def cellsOf : AV → List AV | .lst .agg cs => cs | v => [v]
def cellsQ : AV → Option (List AV) | .lst .agg cs => some cs | .lst .tup _ => none | v => some [v]

/-- kinds of plain cells -/
inductive CK where
  | int (k : IntKind)
  | str
  | bool
  deriving Inhabited
/-- a key's type: a struct of such cells, or one -/
structure KT where
  ag : Bool
  ks : List CK
  deriving Inhabited
/-- what is held against nil, or as bools -/
inductive EQ where
  | b | p | s | m | f
  deriving Inhabited
inductive POp where
  | mov (x : Opd)
  | nilchk (x : Opd)
  | pick (c a b : Opd)
  | build (z : List AV) (parts : List (Nat × Nat × Opd))
  | bin (op : BinOp) (x y : Opd)
  | eqx (neg : Bool) (c : EQ) (x y : Opd)
  | eqa (neg : Bool) (ks : List CK) (x y : Opd)
  | un (op : UnOp) (x : Opd)
  | cvti (k : IntKind) (x : Opd)
  | cvtss (x : Opd)
  | mkf (f : Nat) (first cap : List Opd)
  | slc (z : Nat) (x : Opd) (lo hi mx : Option Opd)
  | fld (off : Nat) (x : Opd)
  | fldv (ag : Bool) (n off : Nat) (x : Opd)
  | idx (z : Nat) (x i : Opd)
  | idxa (n z : Nat) (x i : Opd)
  | idxs (x i : Opd)
  | idxv (ag : Bool) (n z : Nat) (x i : Opd)
  | ext (x : Opd) (i : Nat)
  | lenS (x : Opd)
  | lenT (x : Opd)
  | lenA (n : Nat)
  | minI (x : Opd) (xs : List Opd)
  | maxI (x : Opd) (xs : List Opd)
  | sdat (x : Opd)
  deriving Inhabited
inductive ROp where
  | ld (ag : Bool) (n : Nat) (a : Opd)
  | lkp (kt : KT) (ok : Bool) (z : AV) (m k : Opd)
  | ent (it : Opd)
  | lenM (x : Opd)
  | cvts (x : Opd)
  deriving Inhabited
inductive AOp where
  | alloc (z : List AV)
  | allocT (t : Nat) (z : List AV)
  | box (n : Nat) (x : Opd)
  | bsl (heap ag : Bool) (u z len : Nat) (zero : List AV) (parts : List (Nat × Opd))
  | cvtb (x : Opd)
  | mkm
  | mks (heap ag : Bool) (u z : Nat) (zero : List AV) (len cap : Opd)
  deriving Inhabited
inductive EOp where
  | st (n : Nat) (a x : Opd)
  | mup (kt : KT) (m k x : Opd)
  | ment (kt : KT) (z : AV) (m k : Opd)
  | mst (m st x : Opd)
  | nxt (it : Opd)
  | app (heap ag : Bool) (u z : Nat) (x y : Opd)
  | del (kt : KT) (m k : Opd)
  | clr (z : Nat) (zero : List AV) (x : Opd)
  | ustr (x n : Opd)
  | rng (x : Opd)
  deriving Inhabited

abbrev Gd := Option (Slot × Bool)
inductive DStep where
  | p (d : Slot) (g : Gd) (o : POp)
  | r (d : Slot) (g : Gd) (o : ROp)
  | a (d : Slot) (g : Gd) (o : AOp)
  | e (d : Option Slot) (g : Gd) (o : EOp)
  | call (d : Option Slot) (g : Gd) (f : Opd) (args : List Opd)
  | chk (d : Slot) (g : Gd) (o : ROp)
  deriving Inhabited
inductive DC where
  | skip
  | seq (a b : DC)
  | cond (c : Opd) (a b : DC)
  | block (id : Nat) (b : DC)
  | loop (b : DC)
  | exit (id : Nat)
  | ret
  | reg (l : List DStep)
  deriving Inhabited
inductive Res where
  | tmp (t : Slot)
  | cell (a : Slot) (ag : Bool) (n : Nat)
  deriving Inhabited
structure Fn where
  body : DC
  res : List Res
  deriving Inhabited

/-! ### numbers -/
def minI64 : Int := -9223372036854775808
def Int.lt' : Int → Int → Bool
  | .ofNat a, .ofNat b => Nat.ble (a + 1) b
  | .ofNat _, .negSucc _ => false
  | .negSucc _, .ofNat _ => true
  | .negSucc a, .negSucc b => Nat.ble (b + 1) a
def Int.eq' : Int → Int → Bool
  | .ofNat a, .ofNat b => Nat.beq a b
  | .ofNat _, .negSucc _ => false
  | .negSucc _, .ofNat _ => false
  | .negSucc a, .negSucc b => Nat.beq a b
def wrapC (k : IntKind) (n : Int) : Int :=
  match k, n with
  | .i64, .ofNat m => match Nat.ble m 9223372036854775807 with | true => .ofNat m | false => k.wrap n
  | .i64, .negSucc m => match Nat.ble m 9223372036854775807 with | true => .negSucc m | false => k.wrap n
  | .u8, .ofNat m => .ofNat (m % 256)
  | .u16, .ofNat m => .ofNat (m % 65536)
  | .u64, .ofNat m => .ofNat (m % 18446744073709551616)
  | _, _ => k.wrap n
def unsC (k : IntKind) (n : Int) : Option Nat := match n with
  | .ofNat m => some m
  | .negSucc _ => none
def iop (op : BinOp) (k : IntKind) (a b : Int) : Option AV :=
  match op with
  | .add => some (.int k (.c (wrapC k (a + b))))
  | .sub => some (.int k (.c (wrapC k (a - b))))
  | .mul => some (.int k (.c (wrapC k (a * b))))
  | .quo => if b = 0 then none else some (.int k (.c (wrapC k (a.tdiv b))))
  | .rem => if b = 0 then none else some (.int k (.c (a.tmod b)))
  | .and => match a, b with
    | .ofNat x, .ofNat y => some (.int k (.c (wrapC k (.ofNat (Nat.land x y)))))
    | _, _ => some (.int k (.c (k.wrap (BitVec.ofInt k.bits a &&& BitVec.ofInt k.bits b).toNat)))
  | .or => match a, b with
    | .ofNat x, .ofNat y => some (.int k (.c (wrapC k (.ofNat (Nat.lor x y)))))
    | _, _ => some (.int k (.c (k.wrap (BitVec.ofInt k.bits a ||| BitVec.ofInt k.bits b).toNat)))
  | .xor => some (.int k (.c (k.wrap (BitVec.ofInt k.bits a ^^^ BitVec.ofInt k.bits b).toNat)))
  | .eql => some (.bool (Int.eq' a b))
  | .neq => some (.bool (!Int.eq' a b))
  | .lss => some (.bool (Int.lt' a b))
  | .leq => some (.bool (!Int.lt' b a))
  | .gtr => some (.bool (Int.lt' b a))
  | .geq => some (.bool (!Int.lt' a b))
  | .shl => match b with | .ofNat n => some (.int k (.c (wrapC k (a * (.ofNat (2 ^ (min n k.bits))))))) | .negSucc _ => none
  | .shr => match a, b with
    | .ofNat m, .ofNat n => some (.int k (.c (.ofNat (m / 2 ^ (min n k.bits)))))
    | a, .ofNat n => some (.int k (.c (a.fdiv (2 ^ (min n k.bits)))))
    | _, .negSucc _ => none
  | _ => none
/-! ### named numbers: each has its own greatest value -/
def symHi (s : Nat) : Int := .ofNat (s % 18446744073709551616)
def SI.k : SI → Int | .c n => n | .l k _ => k
def SI.ts : SI → List (Nat × Int) | .c _ => [] | .l _ ts => ts
def mkS (k : Int) (ts : List (Nat × Int)) : SI := match ts with | [] => .c k | _ => .l k ts
def insT (s : Nat) (c : Int) : List (Nat × Int) → List (Nat × Int)
  | [] => [(s, c)]
  | (s', c') :: r => if s = s' then (if c + c' = 0 then r else (s', c + c') :: r) else if s < s' then (s, c) :: (s', c') :: r else (s', c') :: insT s c r
def addT (a : List (Nat × Int)) : List (Nat × Int) → List (Nat × Int)
  | [] => a
  | (s, c) :: r => insT s c (addT a r)
def scT (m : Int) : List (Nat × Int) → List (Nat × Int)
  | [] => []
  | (s, c) :: r => (s, m * c) :: scT m r
def loT : List (Nat × Int) → Int
  | [] => 0
  | (s, c) :: r => (if c < 0 then c * symHi s else 0) + loT r
def hiT : List (Nat × Int) → Int
  | [] => 0
  | (s, c) :: r => (if c < 0 then 0 else c * symHi s) + hiT r
def SI.lo (x : SI) : Int := x.k + loT x.ts
def SI.hi (x : SI) : Int := x.k + hiT x.ts
def addS (a b : SI) : SI := mkS (a.k + b.k) (addT a.ts b.ts)
def scS (m : Int) (a : SI) : SI := if m = 0 then .c 0 else mkS (m * a.k) (scT m a.ts)
def subS (a b : SI) : SI := mkS (a.k - b.k) (addT a.ts (scT (-1) b.ts))
def inK (k : IntKind) (x : SI) : Bool := decide (k.min ≤ x.lo) && decide (x.hi ≤ k.max)
def fitK (k : IntKind) (x : SI) : Option AV := match inK k x with | true => some (.int k x) | false => none
def splitT (p : Int) : List (Nat × Int) → List (Nat × Int) × List (Nat × Int)
  | [] => ([], [])
  | (s, c) :: r => let q := splitT p r; if c % p = 0 then ((s, c / p) :: q.1, q.2) else (q.1, (s, c) :: q.2)
/-- quotient and rest by a number -/
def splitS (p : Int) (x : SI) : Option (SI × SI) :=
  let q := splitT p x.ts
  let r := mkS (x.k % p) q.2
  if 0 < p ∧ 0 ≤ r.lo ∧ r.hi < p then some (mkS (x.k / p) q.1, r) else none
def cmpLt (a b : SI) : Option Bool :=
  let d := subS a b
  if d.hi < 0 then some true else if 0 ≤ d.lo then some false else none
def cmpEq (a b : SI) : Option Bool :=
  let d := subS a b
  match d with
  | .c n => some (Int.eq' n 0)
  | .l _ _ => if d.hi < 0 ∨ 0 < d.lo then some false else none
def boolO (neg : Bool) : Option Bool → Option AV
  | some b => some (.bool (match neg with | true => !b | false => b))
  | none => none
def orS (k : IntKind) (x y : SI) : Option AV :=
  let n := y.hi.toNat.log2 + 1
  match splitS (2 ^ n) x with
  | some (_, .c (.ofNat 0)) => if 0 ≤ x.lo ∧ 0 ≤ y.lo ∧ y.hi < 2 ^ n then fitK k (addS x y) else none
  | _ => none
def symI (op : BinOp) (k : IntKind) (a b : SI) : Option AV :=
  match op with
  | .add => fitK k (addS a b)
  | .sub => fitK k (subS a b)
  | .mul => match a, b with
    | a, .c m => fitK k (scS m a)
    | .c m, b => fitK k (scS m b)
    | _, _ => none
  | .quo => match b with
    | .c p => if 0 ≤ a.lo then match splitS p a with | some (q, _) => fitK k q | none => none else none
    | _ => none
  | .rem => match b with
    | .c p => if 0 ≤ a.lo then match splitS p a with | some (_, r) => some (.int k r) | none => none else none
    | _ => none
  | .and => match b with
    | .c (.ofNat m) => if m + 1 = 2 ^ m.log2 * 2 ∧ m.log2 + 1 ≤ k.bits then match splitS (.ofNat (m + 1)) a with | some (_, r) => fitK k r | none => none else none
    | _ => none
  | .or => match orS k a b with | some v => some v | none => orS k b a
  | .eql => boolO false (cmpEq a b)
  | .neq => boolO true (cmpEq a b)
  | .lss => boolO false (cmpLt a b)
  | .leq => boolO true (cmpLt b a)
  | .gtr => boolO false (cmpLt b a)
  | .geq => boolO true (cmpLt a b)
  | .shl => match b with | .c (.ofNat n) => if n < k.bits then fitK k (scS (2 ^ n) a) else none | _ => none
  | .shr => match b with | .c (.ofNat n) => if n < k.bits then match splitS (2 ^ n) a with | some (q, _) => some (.int k q) | none => none else none | _ => none
  | _ => none
def iopS (op : BinOp) (k : IntKind) (a b : SI) : Option AV :=
  match a, b with
  | .c a, .c b => iop op k a b
  | a, b => symI op k a b
def cvtS (k : IntKind) (x : SI) : Option AV := match inK k x with
  | true => some (.int k x)
  | false => match k.signed with
    | true => none
    | false => match splitS (2 ^ k.bits) x with | some (_, r) => some (.int k r) | none => none
/-! ### a string's bytes: a number above 255 stands for a sum of named ones -/
def decT : Nat → Nat → List (Nat × Int)
  | 0, _ => []
  | f + 1, m => if m = 0 then [] else (m % 79228162514264337593543950336, 1) :: decT f (m / 79228162514264337593543950336)
def decB (n : Nat) : SI := match Nat.ble n 255 with
  | true => .c (.ofNat n)
  | false => mkS (.ofNat ((n - 256) % 256)) (decT 4 ((n - 256) / 256))
def encT : List (Nat × Int) → Nat
  | [] => 0
  | (s, _) :: r => s + 79228162514264337593543950336 * encT r
def sameT : List (Nat × Int) → List (Nat × Int) → Bool
  | [], [] => true
  | (s, c) :: x, (s', c') :: y => Nat.beq s s' && (Int.eq' c c' && sameT x y)
  | _, _ => false
def sameS : SI → SI → Bool
  | .c a, .c b => Int.eq' a b
  | .l a x, .l b y => Int.eq' a b && sameT x y
  | _, _ => false
def encB : SI → Option Nat
  | .c (.ofNat n) => match Nat.ble n 255 with | true => some n | false => none
  | .c _ => none
  | .l k ts => let n := 256 + (k.toNat + 256 * encT ts)
    if 0 ≤ (SI.l k ts).lo ∧ (SI.l k ts).hi ≤ 255 ∧ sameS (decB n) (.l k ts) = true then some n else none
def natV : AV → Option Nat
  | .int _ (.c (.ofNat n)) => some n
  | _ => none

def natV64 : AV → Option Nat
  | .int .i64 (.c (.ofNat n)) => some n
  | _ => none

def len {α : Type} : List α → Nat
  | [] => 0
  | _ :: l => len l + 1
/-! ### strings -/
def strEq : List Nat → List Nat → Bool
  | [], [] => true
  | a :: x, b :: y => match Nat.beq a b with | true => strEq x y | false => false
  | _, _ => false
/-- are two bytes the same? -/
def byteEq (a b : Nat) : Option Bool := match Nat.beq a b with
  | true => some true
  | false => match Nat.ble a 255 && Nat.ble b 255 with
    | true => some false
    | false => cmpEq (decB a) (decB b)
def strEqQ : List Nat → List Nat → Option Bool
  | [], [] => some true
  | a :: x, b :: y => match byteEq a b with
    | some true => strEqQ x y
    | some false => some false
    | none => match strEqQ x y with | some false => some false | _ => none
  | _, _ => some false
def byteLt (a b : Nat) : Option Bool := match Nat.ble a 255 && Nat.ble b 255 with
  | true => some (Nat.ble (a + 1) b)
  | false => cmpLt (decB a) (decB b)
def strLtQ : List Nat → List Nat → Option Bool
  | _, [] => some false
  | [], _ :: _ => some true
  | a :: x, b :: y => match byteEq a b with
    | some true => strLtQ x y
    | some false => byteLt a b
    | none => none
def sop (op : BinOp) (x y : List Nat) : Option AV :=
  match op with
  | .add => match Nat.ble (len x + len y) 9223372036854775807 with | true => some (.str (x ++ y)) | false => none
  | .eql => boolO false (strEqQ x y)
  | .neq => boolO true (strEqQ x y)
  | .lss => boolO false (strLtQ x y)
  | .leq => boolO true (strLtQ y x)
  | .gtr => boolO false (strLtQ y x)
  | .geq => boolO true (strLtQ x y)
  | _ => none
def bytesOf : List AV → Option (List Nat)
  | [] => some []
  | .int .u8 x :: r => match encB x with
    | some n => match bytesOf r with | some l => some (n :: l) | none => none
    | none => none
  | _ => none
def ofBytes : List Nat → List AV
  | [] => []
  | n :: l => .int .u8 (decB n) :: ofBytes l

/-! ### equality -/
def eqK1 (c : CK) (x y : AV) : Option Bool :=
  match c, x, y with
  | .int k, .int k1 a, .int k2 b => match k1 == k, k2 == k with
    | true, true => (match a, b with | .c a, .c b => some (Int.eq' a b) | a, b => cmpEq a b)
    | _, _ => none
  | .str, .str a, .str b => strEqQ a b
  | .bool, .bool a, .bool b => some (a == b)
  | _, _, _ => none
def eqK : List CK → List AV → List AV → Option Bool
  | [], [], [] => some true
  | c :: cs, a :: as, b :: bs => match eqK1 c a b with
    | some true => eqK cs as bs
    | some false => some false
    | none => none
  | _, _, _ => none
def keyEq (kt : KT) (x y : AV) : Option Bool :=
  match kt.ag with
  | true => match x, y with
    | .lst .agg a, .lst .agg b => eqK kt.ks a b
    | _, _ => none
  | false => match kt.ks with
    | [c] => eqK1 c x y
    | _ => none
def eqX (c : EQ) (x y : AV) : Option Bool :=
  match c with
  | .b => match x, y with | .bool a, .bool b => some (a == b) | _, _ => none
  | .p => match x, y with
    | .ref .nilptr, .ref .nilptr => some true
    | .ref .nilptr, .ref (.ptr _ _) => some false
    | .ref (.ptr _ _), .ref .nilptr => some false
    | .ref .nilptr, .lst (.eptr _) _ => some false
    | .lst (.eptr _) _, .ref .nilptr => some false
    | _, _ => none
  | .s => match x, y with
    | .ref .nilsl, .ref .nilsl => some true
    | .lst (.vsl _ _ _ _) _, .ref .nilsl => some false
    | .ref (.hsl _ _ _ _ _), .ref .nilsl => some false
    | _, _ => none
  | .m => match x, y with
    | .ref .mapn, .ref .mapn => some true
    | .ref (.mapr _), .ref .mapn => some false
    | _, _ => none
  | .f => match x, y with
    | .ref .nilfunc, .ref .nilfunc => some true
    | .lst (.func _ _) _, .ref .nilfunc => some false
    | _, _ => none
def negO (neg : Bool) (r : Option Bool) : Option AV :=
  match r with
  | some b => some (.bool (match neg with | true => !b | false => b))
  | none => none
def bop (op : BinOp) (x y : AV) : Option AV :=
  match x, y with
  | .int k a, .int k' b => match k == k' with | true => iopS op k a b | false => match op with | .shl => iopS op k a b | .shr => iopS op k a b | _ => none
  | .str a, .str b => sop op a b
  | _, _ => none
def uop (op : UnOp) (x : AV) : Option AV :=
  match op, x with
  | .not, .bool b => some (.bool (!b))
  | .neg, .int k (.c n) => some (.int k (.c (wrapC k (0 - n))))
  | .xor, .int k (.c n) => iop .xor k (if k.signed then -1 else k.max) n
  | _, _ => none

/-! ### lists of cells -/
def nth {α : Type} : List α → Nat → Option α
  | [], _ => none
  | a :: l, n => match n with | 0 => some a | m + 1 => nth l m
def tk {α : Type} : Nat → List α → List α
  | 0, _ => []
  | _ + 1, [] => []
  | n + 1, a :: l => a :: tk n l
def dr {α : Type} : Nat → List α → List α
  | 0, l => l
  | _ + 1, [] => []
  | n + 1, _ :: l => dr n l
def rd (ag : Bool) (n : Nat) (cs : List AV) (off : Nat) : Option AV :=
  match ag with
  | false => nth cs off
  | true => let r := tk n (dr off cs); match Nat.beq (len r) n with | true => some (.lst .agg r) | false => none
/-- the cells from an offset on are written over; none: they are not there -/
def ovr : List AV → List AV → Option (List AV)
  | cs, [] => some cs
  | [], _ :: _ => none
  | _ :: cs, v :: vs => match ovr cs vs with | some r => some (v :: r) | none => none
def setAt : List AV → Nat → List AV → Option (List AV)
  | cs, 0, vs => ovr cs vs
  | [], _ + 1, _ => none
  | c :: cs, n + 1, vs => match setAt cs n vs with | some r => some (c :: r) | none => none
def flat : List AV → List AV
  | [] => []
  | x :: l => cellsOf x ++ flat l
/-- cells as elements -/
def elems (ag : Bool) (z : Nat) : Nat → List AV → Option (List AV)
  | 0, _ => some []
  | n + 1, cs => match rd ag z cs 0 with
    | some x => match elems ag z n (dr z cs) with | some r => some (x :: r) | none => none
    | none => none
def cellsAt (s : St) (b : Nat) : Option (List AV) := match s.blk.get b with | some (.cells cs) => some cs | some (.bld _ cs) => some cs | _ => none
def itemsOf (s : St) (ag : Bool) (z : Nat) : AV → Option (List AV)
  | .ref .nilsl => some []
  | .lst (.vsl z' _ _ _) xs => match Nat.beq z z' with | true => some xs | false => none
  | .str l => match Nat.beq z 1 with | true => some (ofBytes l) | false => none
  | .ref (.hsl z' b off n _) => match Nat.beq z z' with
    | true => match cellsAt s b with | some cs => elems ag z n (dr off cs) | none => none
    | false => none
  | _ => none
def setBlk (s : St) (b : Nat) (o : AObj) : St := { s with blk := s.blk.put b o }
def newBlk (s : St) (o : AObj) : St := { s with nb := s.nb + 1, blk := s.blk.put s.nb o }
def newTok (s : St) (u n : Nat) : St := { s with nt := s.nt + 2, top := s.top.put (s.nt + u) n }
def mkSl (heap : Bool) (u : Nat) (s : St) (z : Nat) (xs : List AV) (xc : Option Nat) : AV × St :=
  match heap with
  | true => let n := len xs; (.ref (.hsl z s.nb 0 n n), newBlk s (.cells (flat xs)))
  | false => (.lst (.vsl z (s.nt + u) 0 xc) xs, newTok s u (len xs))
def isE {α : Type} : List α → Bool | [] => true | _ => false

/-! ### the operations -/
def evs (e : Env) : List Opd → List AV
  | [] => []
  | x :: l => x.ev e :: evs e l
def evo (e : Env) : Option Opd → Option (Option Nat)
  | none => some none
  | some x => match natV (x.ev e) with | some n => some (some n) | none => none
/-- bounds: (low, high, max) -/
def bnds (n cap : Nat) (lo hi mx : Option Nat) : Option (Nat × Nat × Nat) :=
  let m := match mx with | some m => m | none => cap
  let h := match hi with | some h => h | none => n
  let l := match lo with | some l => l | none => 0
  match Nat.ble m cap, Nat.ble h m, Nat.ble l h with
  | true, true, true => some (l, h, m)
  | _, _, _ => none
def slcV (z : Nat) (x : AV) (lo hi mx : Option Nat) : Option AV :=
  match z with
  | 0 => match x with
    | .str s => match mx with
      | none => match bnds (len s) (len s) lo hi none with
        | some (l, h, _) => some (.str (tk (h - l) (dr l s)))
        | none => none
      | some _ => none
    | _ => none
  | z + 1 => match x with
    | .ref .nilsl => match bnds 0 0 lo hi mx with | some _ => some (.ref .nilsl) | none => none
    | .lst (.vsl z' tok st xc) xs => match Nat.beq (z + 1) z' with
      | true => match bnds (len xs) (len xs) lo hi mx with
        | some (l, h, m) => some (.lst (.vsl (z + 1) tok (st + l) (match mx with | some _ => some (m - l) | none => match xc with | some c => some (c - l) | none => none)) (tk (h - l) (dr l xs)))
        | none => none
      | false => none
    | .ref (.hsl z' b off n cap) => match Nat.beq (z + 1) z' with
      | true => match bnds n cap lo hi mx with
        | some (l, h, m) => some (.ref (.hsl (z + 1) b (off + l * (z + 1)) (h - l) (m - l)))
        | none => none
      | false => none
    | _ => none
def fillP (e : Env) (cs : List AV) : List (Nat × Nat × Opd) → Option (List AV)
  | [] => some cs
  | (off, n, x) :: r => match cellsQ (x.ev e) with
    | some vs => match Nat.beq (len vs) n with
      | true => match setAt cs off vs with | some cs => fillP e cs r | none => none
      | false => none
    | none => none
def ltS (a b : SI) : Option Bool := match a, b with
  | .c a, .c b => some (Int.lt' a b)
  | a, b => cmpLt a b
def minL (m : SI) : List AV → Option SI
  | [] => some m
  | .int _ n :: r => match ltS n m with | some true => minL n r | some false => minL m r | none => none
  | _ => none
def maxL (m : SI) : List AV → Option SI
  | [] => some m
  | .int _ n :: r => match ltS m n with | some true => maxL n r | some false => maxL m r | none => none
  | _ => none
def evP (e : Env) : POp → Option AV
  | .mov x => some (x.ev e)
  | .nilchk x => match x.ev e with
    | .ref .nilptr | .ref .niliface | .ref .nilfunc => none
    | v => some v
  | .pick c a b => match c.ev e with
    | .bool true => some (a.ev e)
    | .bool false => some (b.ev e)
    | _ => none
  | .build z parts => match fillP e z parts with | some cs => some (.lst .agg cs) | none => none
  | .bin op x y => bop op (x.ev e) (y.ev e)
  | .eqx neg c x y => negO neg (eqX c (x.ev e) (y.ev e))
  | .eqa neg ks x y => match x.ev e, y.ev e with
    | .lst .agg a, .lst .agg b => negO neg (eqK ks a b)
    | _, _ => none
  | .un op x => uop op (x.ev e)
  | .cvti k x => match x.ev e with | .int _ n => (match n with | .c n => some (.int k (.c (wrapC k n))) | n => cvtS k n) | _ => none
  | .cvtss x => match x.ev e with | .str l => some (.str l) | _ => none
  | .mkf f a b => some (.lst (.func f (len (evs e a))) (evs e a ++ evs e b))
  | .slc z x lo hi mx => match evo e lo, evo e hi, evo e mx with
    | some lo, some hi, some mx => slcV z (x.ev e) lo hi mx
    | _, _, _ => none
  | .fld off x => match x.ev e with
    | .ref (.ptr b o) => some (.ref (.ptr b (o + off)))
    | .lst (.eptr o) cs => some (.lst (.eptr (o + off)) cs)
    | _ => none
  | .fldv ag n off x => match x.ev e with | .lst .agg cs => rd ag n cs off | _ => none
  | .idx z x i => match x.ev e, natV (i.ev e) with
    | .lst (.vsl z' _ _ _) xs, some i => match Nat.beq z z' with
      | true => match nth xs i with | some v => some (.lst (.eptr 0) (cellsOf v)) | none => none
      | false => none
    | .ref (.hsl z' b off n _), some i => match Nat.beq z z', Nat.ble (i + 1) n with
      | true, true => some (.ref (.ptr b (off + i * z)))
      | _, _ => none
    | _, _ => none
  | .idxa n z x i => match x.ev e, natV (i.ev e) with
    | .ref (.ptr b o), some i => match Nat.ble (i + 1) n with | true => some (.ref (.ptr b (o + i * z))) | false => none
    | .lst (.eptr o) b, some i => match Nat.ble (i + 1) n with | true => some (.lst (.eptr (o + i * z)) b) | false => none
    | _, _ => none
  | .idxs x i => match x.ev e, natV (i.ev e) with
    | .str l, some i => match nth l i with | some c => some (.int .u8 (decB c)) | none => none
    | _, _ => none
  | .idxv ag n z x i => match x.ev e, natV (i.ev e) with
    | .lst .agg cs, some i => match Nat.ble (i + 1) n with | true => rd ag z cs (i * z) | false => none
    | _, _ => none
  | .ext x i => match x.ev e with | .lst .tup vs => nth vs i | _ => none
  | .lenT x => match x.ev e with
    | .str l => some (.int .i64 (.c (.ofNat (len l))))
    | _ => none
  | .lenS x => match x.ev e with
    | .ref .nilsl => some (.int .i64 (.c (.ofNat 0)))
    | .lst (.vsl _ _ _ _) xs => some (.int .i64 (.c (.ofNat (len xs))))
    | .ref (.hsl _ _ _ n _) => some (.int .i64 (.c (.ofNat n)))
    | _ => none
  | .lenA n => some (.int .i64 (.c (.ofNat n)))
  | .minI x xs => match x.ev e with
    | .int .i64 n => match minL n (evs e xs) with | some m => some (.int .i64 m) | none => none
    | _ => none
  | .sdat x => match x.ev e with
    | .ref .nilsl => some (.ref .nilptr)
    | .lst (.vsl _ tok st _) (y :: ys) => some (.lst (.sdp tok st) (flat (y :: ys)))
    | _ => none
  | .maxI x xs => match x.ev e with
    | .int .i64 n => match maxL n (evs e xs) with | some m => some (.int .i64 m) | none => none
    | _ => none

def findE (kt : KT) (k : AV) : List (AV × AV × Nat) → Nat → Option (Option (Nat × AV × Nat))
  | [], _ => some none
  | (k', v, b) :: es, i => match keyEq kt k k' with
    | some true => some (some (i, v, b))
    | some false => findE kt k es (i + 1)
    | none => none
def keyOk (kt : KT) (k : AV) : Bool :=
  match kt.ag with
  | true => match k with | .lst .agg cs => Nat.beq (len cs) (len kt.ks) | _ => false
  | false => true
def findK (kt : KT) (k : AV) (es : List (AV × AV × Nat)) : Option (Option (Nat × AV × Nat)) := match keyOk kt k with
  | true => findE kt k es 0
  | false => none
def entries (s : St) (b : Nat) : Option (List (AV × AV × Nat) × Nat) := match s.blk.get b with | some (.map es cl) => some (es, cl) | _ => none
def lastN : List Nat → Option Nat
  | [] => none
  | a :: l => match l with | [] => some a | _ => lastN l
def byBorn (n : Nat) : List (AV × AV × Nat) → Option (AV × AV)
  | [] => none
  | (k, v, m) :: es => match Nat.beq m n with | true => some (k, v) | false => byBorn n es
def lkpE (s : St) (kt : KT) (m k : AV) : Option (Option (Nat × AV × Nat)) := match m with
  | .ref .mapn => findK kt k []
  | .ref (.mapr b) => match entries s b with
    | some (es, _) => findK kt k es
    | none => none
  | _ => none
def evR (e : Env) (s : St) : ROp → Option AV
  | .ld ag n a => match a.ev e with
    | .ref (.ptr b off) => match cellsAt s b with | some cs => rd ag n cs off | none => none
    | .lst (.eptr off) cs => rd ag n cs off
    | _ => none
  | .lkp kt ok z m k =>
    match lkpE s kt (m.ev e) (k.ev e) with
    | some (some (_, v, _)) => some (match ok with | true => .lst .tup [v, .bool true] | false => v)
    | some none => some (match ok with | true => .lst .tup [z, .bool false] | false => z)
    | none => none
  | .ent it => match it.ev e with
    | .ref (.ptr b 0) => match s.blk.get b with
      | some (.miter (some m) _ seen last) => match entries s m, lastN seen with
        | some (es, cl), some n => match Nat.beq cl last with
          | true => match byBorn n es with | some (k, v) => some (.lst .tup [k, v]) | none => none
          | false => none
        | _, _ => none
      | _ => none
    | _ => none
  | .lenM x => match x.ev e with
    | .ref .mapn => some (.int .i64 (.c (.ofNat 0)))
    | .ref (.mapr b) => match entries s b with | some (es, _) => some (.int .i64 (.c (.ofNat (len es)))) | none => none
    | _ => none
  | .cvts x => match x.ev e with
    | .ref .nilsl => some (.str [])
    | .lst (.vsl 1 _ _ _) xs => match bytesOf xs with | some l => some (.str l) | none => none
    | .ref (.hsl 1 b off n _) => match cellsAt s b with
      | some cs => match elems false 1 n (dr off cs) with
        | some xs => match bytesOf xs with | some l => some (.str l) | none => none
        | none => none
      | none => none
    | _ => none

def rep (n : Nat) (z : List AV) : List AV := match n with | 0 => [] | n + 1 => z ++ rep n z
def fillE (e : Env) (z : Nat) (cs : List AV) : List (Nat × Opd) → Option (List AV)
  | [] => some cs
  | (i, x) :: r => match cellsQ (x.ev e) with
    | some vs => match Nat.beq (len vs) z with
      | true => match setAt cs (i * z) vs with | some cs => fillE e z cs r | none => none
      | false => none
    | none => none
/-- what is made anew -/
inductive Made where
  | cells (cs : List AV)
  | cellsT (t : Nat) (cs : List AV)
  | map
  | sl (heap : Bool) (u z : Nat) (xs : List AV) (xc : Option Nat)
  deriving Inhabited
def made (e : Env) : AOp → Option Made
  | .alloc z => some (.cells z)
  | .allocT t z => some (.cellsT t z)
  | .box _ x => match cellsQ (x.ev e) with
    | some cs => some (.cells cs)
    | none => none
  | .bsl heap ag u z n zero parts => match fillE e z (rep n zero) parts with
    | some cs => match elems ag z n cs with
      | some xs => some (.sl heap u z xs (some n))
      | none => none
    | none => none
  | .cvtb x => match x.ev e with
    | .str l => some (.sl true 0 1 (ofBytes l) none)
    | _ => none
  | .mkm => some .map
  | .mks heap ag u z zero n c => match natV (n.ev e), natV (c.ev e) with
    | some n, some c => match Nat.beq n c, Nat.ble n 16777216 with
      | true, true => match elems ag z n (rep n zero) with
        | some xs => some (.sl heap u z xs (some n))
        | none => none
      | _, _ => none
    | _, _ => none
def Made.put (s : St) : Made → AV × St
  | .cells cs => (.ref (.ptr s.nb 0), newBlk s (.cells cs))
  | .cellsT t cs => (.ref (.ptr s.nb 0), newBlk s (.bld t cs))
  | .map => (.ref (.mapr s.nb), newBlk s (.map [] 0))
  | .sl heap u z xs xc => mkSl heap u s z xs xc
def evA (e : Env) (s : St) (o : AOp) : Option (AV × St) := match made e o with
  | some m => some (m.put s)
  | none => none

def lenV : AV → Nat
  | .lst _ xs => len xs
  | .ref (.hsl _ _ _ n _) => n
  | _ => 0
def appV (heap ag : Bool) (u z : Nat) (s : St) (x y : AV) : Option (AV × St) :=
  match itemsOf s ag z y with
  | none => none
  | some ys => match Nat.ble (lenV x + len ys) 16777216 with
   | false => none
   | true => match x with
    | .ref .nilsl => match ys with | [] => some (.ref .nilsl, s) | _ => some (mkSl heap u s z ys none)
    | .lst (.vsl z' tok st xc) xs => match Nat.beq z z' with
      | false => none
      | true => match ys with
        | [] => some (x, s)
        | _ => match xc with
          | some c => match Nat.ble (len xs + len ys) c with | true => none | false => some (mkSl heap u s z (xs ++ ys) none)
          | none => match s.top.get tok with
            | some t => match Nat.beq t (st + len xs) && Nat.beq (tok % 2) u with
              | true => some (.lst (.vsl z tok st none) (xs ++ ys), { s with top := s.top.put tok (t + len ys) })
              | false => none
            | none => none
    | .ref (.hsl z' b off n cap) => match Nat.beq z z' with
      | false => none
      | true => match ys with
        | [] => some (x, s)
        | _ => match cellsAt s b with
          | none => none
          | some cs =>
            let m := n + len ys
            match Nat.ble m cap with
            | true => match setAt cs (off + n * z) (flat ys) with
              | some cs => some (.ref (.hsl z b off m cap), setBlk s b (.cells cs))
              | none => none
            | false => match off, Nat.beq (len cs) (n * z) with
              | 0, true => some (.ref (.hsl z s.nb 0 m m), newBlk { s with blk := s.blk.del b } (.cells (cs ++ flat ys)))
              | _, _ => none
    | _ => none
def modE (i : Nat) (x : AV) : List (AV × AV × Nat) → List (AV × AV × Nat)
  | [] => []
  | (k, v, n) :: es => match i with | 0 => (k, x, n) :: es | j + 1 => (k, v, n) :: modE j x es
def delE (i : Nat) : List (AV × AV × Nat) → List (AV × AV × Nat)
  | [] => []
  | a :: es => match i with | 0 => es | j + 1 => a :: delE j es
def setBorn (n : Nat) (x : AV) : List (AV × AV × Nat) → Option (List (AV × AV × Nat))
  | [] => none
  | (k, v, m) :: es => match Nat.beq m n with
    | true => some ((k, x, m) :: es)
    | false => match setBorn n x es with | some r => some ((k, v, m) :: r) | none => none
def memN (n : Nat) : List Nat → Bool
  | [] => false
  | m :: l => match Nat.beq m n with | true => true | false => memN n l
def unseen (seen : List Nat) : List (AV × AV × Nat) → List (AV × AV × Nat)
  | [] => []
  | (k, v, n) :: es => match memN n seen with | true => unseen seen es | false => (k, v, n) :: unseen seen es
def allFrom (n : Nat) : List (AV × AV × Nat) → Bool
  | [] => true
  | (_, _, m) :: es => match Nat.ble n m with | true => allFrom n es | false => false
def evE (e : Env) (s : St) : EOp → Option (AV × St)
  | .st n a x => match a.ev e with
    | .ref (.ptr b off) => match cellsAt s b with
      | some cs => match cellsQ (x.ev e) with
        | some vs => match Nat.beq (len vs) n with
          | true => match setAt cs off vs with | some cs => some (.lst .tup [], setBlk s b (.cells cs)) | none => none
          | false => none
        | none => none
      | none => none
    | _ => none
  | .mup kt m k x => match m.ev e with
    | .ref (.mapr b) => match entries s b with
      | some (es, cl) => match findK kt (k.ev e) es with
        | some (some (i, _, _)) => some (.lst .tup [], setBlk s b (.map (modE i (x.ev e) es) cl))
        | some none => some (.lst .tup [], setBlk s b (.map (es ++ [(k.ev e, x.ev e, cl)]) (cl + 1)))
        | none => none
      | none => none
    | _ => none
  | .ment kt z m k => match m.ev e with
    | .ref (.mapr b) => match entries s b with
      | some (es, cl) => match findK kt (k.ev e) es with
        | some (some (_, v, n)) => some (.lst .tup [v, .int .i64 (.c (.ofNat n))], s)
        | some none => some (.lst .tup [z, .int .i64 (.c (.ofNat cl))], setBlk s b (.map (es ++ [(k.ev e, z, cl)]) (cl + 1)))
        | none => none
      | none => none
    | _ => none
  | .mst m st x => match m.ev e, natV (st.ev e) with
    | .ref (.mapr b), some n => match entries s b with
      | some (es, cl) => match setBorn n (x.ev e) es with
        | some es => some (.lst .tup [], setBlk s b (.map es cl))
        | none => none
      | none => none
    | _, _ => none
  | .nxt it => match it.ev e with
    | .ref (.ptr b 0) => match s.blk.get b with
      | some (.miter none _ _ _) => some (.lst .tup [.bool false], s)
      | some (.miter (some m) since seen last) => match entries s m with
        | some (es, cl) => match !isE seen && !isE es && allFrom last es with
          | true => none
          | false => match unseen seen es with
            | [] => some (.lst .tup [.bool false], s)
            | [(k, v, n)] => match Nat.ble (n + 1) since with
              | true => some (.lst .tup [.bool true, k, v], setBlk s b (.miter (some m) since (seen ++ [n]) cl))
              | false => none
            | _ => none
        | none => none
      | _ => none
    | _ => none
  | .app heap ag u z x y => appV heap ag u z s (x.ev e) (y.ev e)
  | .del kt m k => match m.ev e with
    | .ref (.mapr b) => match entries s b with
      | some (es, cl) => match findK kt (k.ev e) es with
        | some (some (i, _, _)) => some (.lst .tup [], setBlk s b (.map (delE i es) cl))
        | some none => some (.lst .tup [], s)
        | none => none
      | none => none
    | _ => none
  | .clr z zero x => match x.ev e with
    | .ref .nilsl => some (.lst .tup [], s)
    | .ref (.hsl z' b off n _) => match Nat.beq z z' with
      | true => match n with
        | 0 => some (.lst .tup [], s)
        | _ => match cellsAt s b with
          | some cs => match setAt cs off (rep n zero) with
            | some cs => some (.lst .tup [], setBlk s b (.cells cs))
            | none => none
          | none => none
      | false => none
    | _ => none
  | .ustr x n => match x.ev e, natV64 (n.ev e) with
    | .ref .nilptr, some 0 => some (.str [], s)
    | .lst (.sdp tok 0) cs, some n => match Nat.beq (len cs) n && Nat.ble n 16777216 && Nat.beq (tok % 2) 1, cs with
      | true, _ :: _ => match bytesOf cs with | some l => some (.str l, s) | none => none
      | _, _ => none
    | _, _ => none
  | .rng x => match x.ev e with
    | .ref .mapn => some (.ref (.ptr s.nb 0), newBlk s (.miter none 0 [] 0))
    | .ref (.mapr m) => match entries s m with
      | some (_, cl) => some (.ref (.ptr s.nb 0), newBlk s (.miter (some m) cl [] cl))
      | none => none
    | _ => none

/-! ### code -/
inductive Ex where
  | normal
  | exit (id : Nat)
  | ret
  deriving Inhabited
inductive R where
  | no
  | ok (x : Ex) (e : Env) (s : St)
  deriving Inhabited
inductive RC where
  | no
  | ok (v : AV) (s : St)
  deriving Inhabited
def wants (e : Env) : Gd → Bool
  | none => true
  | some (d, w) => match e.get d with | .bool b => b == w | _ => false
def putO (e : Env) : Option Slot → AV → Env
  | some d, v => e.put d v
  | none, _ => e
def sameR : Ref → Ref → Bool
  | .ptr a b, .ptr c d => Nat.beq a c && Nat.beq b d
  | .nilptr, .nilptr => true
  | .nilsl, .nilsl => true
  | .hsl a b c d e, .hsl a' b' c' d' e' => Nat.beq a a' && Nat.beq b b' && Nat.beq c c' && Nat.beq d d' && Nat.beq e e'
  | .mapn, .mapn => true
  | .mapr a, .mapr b => Nat.beq a b
  | .nilfunc, .nilfunc => true
  | .niliface, .niliface => true
  | _, _ => false
def sameO : Option Nat → Option Nat → Bool
  | none, none => true
  | some a, some b => Nat.beq a b
  | _, _ => false
def sameH : Hd → Hd → Bool
  | .agg, .agg => true
  | .tup, .tup => true
  | .eptr a, .eptr b => Nat.beq a b
  | .sdp a c, .sdp b d => Nat.beq a b && Nat.beq c d
  | .vsl a b c x, .vsl a' b' c' x' => Nat.beq a a' && Nat.beq b b' && Nat.beq c c' && sameO x x'
  | .func a b, .func c d => Nat.beq a c && Nat.beq b d
  | _, _ => false
mutual
def sameV : AV → AV → Bool
  | .int k a, .int k' b => (k == k') && sameS a b
  | .bool a, .bool b => a == b
  | .str a, .str b => strEq a b
  | .ref a, .ref b => sameR a b
  | .lst h a, .lst h' b => sameH h h' && sameL a b
  | _, _ => false
def sameL : List AV → List AV → Bool
  | [], [] => true
  | a :: x, b :: y => sameV a b && sameL x y
  | _, _ => false
end
def steps (call : Nat → List AV → St → RC) : List DStep → Env → St → R
  | [], e, s => .ok .normal e s
  | st :: l, e, s => match st with
    | .p d g o => match wants e g with
      | true => match evP e o with | some v => steps call l (e.put d v) s | none => .no
      | false => steps call l (e.put d (.lst .tup [])) s
    | .r d g o => match wants e g with
      | true => match evR e s o with | some v => steps call l (e.put d v) s | none => .no
      | false => steps call l (e.put d (.lst .tup [])) s
    | .a d g o => match wants e g with
      | true => match evA e s o with | some (v, s) => steps call l (e.put d v) s | none => .no
      | false => steps call l (e.put d (.lst .tup [])) s
    | .e d g o => match wants e g with
      | true => match evE e s o with | some (v, s) => steps call l (putO e d v) s | none => .no
      | false => steps call l (putO e d (.lst .tup [])) s
    | .call d g f args => match wants e g with
      | true => match f.ev e with
        | .lst (.func f n) xs => match call f (tk n xs ++ (evs e args ++ dr n xs)) s with | .ok v s => steps call l (putO e d v) s | .no => .no
        | _ => .no
      | false => steps call l (putO e d (.lst .tup [])) s
    | .chk d g o => match wants e g with
      | true => match evR e s o with
        | some v => match sameV v (e.get d) with | true => steps call l e s | false => .no
        | none => .no
      | false => steps call l e s
def slots : List Slot := [⟨.d0, .d0, .d0⟩, ⟨.d0, .d0, .d1⟩, ⟨.d0, .d0, .d2⟩, ⟨.d0, .d0, .d3⟩, ⟨.d0, .d0, .d4⟩, ⟨.d0, .d0, .d5⟩, ⟨.d0, .d0, .d6⟩, ⟨.d0, .d0, .d7⟩,
  ⟨.d0, .d1, .d0⟩, ⟨.d0, .d1, .d1⟩, ⟨.d0, .d1, .d2⟩, ⟨.d0, .d1, .d3⟩, ⟨.d0, .d1, .d4⟩, ⟨.d0, .d1, .d5⟩, ⟨.d0, .d1, .d6⟩, ⟨.d0, .d1, .d7⟩]
def mkEnv : List AV → List Slot → Env → Option Env
  | [], _, e => some e
  | v :: l, d :: ds, e => mkEnv l ds (e.put d v)
  | _ :: _, [], _ => none
def resV (e : Env) (s : St) : Res → Option AV
  | .tmp t => some (e.get t)
  | .cell a ag n => match e.get a with
    | .ref (.ptr b off) => match cellsAt s b with | some cs => rd ag n cs off | none => none
    | _ => none
def resVs (e : Env) (s : St) : List Res → Option (List AV)
  | [] => some []
  | r :: l => match resV e s r with
    | some v => match resVs e s l with | some vs => some (v :: vs) | none => none
    | none => none
abbrev Call := Nat → List AV → St → RC
def tupV : List AV → AV
  | [v] => v
  | vs => .lst .tup vs
def loopN (f : Env → St → R) : Nat → Env → St → R
  | 0, _, _ => .no
  | n + 1, e, s => match f e s with
    | .ok .normal e s => loopN f n e s
    | r => r
def exC (C : Call) (n : Nat) : DC → Env → St → R
  | .skip, e, s => .ok .normal e s
  | .seq a b, e, s => match exC C n a e s with
    | .ok .normal e s => exC C n b e s
    | r => r
  | .cond c a b, e, s => match c.ev e with
    | .bool true => exC C n a e s
    | .bool false => exC C n b e s
    | _ => .no
  | .block id b, e, s => match exC C n b e s with
    | .ok (.exit i) e s => match Nat.beq i id with | true => .ok .normal e s | false => .ok (.exit i) e s
    | r => r
  | .loop b, e, s => loopN (exC C n b) n e s
  | .exit i, e, s => .ok (.exit i) e s
  | .ret, e, s => .ok .ret e s
  | .reg l, e, s => steps C l e s
def endC (res : List Res) : R → RC
  | .no => .no
  | .ok x e s => match x with
    | .exit _ => .no
    | _ => match resVs e s res with
      | some vs => .ok (tupV vs) s
      | none => .no
def bodyC (C : Call) (n : Nat) (fn : Fn) (args : List AV) (s : St) : RC := match mkEnv args slots .empty with
  | some e => endC fn.res (exC C n fn.body e s)
  | none => .no
def callD (tbl : Nat → Option Fn) (nat : Nat → Option (List AV → St → RC)) (n : Nat) : Nat → Call
  | 0, _, _, _ => .no
  | d + 1, f, args, s => match nat f with
    | some g => g args s
    | none => match tbl f with
      | some fn => bodyC (callD tbl nat n d) n fn args s
      | none => .no
def st0 : St := { nb := 0, blk := .leaf, nt := 0, top := .leaf }
def isTrue : RC → Bool
  | .ok (.bool b) _ => b
  | _ => false
end Den

set_option autoImplicit false
set_option linter.unusedVariables false
namespace Den
open Go

def conv0 : Value → Option AV
  | .int k n => some (.int k (.c n))
  | .bool b => some (.bool b)
  | .string s => some (.str (s.data.toList.map (·.toNat)))
  | .pointer none => some (.ref .nilptr)
  | .slice none 0 0 => some (.ref .nilsl)
  | .map none => some (.ref .mapn)
  | .nilFunc => some (.ref .nilfunc)
  | .nilIface => some (.ref .niliface)
  | .func (.func f) a b => match a.toList, b.toList with | [], [] => some (.lst (.func f 0) []) | _, _ => none
  | _ => none
def consO {α : Type} : Option α → Option (List α) → Option (List α)
  | some a, some l => some (a :: l)
  | _, _ => none
def convs : List Value → Option (List AV)
  | [] => some []
  | v :: l => consO (conv0 v) (convs l)
def convV : Value → Option AV
  | .agg cs => match convs cs.toList with | some l => some (.lst .agg l) | none => none
  | .tuple cs => match cs.toList with | [] => some (.lst .tup []) | _ => none
  | v => conv0 v

structure Ti where
  ag : Bool
  n : Nat
  z : AV

section
variable (P : Program) (U : TypeId)
def isAggD : TypeDesc → Bool | .struct _ => true | .array _ _ => true | _ => false
def tyAg (t : TypeId) : Option Bool := (P.underlying t).map isAggD
def tySz (t : TypeId) : Option Nat := (P.info? t).map (·.size)
def notTup : AV → Option AV | .lst .tup _ => none | v => some v
def tyZero (t : TypeId) : Option AV := match P.info? t with | some i => (match i.zero with | some z => (match convV z with | some v => notTup v | none => none) | none => none) | none => none
def dig (n : Nat) : D8 := match n with | 0 => .d0 | 1 => .d1 | 2 => .d2 | 3 => .d3 | 4 => .d4 | 5 => .d5 | 6 => .d6 | _ => .d7
def slot (n : Nat) : Option Slot := if n < 512 then some ⟨dig (n / 64), dig (n / 8 % 8), dig (n % 8)⟩ else none
def cOpd : Operand → Option Opd
  | .tmp t => (slot t).map .t
  | .const v => (convV v).map .k
  | .func f => some (.f f)
  | .global _ => none
def cOpds : List Operand → Option (List Opd)
  | [] => some []
  | v :: l => consO (cOpd v) (cOpds l)
def cOpdO : Option Operand → Option (Option Opd)
  | none => some none
  | some x => (cOpd x).map some
def kindsGo (rec : TypeId → Option (List CK)) : List Field → Nat → Option (List CK)
  | [], _ => some []
  | f :: fs, off => match rec f.type with
    | none => none
    | some ks => if f.name = "_" ∨ f.offset ≠ off ∨ P.cellsOf f.type ≠ ks.length then none else
      match kindsGo rec fs (off + ks.length) with
      | some r => some (ks ++ r)
      | none => none
def kinds : Nat → TypeId → Option (List CK)
  | 0, _ => none
  | d + 1, t => match P.underlying t with
    | some (.int k) => some [.int k]
    | some .string => some [.str]
    | some .bool => some [.bool]
    | some (.struct fs) => if P.stoodInHeld t = true then none else kindsGo P (kinds d) fs.toList 0
    | _ => none
def keyTy (t : TypeId) : Option KT := do
  let ks ← kinds P 6 t
  pure { ag := ← tyAg P t, ks := ks }
def slcZ (t : TypeId) : Option Nat := match P.underlying t with
  | some (.slice e) => (match tySz P e with | some (z + 1) => some (z + 1) | _ => none)
  | some .string => some 0
  | _ => none
/-- a slice's elements: aggregates?, cells -/
def elemSh (e : TypeId) : Option (Bool × Nat) := match tyAg P e, tySz P e with
  | some true, some (z + 1) => some (true, z + 1)
  | some false, some 1 => some (false, 1)
  | _, _ => none
def elemZ (e : TypeId) : Option (List AV) := match tyZero P e, tySz P e with
  | some z, some n => if (cellsOf z).length = n then some (cellsOf z) else none
  | _, _ => none
inductive K where
  | p (o : POp) | r (o : ROp) | a (o : AOp) | e (o : EOp) | call (f : Opd) (args : List Opd)
  deriving Inhabited
def fieldsOf (t : TypeId) : Option (Array Field) := match P.underlying t with | some (.struct fs) => some fs | _ => none
/-- a byte's token is odd -/
def flagU (e : TypeId) : Nat := if e = U then 1 else 0
/-- elements not so big that a growing slice overruns the model's memory -/
def fits (e : TypeId) : Option Unit := match P.info? e with | some i => if i.bytes ≤ 65536 then some () else none | none => none
def elemOfS (t : TypeId) : Option TypeId := match P.underlying t with | some (.slice e) => some e | _ => none
def buildable (t : TypeId) : Bool := match P.underlying t with
  | some (.struct fs) => fs.toList.all fun f => (P.info? f.type).isSome
  | some (.array _ e) => (P.info? e).isSome
  | _ => false
def cParts (t : TypeId) : List (Nat × Operand) → Option (List (Nat × Nat × Opd))
  | [] => some []
  | (i, x) :: l => do
    let o ← cOpd x
    let r ← cParts t l
    match P.underlying t with
    | some (.struct fs) => do let f ← fs[i]?; let n ← tySz P f.type; pure ((f.offset, n, o) :: r)
    | some (.array _ e) => do let n ← tySz P e; pure ((i * n, n, o) :: r)
    | _ => none
def cElems : List (Nat × Operand) → Option (List (Nat × Opd))
  | [] => some []
  | (i, x) :: l => do let o ← cOpd x; let r ← cElems l; pure ((i, o) :: r)
/-- is it a strings.Builder's type? -/
def isBld (t : TypeId) : Bool := match P.underlying t with
  | some (.struct fs) => match fs.toList with
    | [a, b] => a.name == "addr" && b.name == "buf"
    | _ => false
  | _ => false
def allocOp (b : Bool) (t : TypeId) (z : List AV) : AOp := match b with | true => .allocT t z | false => .alloc z
def comp (heap : Bool) (o : Oper) : Option K :=
  match o.op with
  | .move x | .assign x => do pure (.p (.mov (← cOpd x)))
  | .pick c a b => do pure (.p (.pick (← cOpd c) (← cOpd a) (← cOpd b)))
  | .alloc t => do pure (.a (allocOp (isBld P t) t (cellsOf (← tyZero P t))))
  | .box t x => do pure (.a (.box (← tySz P t) (← cOpd x)))
  | .build t parts => do
    let z ← tyZero P t
    let ps ← cParts P t parts.toList
    match buildable P t with
    | true => pure (.p (.build (cellsOf z) ps))
    | false => none
  | .buildSlice t n parts => do
    let e ← elemOfS P t
    let sh ← elemSh P e
    if n * sh.2 > 16777216 then none else
    pure (.a (.bsl heap sh.1 (flagU U e) sh.2 n (← elemZ P e) (← cElems parts.toList)))
  | .load t a => do pure (.r (.ld (← tyAg P t) (← tySz P t) (← cOpd a)))
  | .store t a x => do pure (.e (.st (← tySz P t) (← cOpd a) (← cOpd x)))
  | .nilCheck x => do pure (.p (.nilchk (← cOpd x)))
  | .binOp op t x y _ => do
    let x ← cOpd x; let y ← cOpd y
    let neg : Option Bool := match op with | .eql => some false | .neq => some true | _ => none
    match P.underlying t, neg with
    | some (.int _), _ => pure (.p (.bin op x y))
    | some .string, _ => pure (.p (.bin op x y))
    | some .bool, some g => pure (.p (.eqx g .b x y))
    | some (.pointer _), some g => pure (.p (.eqx g .p x y))
    | some (.slice _), some g => pure (.p (.eqx g .s x y))
    | some (.map _ _), some g => pure (.p (.eqx g .m x y))
    | some (.func _ _ _), some g => pure (.p (.eqx g .f x y))
    | some (.struct _), some g => if P.eqGuardType P.depth t then none else pure (.p (.eqa g (← kinds P 6 t) x y))
    | _, _ => none
  | .unOp op _ x => do pure (.p (.un op (← cOpd x)))
  | .convert src dst x => do
    match P.underlying src, P.underlying dst with
    | some (.int _), some (.int k) => pure (.p (.cvti k (← cOpd x)))
    | some .string, some .string => pure (.p (.cvtss (← cOpd x)))
    | some (.slice e), some .string => match P.underlying e with | some (.int .u8) => pure (.r (.cvts (← cOpd x))) | _ => none
    | some .string, some (.slice e) => match P.underlying e with | some (.int .u8) => if heap ∧ elemSh P e = some (false, 1) then pure (.a (.cvtb (← cOpd x))) else none | _ => none
    | _, _ => none
  | .makeFunc fn first cap => match fn with
    | .func f => do pure (.p (.mkf f (← cOpds first.toList) (← cOpds cap.toList)))
    | _ => none
  | .makeMap _ none => some (.a .mkm)
  | .makeSlice t l c => do
    let e ← elemOfS P t
    fits P e
    let sh ← elemSh P e
    pure (.a (.mks heap sh.1 (flagU U e) sh.2 (← elemZ P e) (← cOpd l) (← cOpd c)))
  | .slice t x lo hi mx => if mx.isSome && hi.isNone then none else do
    let z ← slcZ P t
    pure (.p (.slc z (← cOpd x) (← cOpdO lo) (← cOpdO hi) (← cOpdO mx)))
  | .fieldAddr t x f => do
    let fs ← fieldsOf P t
    let f ← fs[f]?
    match ← tySz P f.type with
    | 0 => none
    | _ => pure (.p (.fld f.offset (← cOpd x)))
  | .field t x f => do
    let fs ← fieldsOf P t
    let f ← fs[f]?
    pure (.p (.fldv (← tyAg P f.type) (← tySz P f.type) f.offset (← cOpd x)))
  | .indexAddr t x i => match P.underlying t with
    | some (.slice e) => do pure (.p (.idx (← tySz P e) (← cOpd x) (← cOpd i)))
    | some (.array n e) => do pure (.p (.idxa n (← tySz P e) (← cOpd x) (← cOpd i)))
    | _ => none
  | .index t x i => match P.underlying t with
    | some .string => do pure (.p (.idxs (← cOpd x) (← cOpd i)))
    | some (.array n e) => do pure (.p (.idxv (← tyAg P e) n (← tySz P e) (← cOpd x) (← cOpd i)))
    | _ => none
  | .lookup t m k ok => match P.underlying t with
    | some (.map kt el) => do pure (.r (.lkp (← keyTy P kt) ok (← tyZero P el) (← cOpd m) (← cOpd k)))
    | _ => none
  | .mapUpdate t m k x => match P.underlying t with
    | some (.map kt _) => do pure (.e (.mup (← keyTy P kt) (← cOpd m) (← cOpd k) (← cOpd x)))
    | _ => none
  | .mapEntry t m k => match P.underlying t with
    | some (.map kt el) => do pure (.e (.ment (← keyTy P kt) (← tyZero P el) (← cOpd m) (← cOpd k)))
    | _ => none
  | .entryStore _ m st x => do pure (.e (.mst (← cOpd m) (← cOpd st) (← cOpd x)))
  | .range t x => match P.underlying t with
    | some (.map _ _) => do pure (.e (.rng (← cOpd x)))
    | _ => none
  | .next it false => do pure (.e (.nxt (← cOpd it)))
  | .entry it => do pure (.r (.ent (← cOpd it)))
  | .extract x i => do pure (.p (.ext (← cOpd x) i))
  | .call c => match c.callee with
    | .value f => do pure (.call (← cOpd f) (← cOpds c.args.toList))
    | .invoke _ _ => none
    | .builtin b => do
      let as ← cOpds c.args.toList
      let ts := c.argTypes.toList
      match b, as, ts with
      | .append, [x, y], [t, tx] => do
        let e ← elemOfS P t
        fits P e
        let sh ← elemSh P e
        let _ ← elemZ P e
        match P.underlying tx with
        | some (.slice _) => pure (.e (.app heap sh.1 (flagU U e) sh.2 x y))
        | some .string => pure (.e (.app heap sh.1 (flagU U e) sh.2 x y))
        | _ => none
      | .len, [x], t :: _ => do
        match P.underlying t with
        | some (.array n _) => pure (.p (.lenA n))
        | some (.pointer a) => (match P.underlying a with | some (.array n _) => pure (.p (.lenA n)) | _ => none)
        | some (.map _ _) => pure (.r (.lenM x))
        | some (.slice _) => pure (.p (.lenS x))
        | some .string => pure (.p (.lenT x))
        | _ => none
      | .min, x :: xs, _ => pure (.p (.minI x xs))
      | .max, x :: xs, _ => pure (.p (.maxI x xs))
      | .delete, [m, k], t :: _ => do
        match P.underlying t with
        | some (.map kt _) => pure (.e (.del (← keyTy P kt) m k))
        | _ => none
      | .clear, [x], t :: _ => do
        let e ← elemOfS P t
        let sh ← elemSh P e
        pure (.e (.clr sh.2 (← elemZ P e) x))
      | .unsafeSliceData, [x], _ => pure (.p (.sdat x))
      | .unsafeString, [x, n], [pt, _] => match P.underlying pt with
        | some (.pointer e) => if e = U ∧ P.cellsOf e = 1 then pure (.e (.ustr x n)) else none
        | _ => none
      | _, _, _ => none
  | _ => none

def guardOf (ops : Array Oper) : Option (Nat × Bool) → Option Gd
  | none => some none
  | some (j, w) => do let o ← ops[j]?; let d ← o.dst; pure (some (← slot d, w))
def slotN (nt d : Nat) : Option Slot := if d < nt then slot d else none
def slotD (nt : Nat) : Option Nat → Option Slot
  | none => none
  | some d => slotN nt d
def slotO (nt : Nat) : Option Nat → Option (Option Slot)
  | none => some none
  | some d => (slotN nt d).map some
def toStep (nt : Nat) (heap : Bool) (ops : Array Oper) (o : Oper) : Option DStep :=
  match guardOf ops o.guard, comp P U heap o with
  | some g, some (.p x) => match slotD nt o.dst with | some d => some (.p d g x) | none => none
  | some g, some (.r x) => match slotD nt o.dst with | some d => some (.r d g x) | none => none
  | some g, some (.a x) => match slotD nt o.dst with | some d => some (.a d g x) | none => none
  | some g, some (.e x) => match slotO nt o.dst with | some d => some (.e d g x) | none => none
  | some g, some (.call f as) => match slotO nt o.dst with | some d => some (.call d g f as) | none => none
  | _, _ => none
def toSteps (nt : Nat) (heap : Bool) (ops : Array Oper) : List Oper → Option (List DStep)
  | [] => some []
  | o :: l => consO (toStep P U nt heap ops o) (toSteps nt heap ops l)
/-- what a step looks at, what it writes -/
def ROp.opds : ROp → List Opd
  | .ld _ _ a => [a]
  | .lkp _ _ _ m k => [m, k]
  | .ent x => [x]
  | .lenM x => [x]
  | .cvts x => [x]
def gdS : Gd → List Slot | some (d, _) => [d] | none => []
def slotsOf : List Opd → List Slot
  | [] => []
  | .t s :: l => s :: slotsOf l
  | _ :: l => slotsOf l
/-- the slots that a read looks at -/
def looks : DStep → List Slot
  | .r _ g o => gdS g ++ slotsOf o.opds
  | _ => []
def wdst : DStep → Option Slot
  | .p d _ _ => some d
  | .r d _ _ => some d
  | .a d _ _ => some d
  | .e d _ _ => d
  | .call d _ _ _ => d
  | .chk _ _ _ => none
def isEff : DStep → Bool | .e .. => true | .call .. => true | _ => false
def isRd : DStep → Bool | .r .. => true | _ => false
def chkOf : DStep → DStep | .r d g o => .chk d g o | s => s
/-- an order as early as can be: (what is not an effect first); behind each effect the reads that are free of it again -/
def firstBy (f : Nat → Bool) : Nat → Nat → Option Nat
  | _, 0 => none
  | i, n + 1 => if f i then some i else firstBy f (i + 1) n
def asap (ss : Array DStep) (anc : Array Nat) : Nat → Nat → List Nat → List (Nat × Bool)
  | 0, _, _ => []
  | fuel + 1, done, reads =>
    let n := ss.size
    let ready (i : Nat) : Bool := !done.testBit i && (anc.getD i 0 &&& done) == anc.getD i 0
    match firstBy (fun i => ready i && !isEff (ss.getD i default)) 0 n with
    | some i => (i, false) :: asap ss anc fuel (done ||| 2 ^ i) (match ss.getD i default with | .r .. => i :: reads | _ => reads)
    | none => match firstBy ready 0 n with
      | none => []
      | some i =>
        let a := anc.getD i 0
        let free := reads.filter fun r => !a.testBit r
        (i, false) :: (free.map fun r => (r, true)) ++ asap ss anc fuel (done ||| 2 ^ i) free
/-- is it an order that answers for all? -/
def okI (A : Nat → Nat → Bool) (ss : List DStep) : List Nat → List Nat → List Nat → List (Nat × Bool) → Bool
  | done, reads, owe, [] => owe.isEmpty && (List.range ss.length).all (fun i => done.contains i)
  | done, reads, owe, (i, true) :: l =>
    (match ss[i]? with
      | none => false
      | some d => isRd d && done.all fun j => A i j || match ss[j]? with
        | none => false
        | some d' => match wdst d' with
          | none => true
          | some t => !(looks d).contains t) &&
    okI A ss done reads (owe.filter (· != i)) l
  | done, reads, owe, (i, false) :: l =>
    owe.isEmpty && !done.contains i && (List.range ss.length).all (fun j => !A i j || done.contains j) &&
    match ss[i]? with
    | none => false
    | some d =>
      if isEff d then l.all (fun p => p.2 || A p.1 i) && okI A ss (i :: done) (reads.filter fun r => !A i r) (reads.filter fun r => !A i r) l
      else okI A ss (i :: done) (if isRd d then i :: reads else reads) [] l
/-- the edges: told right, and enough of them -/
def okA (A : Nat → Nat → Bool) (ops : Array Oper) (ss : List DStep) : Bool :=
  (List.range ss.length).all fun i => match ops[i]?, ss[i]? with
    | some o, some _ =>
      (o.after.all fun e => !Region.binds .any e || (A i e.on && decide (e.on < ss.length))) &&
      ((List.range ss.length).all fun j => !A i j || o.after.any (fun e => Region.binds .any e && (e.on == j || A e.on j))) &&
      ((List.range ss.length).all fun j => match ops[j]?, ss[j]? with
        | some o', some _ =>
          (match o'.dst with
            | none => true
            | some t => (i == j || o.dst != some t) && (A i j || A j i || i == j || !(o.looksAt ops).contains t))
        | _, _ => false)
    | _, _ => false
def compReg (nt : Nat) (heap : Bool) (ops : Array Oper) (draw : Bool) : Option (List DStep) :=
  match toSteps P U nt heap ops ops.toList with
  | none => none
  | some ss => match draw with
    | false => some ss
    | true =>
      let anc := Region.before ops
      let A := fun i j => (anc.getD i 0).testBit j
      let items := asap ss.toArray anc (ops.size + 1) 0 []
      match okA A ops ss && okI A ss [] [] [] items with
      | true => some (items.map fun p => if p.2 then chkOf (ss.getD p.1 default) else ss.getD p.1 default)
      | false => none
def compC (nt : Nat) (heap : Bool) : Code → Option DC
  | .skip => some .skip
  | .label _ => some .skip
  | .seq a b => match compC nt heap a, compC nt heap b with | some a, some b => some (.seq a b) | _, _ => none
  | .cond c a b => match cOpd c, compC nt heap a, compC nt heap b with | some c, some a, some b => some (.cond c a b) | _, _, _ => none
  | .block id b => match compC nt heap b with | some b => some (.block id b) | none => none
  | .loop b => match compC nt heap b with | some b => some (.loop b) | none => none
  | .scope b => compC nt heap b
  | .exit id => some (.exit id)
  | .ret => some .ret
  | .region _ ops draw => match compReg P U nt heap ops draw with | some l => some (.reg l) | none => none
  | _ => none
def cRes : ResultVar → Option Res
  | .tmp t => (slot t).map .tmp
  | .cell a t => do pure (.cell (← slot a) (← tyAg P t) (← tySz P t))
def cRess : List ResultVar → Option (List Res)
  | [] => some []
  | v :: l => consO (cRes P v) (cRess l)
def compF (heap : Bool) (fn : Func) : Option Fn :=
  if fn.name = "runtime.NumGoroutine" then none else
  match fn.body with
  | none => none
  | some b => match compC P U fn.ntmps heap b, cRess P fn.results.toList with
    | some b, some r => some { body := b, res := r }
    | _, _ => none
end
end Den

set_option autoImplicit false
set_option linter.unusedVariables false
namespace Den
open Go Go.RowKit

/-- what the named numbers are -/
structure Vl where
  f : Nat → Int
  ok : ∀ s, 0 ≤ f s ∧ f s ≤ symHi s
def Vl.zero : Vl := ⟨fun _ => 0, fun s => ⟨Int.le_refl _, Int.natCast_nonneg _⟩⟩
def valT (ρ : Vl) : List (Nat × Int) → Int
  | [] => 0
  | (s, c) :: r => c * ρ.f s + valT ρ r
def SI.val (ρ : Vl) : SI → Int
  | .c n => n
  | .l k ts => k + valT ρ ts
/-! ### a string's bytes -/
def bv (ρ : Vl) (n : Nat) : Int := (decB n).val ρ
theorem bv_lt {ρ : Vl} {n : Nat} (h : n ≤ 255) : bv ρ n = n := by
  unfold bv decB
  rw [show Nat.ble n 255 = true from Nat.ble_eq_true_of_le h]; rfl
/-- bytes that a list of numbers stands for -/
def Bs (ρ : Vl) (l : List Nat) (bs : List UInt8) : Prop := bs.map (fun b => (b.toNat : Int)) = l.map (bv ρ)
section
variable {ρ : Vl}
theorem Bs.nil : Bs ρ [] [] := rfl
theorem Bs.cons {n : Nat} {l : List Nat} {b : UInt8} {bs : List UInt8} (h : (b.toNat : Int) = bv ρ n) (t : Bs ρ l bs) : Bs ρ (n :: l) (b :: bs) := by
  unfold Bs at *; simp [h, t]
theorem Bs.uncons {n : Nat} {l : List Nat} {bs : List UInt8} (h : Bs ρ (n :: l) bs) : ∃ b t, bs = b :: t ∧ (b.toNat : Int) = bv ρ n ∧ Bs ρ l t := by
  cases bs with
  | nil => simp [Bs] at h
  | cons b t => simp only [Bs, List.map_cons, List.cons.injEq] at h; exact ⟨b, t, rfl, h.1, h.2⟩
theorem Bs.length {l : List Nat} {bs : List UInt8} (h : Bs ρ l bs) : bs.length = l.length := by
  have := congrArg List.length h; simpa using this
theorem Bs.of (bs : List UInt8) : Bs ρ (bs.map (·.toNat)) bs := by
  unfold Bs
  rw [List.map_map]
  apply List.map_congr_left
  intro b _
  show (b.toNat : Int) = bv ρ b.toNat
  rw [bv_lt (by have := b.toNat_lt; omega)]
theorem Bs.append {a b : List Nat} {x y : List UInt8} (h : Bs ρ a x) (k : Bs ρ b y) : Bs ρ (a ++ b) (x ++ y) := by
  unfold Bs at *; simp [h, k]
theorem Bs.take {l : List Nat} {bs : List UInt8} (n : Nat) (h : Bs ρ l bs) : Bs ρ (l.take n) (bs.take n) := by
  unfold Bs at *; rw [List.map_take, List.map_take, h]
theorem Bs.drop {l : List Nat} {bs : List UInt8} (n : Nat) (h : Bs ρ l bs) : Bs ρ (l.drop n) (bs.drop n) := by
  unfold Bs at *; rw [List.map_drop, List.map_drop, h]
theorem Bs.get {l : List Nat} {bs : List UInt8} {j c : Nat} (h : Bs ρ l bs) (hc : l[j]? = some c) : ∃ b, bs[j]? = some b ∧ (b.toNat : Int) = bv ρ c := by
  have := congrArg (fun q : List Int => q[j]?) h
  simp only [List.getElem?_map, hc, Option.map_some] at this
  cases hb : bs[j]? with
  | none => rw [hb] at this; cases this
  | some b => rw [hb] at this; injection this with this; exact ⟨b, rfl, this⟩
/-- the byte that a number stands for -/
def ub (ρ : Vl) (n : Nat) : UInt8 := UInt8.ofNat (bv ρ n).toNat
theorem ub_ok {n : Nat} (h : 0 ≤ bv ρ n ∧ bv ρ n ≤ 255) : ((ub ρ n).toNat : Int) = bv ρ n := by
  unfold ub
  simp only [UInt8.toNat_ofNat']
  omega
theorem Bs.ub : ∀ {l : List Nat}, (∀ n ∈ l, 0 ≤ bv ρ n ∧ bv ρ n ≤ 255) → Bs ρ l (l.map (ub ρ))
  | [], _ => rfl
  | n :: l, h => .cons (ub_ok (h n (by simp))) (Bs.ub fun m hm => h m (by simp [hm]))
end
/-- an immutable row: cells an element, token, the coordinate of its first cell's element, elements filled, cells in all -/
structure Imm where
  z : Nat
  tok : Nat
  c0 : Nat
  filled : Nat
  total : Nat
structure Gh where
  io : Nat → Option Nat
  im : Nat → Option Imm

def one : AV → Bool
  | .lst .agg _ => false
  | .lst .tup _ => false
  | _ => true
def ones (l : List AV) : Prop := ∀ x ∈ l, one x = true

section
variable (ρ : Vl)
mutual
inductive VR (G : Gh) (w : World) : AV → Value → Prop
  | int (k : IntKind) (n : SI) : VR G w (.int k n) (.int k (n.val ρ))
  | bool (b : Bool) : VR G w (.bool b) (.bool b)
  | str (l : List Nat) (s : ByteArray) (h : Bs ρ l s.data.toList) : VR G w (.str l) (.string s)
  | ptr (b off rb : Nat) (h : G.io b = some rb) : VR G w (.ref (.ptr b off)) (.pointer (some ⟨rb, off, none⟩))
  | nilptr : VR G w (.ref .nilptr) (.pointer none)
  | nilsl : VR G w (.ref .nilsl) (.slice none 0 0)
  | hsl (z b off n cap rb rcap et size o : Nat) (h : G.io b = some rb) (hz : 0 < z) (h1 : n ≤ cap) (h2 : cap ≤ rcap) (hs : w.shape? rb = some (et, size)) (h3 : off + rcap * z ≤ size) (ho : 0 < rcap → o = off) :
      VR G w (.ref (.hsl z b off n cap)) (.slice (some ⟨rb, o, none⟩) n rcap)
  | mapn : VR G w (.ref .mapn) (.map none)
  | mapr (b rb : Nat) (h : G.io b = some rb) : VR G w (.ref (.mapr b)) (.map (some rb))
  | nilfunc : VR G w (.ref .nilfunc) .nilFunc
  | niliface : VR G w (.ref .niliface) .nilIface
  | agg (xs : List AV) (vs : List Value) (h : VRs G w xs vs) (h1 : ones xs) : VR G w (.lst .agg xs) (.agg vs.toArray)
  | tup (xs : List AV) (vs : List Value) (h : VRs G w xs vs) : VR G w (.lst .tup xs) (.tuple vs.toArray)
  | func (f n : Nat) (xs : List AV) (vs : List Value) (h : VRs G w xs vs) (hn : n ≤ xs.length) : VR G w (.lst (.func f n) xs) (.func (.func f) (vs.take n).toArray (vs.drop n).toArray)
  | eptr (off o0 rb : Nat) (cs : List AV) (vs : List Value) (m : Imm) (hm : G.im rb = some m) (h : VRs G w cs vs) (h1 : ones cs) (hc : w.rangeAt rb o0 vs) (hf : o0 + vs.length ≤ m.filled * m.z) :
      VR G w (.lst (.eptr off) cs) (.pointer (some ⟨rb, o0 + off, none⟩))
  | sdp (tok st rb : Nat) (cs : List AV) (vs : List Value) (m : Imm) (hm : G.im rb = some m) (ht : m.tok = tok) (h0 : m.c0 ≤ st) (h : VRs G w cs vs) (h1 : ones cs) (hc : w.rangeAt rb ((st - m.c0) * m.z) vs)
      (hf : (st - m.c0) * m.z + vs.length ≤ m.filled * m.z) : VR G w (.lst (.sdp tok st) cs) (.pointer (some ⟨rb, (st - m.c0) * m.z, none⟩))
  | vsl (z tok st rb rcap o : Nat) (xc : Option Nat) (xs : List AV) (vs : List Value) (m : Imm) (hm : G.im rb = some m) (hz : m.z = z) (ht : m.tok = tok) (h0 : m.c0 ≤ st) (hf : st - m.c0 + xs.length ≤ m.filled)
      (hl : ∀ x ∈ xs, (cellsOf x).length = z) (h : VRs G w (flat xs) vs) (h1 : ones (flat xs)) (hc : w.rangeAt rb ((st - m.c0) * z) vs) (hcap : xs.length ≤ rcap) (hxc : ∀ c, xc = some c → rcap = c)
      (htot : (st - m.c0 + rcap) * z ≤ m.total) (ho : 0 < rcap → o = (st - m.c0) * z) : VR G w (.lst (.vsl z tok st xc) xs) (.slice (some ⟨rb, o, none⟩) xs.length rcap)
inductive VRs (G : Gh) (w : World) : List AV → List Value → Prop
  | nil : VRs G w [] []
  | cons (x : AV) (v : Value) (xs : List AV) (vs : List Value) (h : VR G w x v) (t : VRs G w xs vs) : VRs G w (x :: xs) (v :: vs)
end

/-- what persists -/
structure Ext (G : Gh) (w : World) (G' : Gh) (w' : World) : Prop where
  io : ∀ b rb, G.io b = some rb → G'.io b = some rb
  im : ∀ rb m, G.im rb = some m → ∃ m', G'.im rb = some m' ∧ m'.z = m.z ∧ m'.tok = m.tok ∧ m'.c0 = m.c0 ∧ m'.total = m.total ∧ m.filled ≤ m'.filled
  cell : ∀ rb m o, G.im rb = some m → o < m.filled * m.z → w'.cell? ⟨rb, o, none⟩ = w.cell? ⟨rb, o, none⟩
  shape : ∀ rb et n, w.shape? rb = some (et, n) → w'.shape? rb = some (et, n)
theorem Ext.refl (G : Gh) (w : World) : Ext G w G w :=
  ⟨fun _ _ h => h, fun _ m h => ⟨m, h, rfl, rfl, rfl, rfl, Nat.le_refl _⟩, fun _ _ _ _ _ => rfl, fun _ _ _ h => h⟩
theorem Ext.trans {G G' G'' : Gh} {w w' w'' : World} (h : Ext G w G' w') (k : Ext G' w' G'' w'') : Ext G w G'' w'' where
  io b rb e := k.io b rb (h.io b rb e)
  im rb m e := by
    obtain ⟨m', e', a, b, c, d, f⟩ := h.im rb m e
    obtain ⟨m'', e'', a', b', c', d', f'⟩ := k.im rb m' e'
    exact ⟨m'', e'', a'.trans a, b'.trans b, c'.trans c, d'.trans d, Nat.le_trans f f'⟩
  cell rb m o e ho := by
    obtain ⟨m', e', a, b, c, d, f⟩ := h.im rb m e
    rw [k.cell rb m' o e' (by rw [a]; exact Nat.lt_of_lt_of_le ho (Nat.mul_le_mul_right _ f)), h.cell rb m o e ho]
  shape rb et n e := k.shape rb et n (h.shape rb et n e)

variable {ρ}
theorem VRs.length {G : Gh} {w : World} : ∀ {xs : List AV} {vs : List Value}, VRs ρ G w xs vs → vs.length = xs.length
  | _, _, .nil => rfl
  | _, _, .cons _ _ _ _ _ t => by simp [t.length]

theorem VR.ext {G G' : Gh} {w w' : World} (e : Ext G w G' w') {a : AV} {v : Value} (h : VR ρ G w a v) : VR ρ G' w' a v := by
  refine VR.rec (motive_1 := fun a v _ => VR ρ G' w' a v) (motive_2 := fun a v _ => VRs ρ G' w' a v)
    ?_ ?_ ?_ ?_ ?_ ?_ ?_ ?_ ?_ ?_ ?_ ?_ ?_ ?_ ?_ ?_ ?_ ?_ ?_ h
  · exact fun k n => .int k n
  · exact fun b => .bool b
  · exact fun l s h => .str l s h
  · exact fun b off rb h => .ptr b off rb (e.io _ _ h)
  · exact .nilptr
  · exact .nilsl
  · exact fun z b off n cap rb rcap et size o h hz h1 h2 hs h3 ho => .hsl z b off n cap rb rcap et size o (e.io _ _ h) hz h1 h2 (e.shape _ _ _ hs) h3 ho
  · exact .mapn
  · exact fun b rb h => .mapr b rb (e.io _ _ h)
  · exact .nilfunc
  · exact .niliface
  · exact fun xs vs _ h1 ih => .agg xs vs ih h1
  · exact fun xs vs _ ih => .tup xs vs ih
  · exact fun f n xs vs _ hn ih => .func f n xs vs ih hn
  · intro off o0 rb cs vs m hm h h1 hc hf ih
    obtain ⟨m', e', a, b, c, d, f⟩ := e.im rb m hm
    refine .eptr off o0 rb cs vs m' e' ih h1 (fun j v hj => ?_) ?_
    · have hlt : j < vs.length := (List.getElem?_eq_some_iff.1 hj).1
      rw [e.cell rb m _ hm (by omega)]; exact hc j v hj
    · rw [a]; exact Nat.le_trans hf (Nat.mul_le_mul_right _ f)
  · intro tok st rb cs vs m hm ht h0 h h1 hc hf ih
    obtain ⟨m', e', a, b, c, d, f⟩ := e.im rb m hm
    have key := VR.sdp (ρ := ρ) (G := G') (w := w') tok st rb cs vs m' e' (b.trans ht) (by omega) ih h1 (by
      rw [a, c]
      intro j v hj
      have hlt : j < vs.length := (List.getElem?_eq_some_iff.1 hj).1
      rw [e.cell rb m _ hm (by omega)]; exact hc j v hj) (by rw [a, c]; exact Nat.le_trans hf (Nat.mul_le_mul_right _ f))
    rw [a, c] at key
    exact key
  · intro z tok st rb rcap o xc xs vs m hm hz ht h0 hf hl h h1 hc hcap hxc htot ho ih
    obtain ⟨m', e', a, b, c, d, f⟩ := e.im rb m hm
    have hvl : vs.length = (flat xs).length := h.length
    have hfl : (flat xs).length = xs.length * z := by
      clear hvl htot hcap hf h1 hc h ih
      induction xs with
      | nil => simp [flat]
      | cons x xs ih => simp only [flat, List.length_append, hl x (by simp), ih (fun y hy => hl y (by simp [hy])), List.length_cons]; rw [Nat.succ_mul]; omega
    have hrange : w'.rangeAt rb ((st - m.c0) * z) vs := fun j v hj => by
      have hlt : j < vs.length := (List.getElem?_eq_some_iff.1 hj).1
      rw [e.cell rb m _ hm ?_]; exact hc j v hj
      have : (st - m.c0) * z + xs.length * z ≤ m.filled * m.z := by rw [← Nat.add_mul, hz]; exact Nat.mul_le_mul_right _ hf
      omega
    exact VR.vsl (ρ := ρ) (G := G') (w := w') z tok st rb rcap o xc xs vs m' e' (a.trans hz) (b.trans ht) (by omega) (by omega) hl ih h1 (by rw [c]; exact hrange) hcap hxc (by rw [c, d]; exact htot) (by rw [c]; exact ho)
  · exact .nil
  · exact fun x v xs vs _ _ h t => .cons x v xs vs h t
theorem VRs.ext {G G' : Gh} {w w' : World} (e : Ext G w G' w') : ∀ {xs : List AV} {vs : List Value}, VRs ρ G w xs vs → VRs ρ G' w' xs vs
  | _, _, .nil => .nil
  | _, _, .cons _ _ _ _ h t => .cons _ _ _ _ (h.ext e) (t.ext e)
end
end Den

set_option autoImplicit false
set_option linter.unusedVariables false
namespace Den
open Go Go.RowKit

/-! ### lists -/
theorem len_eq {α : Type} : ∀ l : List α, len l = l.length
  | [] => rfl
  | _ :: l => by simp [len, len_eq l]
theorem tk_eq {α : Type} : ∀ (n : Nat) (l : List α), tk n l = l.take n
  | 0, _ => by simp [tk]
  | _ + 1, [] => by simp [tk]
  | n + 1, a :: l => by simp [tk, tk_eq n l]
theorem dr_eq {α : Type} : ∀ (n : Nat) (l : List α), dr n l = l.drop n
  | 0, _ => by simp [dr]
  | _ + 1, [] => by simp [dr]
  | n + 1, a :: l => by simp [dr, dr_eq n l]
theorem nth_eq {α : Type} : ∀ (l : List α) (n : Nat), nth l n = l[n]?
  | [], _ => by simp [nth]
  | a :: l, 0 => by simp [nth]
  | a :: l, n + 1 => by simp [nth, nth_eq l n]
theorem flat_append : ∀ xs ys : List AV, flat (xs ++ ys) = flat xs ++ flat ys
  | [], _ => rfl
  | x :: xs, ys => by simp [flat, flat_append xs ys]
theorem flat_length {z : Nat} : ∀ {xs : List AV}, (∀ x ∈ xs, (cellsOf x).length = z) → (flat xs).length = xs.length * z
  | [], _ => by simp [flat]
  | x :: xs, h => by
    simp only [flat, List.length_append, h x (by simp), flat_length (xs := xs) (fun y hy => h y (by simp [hy])), List.length_cons]
    rw [Nat.succ_mul]; omega
theorem ones_append {xs ys : List AV} : ones (xs ++ ys) ↔ ones xs ∧ ones ys := by
  unfold ones; constructor
  · exact fun h => ⟨fun x hx => h x (by simp [hx]), fun x hx => h x (by simp [hx])⟩
  · rintro ⟨h, k⟩ x hx
    rcases List.mem_append.1 hx with hx | hx
    · exact h x hx
    · exact k x hx
theorem ones_sub {xs ys : List AV} (h : ones ys) (hs : ∀ x ∈ xs, x ∈ ys) : ones xs := fun x hx => h x (hs x hx)
section
variable {ρ : Vl} {G : Gh} {w : World}
theorem VRs.append : ∀ {xs ys : List AV} {us vs : List Value}, VRs ρ G w xs us → VRs ρ G w ys vs → VRs ρ G w (xs ++ ys) (us ++ vs)
  | _, _, _, _, .nil, h => h
  | _, _, _, _, .cons _ _ _ _ h t, k => .cons _ _ _ _ h (t.append k)
theorem VRs.take (n : Nat) : ∀ {xs : List AV} {vs : List Value}, VRs ρ G w xs vs → VRs ρ G w (xs.take n) (vs.take n) := by
  induction n with
  | zero => intro xs vs _; simpa using VRs.nil
  | succ n ih =>
    intro xs vs h
    cases h with
    | nil => simpa using VRs.nil
    | cons x v xs vs h t => simpa using VRs.cons _ _ _ _ h (ih t)
theorem VRs.drop (n : Nat) : ∀ {xs : List AV} {vs : List Value}, VRs ρ G w xs vs → VRs ρ G w (xs.drop n) (vs.drop n) := by
  induction n with
  | zero => intro xs vs h; simpa using h
  | succ n ih =>
    intro xs vs h
    cases h with
    | nil => simpa using VRs.nil
    | cons x v xs vs h t => simpa using ih t
theorem VRs.get {n : Nat} {x : AV} : ∀ {xs : List AV} {vs : List Value}, VRs ρ G w xs vs → xs[n]? = some x → ∃ v, vs[n]? = some v ∧ VR ρ G w x v := by
  induction n with
  | zero => intro xs vs h hx; cases h with
    | nil => simp at hx
    | cons y v xs vs h t => simp at hx; subst hx; exact ⟨v, by simp, h⟩
  | succ n ih => intro xs vs h hx; cases h with
    | nil => simp at hx
    | cons y v xs vs h t => simp at hx; obtain ⟨u, hu, hr⟩ := ih t hx; exact ⟨u, by simpa using hu, hr⟩
theorem VRs.mk {xs : List AV} {vs : List Value} (hl : vs.length = xs.length) (h : ∀ (n : Nat) (x : AV) (v : Value), xs[n]? = some x → vs[n]? = some v → VR ρ G w x v) : VRs ρ G w xs vs := by
  induction xs generalizing vs with
  | nil => cases vs with
    | nil => exact .nil
    | cons => simp at hl
  | cons x xs ih => cases vs with
    | nil => simp at hl
    | cons v vs => exact .cons _ _ _ _ (h 0 x v (by simp) (by simp)) (ih (by simpa using hl) fun n y u hy hu => h (n + 1) y u (by simpa using hy) (by simpa using hu))
theorem VR.oneCell {x : AV} {v : Value} (h : VR ρ G w x v) (h1 : one x = true) : v.oneCell' = true := by
  cases h <;> first | rfl | simp [one] at h1
theorem VRs.oneCells : ∀ {xs : List AV} {vs : List Value}, VRs ρ G w xs vs → ones xs → ∀ v ∈ vs, v.oneCell' = true
  | _, _, .nil, _, v, hv => by cases hv
  | _, _, .cons x u xs vs h t, h1, v, hv => by
    rcases List.mem_cons.1 hv with rfl | hv
    · exact h.oneCell (h1 x (by simp))
    · exact t.oneCells (fun y hy => h1 y (by simp [hy])) v hv
/-- a value's cells -/
theorem VR.cells {x : AV} {v : Value} (h : VR ρ G w x v) (hx : ∀ ys, x ≠ .lst .tup ys) : VRs ρ G w (cellsOf x) v.cells.toList ∧ ones (cellsOf x) := by
  cases h with
  | agg xs vs h h1 => exact ⟨by simpa [cellsOf, Value.cells] using h, by simpa [cellsOf] using h1⟩
  | tup xs vs h => exact absurd rfl (hx xs)
  | int k n => exact ⟨.cons _ _ _ _ (.int k n) .nil, fun y hy => by simp [cellsOf] at hy; subst hy; rfl⟩
  | bool b => exact ⟨.cons _ _ _ _ (.bool b) .nil, fun y hy => by simp [cellsOf] at hy; subst hy; rfl⟩
  | str l s h => exact ⟨.cons _ _ _ _ (.str l s h) .nil, fun y hy => by simp [cellsOf] at hy; subst hy; rfl⟩
  | ptr b off rb h => exact ⟨.cons _ _ _ _ (.ptr b off rb h) .nil, fun y hy => by simp [cellsOf] at hy; subst hy; rfl⟩
  | nilptr => exact ⟨.cons _ _ _ _ .nilptr .nil, fun y hy => by simp [cellsOf] at hy; subst hy; rfl⟩
  | nilsl => exact ⟨.cons _ _ _ _ .nilsl .nil, fun y hy => by simp [cellsOf] at hy; subst hy; rfl⟩
  | hsl z b off n cap rb rcap et size o h hz h1 h2 hs h3 ho => exact ⟨.cons _ _ _ _ (.hsl z b off n cap rb rcap et size o h hz h1 h2 hs h3 ho) .nil, fun y hy => by simp [cellsOf] at hy; subst hy; rfl⟩
  | mapn => exact ⟨.cons _ _ _ _ .mapn .nil, fun y hy => by simp [cellsOf] at hy; subst hy; rfl⟩
  | mapr b rb h => exact ⟨.cons _ _ _ _ (.mapr b rb h) .nil, fun y hy => by simp [cellsOf] at hy; subst hy; rfl⟩
  | nilfunc => exact ⟨.cons _ _ _ _ .nilfunc .nil, fun y hy => by simp [cellsOf] at hy; subst hy; rfl⟩
  | niliface => exact ⟨.cons _ _ _ _ .niliface .nil, fun y hy => by simp [cellsOf] at hy; subst hy; rfl⟩
  | func f n xs vs h hn => exact ⟨.cons _ _ _ _ (.func f n xs vs h hn) .nil, fun y hy => by simp [cellsOf] at hy; subst hy; rfl⟩
  | eptr off o0 rb cs vs m hm h h1 hc hf => exact ⟨.cons _ _ _ _ (.eptr off o0 rb cs vs m hm h h1 hc hf) .nil, fun y hy => by simp [cellsOf] at hy; subst hy; rfl⟩
  | sdp tok st rb cs vs m hm ht h0 h h1 hc hf => exact ⟨.cons _ _ _ _ (.sdp tok st rb cs vs m hm ht h0 h h1 hc hf) .nil, fun y hy => by simp [cellsOf] at hy; subst hy; rfl⟩
  | vsl z tok st rb rcap o xc xs vs m hm hz ht h0 hf hl h h1 hc hcap hxc htot ho =>
    exact ⟨.cons _ _ _ _ (.vsl z tok st rb rcap o xc xs vs m hm hz ht h0 hf hl h h1 hc hcap hxc htot ho) .nil, fun y hy => by simp [cellsOf] at hy; subst hy; rfl⟩
end

/-! ### the state -/
/-- an entry of a map -/
inductive ER (ρ : Vl) (G : Gh) (w : World) : List (AV × AV × Nat) → List MapEntry → Prop
  | nil : ER ρ G w [] []
  | cons (k v : AV) (n : Nat) (rk rv : Value) (es : List (AV × AV × Nat)) (rs : List MapEntry) (hk : VR ρ G w k rk) (hv : VR ρ G w v rv) (t : ER ρ G w es rs) :
      ER ρ G w ((k, v, n) :: es) ({ key := rk, val := rv, born := n } :: rs)
theorem ER.ext {ρ : Vl} {G G' : Gh} {w w' : World} (e : Ext G w G' w') : ∀ {es : List (AV × AV × Nat)} {rs : List MapEntry}, ER ρ G w es rs → ER ρ G' w' es rs
  | _, _, .nil => .nil
  | _, _, .cons k v n rk rv es rs hk hv t => .cons k v n rk rv es rs (hk.ext e) (hv.ext e) (t.ext e)
theorem ER.length {ρ : Vl} {G : Gh} {w : World} : ∀ {es : List (AV × AV × Nat)} {rs : List MapEntry}, ER ρ G w es rs → rs.length = es.length
  | _, _, .nil => rfl
  | _, _, .cons _ _ _ _ _ _ _ _ _ t => by simp [t.length]

/-- an object -/
inductive OR (ρ : Vl) (G : Gh) (w : World) : AObj → Nat → Prop
  | cells (cs : List AV) (rb : Nat) (vs : List Value) (et size : Nat) (h : VRs ρ G w cs vs) (h1 : ones cs) (hc : w.rangeAt rb 0 vs) (hs : w.shape? rb = some (et, size)) (hl : vs.length ≤ size)
      (hf : ∀ o, o < size → w.frozen? ⟨rb, o, none⟩ = false) : OR ρ G w (.cells cs) rb
  | bld (t : Nat) (cs : List AV) (rb : Nat) (vs : List Value) (h : VRs ρ G w cs vs) (h1 : ones cs) (hc : w.rangeAt rb 0 vs) (hs : w.shape? rb = some (t, vs.length))
      (hf : ∀ o, o < vs.length → w.frozen? ⟨rb, o, none⟩ = false) : OR ρ G w (.bld t cs) rb
  | map (es : List (AV × AV × Nat)) (cl rb : Nat) (rs : List MapEntry) (h : ER ρ G w es rs) (hw : w.heap[rb]? = some (.map rs.toArray cl)) : OR ρ G w (.map es cl) rb
  | miter (m : Option Nat) (since : Nat) (seen : List Nat) (last rb : Nat) (rm : Option Nat) (hm : (m = none ∧ rm = none) ∨ ∃ b r, m = some b ∧ rm = some r ∧ G.io b = some r)
      (hw : w.heap[rb]? = some (.mapIter rm since seen.toArray last)) : OR ρ G w (.miter m since seen last) rb

/-- an immutable row in the world -/
structure IM (U : TypeId) (B : Nat) (s : St) (w : World) (rb : Nat) (m : Imm) : Prop where
  z : 0 < m.z
  fit : m.filled * m.z ≤ m.total
  blk : ∃ arr et lo hi, w.heap[rb]? = some (.cells arr et (lo, hi)) ∧ arr.size = m.total ∧ hi ≤ m.filled * m.z ∧ (m.tok % 2 = 1 → et = U)
  top : ∃ T, s.top.get m.tok = some T ∧ m.c0 + m.filled ≤ T
  tok : m.tok < s.nt
  base : B ≤ rb

theorem IM.shape {U : TypeId} {B : Nat} {s : St} {w : World} {rb : Nat} {m : Imm} (h : IM U B s w rb m) : ∃ et, w.shape? rb = some (et, m.total) := by
  obtain ⟨arr, et, lo, hi, hb, hs, _⟩ := h.blk
  exact ⟨et, by simp [World.shape?, hb, hs]⟩
theorem IM.free {U : TypeId} {B : Nat} {s : St} {w : World} {rb : Nat} {m : Imm} (h : IM U B s w rb m) (o : Nat) (ho : m.filled * m.z ≤ o) : w.frozen? ⟨rb, o, none⟩ = false := by
  obtain ⟨arr, et, lo, hi, hb, hs, hl, _⟩ := h.blk
  simp only [World.frozen?, hb]
  simp; omega
structure SR (U : TypeId) (ρ : Vl) (B : Nat) (w0 : World) (G : Gh) (s : St) (w : World) : Prop where
  blk : ∀ b o rb, s.blk.get b = some o → G.io b = some rb → OR ρ G w o rb
  inj : ∀ b b' o o' rb, s.blk.get b = some o → s.blk.get b' = some o' → G.io b = some rb → G.io b' = some rb → b = b'
  new : ∀ b, s.nb ≤ b → G.io b = none ∧ s.blk.get b = none
  newt : ∀ t, s.nt ≤ t → s.top.get t = none
  even : s.nt % 2 = 0
  apart : ∀ b o rb, s.blk.get b = some o → G.io b = some rb → G.im rb = none
  im : ∀ rb m, G.im rb = some m → IM U B s w rb m
  lt : ∀ b rb, G.io b = some rb → rb < w.heap.size ∧ B ≤ rb
  below : Below B w0 w
  le : B ≤ w.heap.size

theorem shape_lt {w : World} {r et n : Nat} (h : w.shape? r = some (et, n)) : r < w.heap.size := by
  unfold World.shape? at h
  rcases Nat.lt_or_ge r w.heap.size with h' | h'
  · exact h'
  · simp [Array.getElem?_eq_none h'] at h
theorem cell_lt {w : World} {r o : Nat} {v : Value} (h : w.cell? ⟨r, o, none⟩ = some v) : r < w.heap.size := World.block_lt_of_cell? w _ h

/-- a change of the world: at most some cells of one block, and new blocks -/
structure Chg (w w' : World) (rb : Nat) (lo hi : Nat) : Prop where
  cell : ∀ b o, b < w.heap.size → ¬ (b = rb ∧ lo ≤ o ∧ o < hi) → w'.cell? ⟨b, o, none⟩ = w.cell? ⟨b, o, none⟩
  frozen : ∀ b o, b < w.heap.size → w'.frozen? ⟨b, o, none⟩ = w.frozen? ⟨b, o, none⟩
  shape : ∀ b, b < w.heap.size → w'.shape? b = w.shape? b
  obj : ∀ b, b < w.heap.size → b ≠ rb → w'.heap[b]? = w.heap[b]?
  size : w.heap.size ≤ w'.heap.size
  os : w'.os = w.os
  tape : w'.tape = w.tape
  output : w'.output = w.output
theorem Chg.below {w w' w0 : World} {rb lo hi B : Nat} (c : Chg w w' rb lo hi) (h : Below B w0 w) (hB : B ≤ w.heap.size) (hr : B ≤ rb) : Below B w0 w' :=
  h.trans ⟨c.os, c.tape, c.output, c.size, fun k hk => c.obj k (by omega) (by omega)⟩
/-- nothing but new blocks -/
structure Chg0 (w w' : World) : Prop where
  obj : ∀ b, b < w.heap.size → w'.heap[b]? = w.heap[b]?
  size : w.heap.size ≤ w'.heap.size
  os : w'.os = w.os
  tape : w'.tape = w.tape
  output : w'.output = w.output
theorem Chg0.cell {w w' : World} (c : Chg0 w w') (b o : Nat) (h : b < w.heap.size) : w'.cell? ⟨b, o, none⟩ = w.cell? ⟨b, o, none⟩ := World.cell?_of_block (w := w) (c.obj b h)
theorem Chg0.frozen {w w' : World} (c : Chg0 w w') (b o : Nat) (h : b < w.heap.size) : w'.frozen? ⟨b, o, none⟩ = w.frozen? ⟨b, o, none⟩ := World.frozen?_of_block (w := w) (c.obj b h)
theorem Chg0.shape {w w' : World} (c : Chg0 w w') (b : Nat) (h : b < w.heap.size) : w'.shape? b = w.shape? b := by simp [World.shape?, c.obj b h]
theorem Chg0.below {w w' w0 : World} {B : Nat} (c : Chg0 w w') (h : Below B w0 w) (hB : B ≤ w.heap.size) : Below B w0 w' :=
  h.trans ⟨c.os, c.tape, c.output, c.size, fun k hk => c.obj k (by omega)⟩
theorem Chg0.refl (w : World) : Chg0 w w := ⟨fun _ _ => rfl, Nat.le_refl _, rfl, rfl, rfl⟩
theorem Chg0.drew (w : World) : Chg0 w w.drew := ⟨fun _ _ => rfl, Nat.le_refl _, rfl, rfl, rfl⟩
theorem Chg0.alloc (w : World) (o : Obj) : Chg0 w (w.alloc o) := ⟨fun b h => Below.heap_alloc w o b h, by simp, rfl, rfl, rfl⟩
theorem Chg0.trans {a b c : World} (h : Chg0 a b) (k : Chg0 b c) : Chg0 a c :=
  ⟨fun r hr => (k.obj r (Nat.lt_of_lt_of_le hr h.size)).trans (h.obj r hr), Nat.le_trans h.size k.size, k.os.trans h.os, k.tape.trans h.tape, k.output.trans h.output⟩
section
variable {U : TypeId} {ρ : Vl} {B : Nat} {w0 : World} {G : Gh} {s : St} {w w' : World}
theorem Chg0.ext (c : Chg0 w w') (h : SR U ρ B w0 G s w) : Ext G w G w' where
  io _ _ e := e
  im _ m e := ⟨m, e, rfl, rfl, rfl, rfl, Nat.le_refl _⟩
  cell rb m o e _ := by obtain ⟨et, hs⟩ := (h.im rb m e).shape; exact c.cell rb o (shape_lt hs)
  shape rb et n e := by rw [c.shape rb (shape_lt e)]; exact e
/-- an object in a world that has more blocks -/
theorem OR.chg0 {G' : Gh} {o : AObj} {rb : Nat} (c : Chg0 w w') (e : Ext G w G' w') (h : OR ρ G w o rb) (hlt : rb < w.heap.size) : OR ρ G' w' o rb := by
  cases h with
  | cells cs _ vs et size h h1 hc hs hl hf =>
    exact .cells cs rb vs et size (h.ext e) h1 (fun j v hj => by rw [c.cell rb _ hlt]; exact hc j v hj) (e.shape _ _ _ hs) hl (fun o ho => by rw [c.frozen rb o hlt]; exact hf o ho)
  | bld t cs _ vs h h1 hc hs hf =>
    exact .bld t cs rb vs (h.ext e) h1 (fun j v hj => by rw [c.cell rb _ hlt]; exact hc j v hj) (e.shape _ _ _ hs) (fun o ho => by rw [c.frozen rb o hlt]; exact hf o ho)
  | map es cl _ rs h hw => exact .map es cl rb rs (h.ext e) (by rw [c.obj rb hlt]; exact hw)
  | miter m since seen last _ rm hm hw =>
    refine .miter m since seen last rb rm ?_ (by rw [c.obj rb hlt]; exact hw)
    rcases hm with hm | ⟨b, r, h1, h2, h3⟩
    · exact .inl hm
    · exact .inr ⟨b, r, h1, h2, e.io _ _ h3⟩
theorem IM.chg0 {rb : Nat} {m : Imm} (c : Chg0 w w') (h : IM U B s w rb m) : IM U B s w' rb m := by
  obtain ⟨et, hs⟩ := h.shape
  exact ⟨h.z, h.fit, by rw [c.obj rb (shape_lt hs)]; exact h.blk, h.top, h.tok, h.base⟩
theorem SR.chg0 (c : Chg0 w w') (h : SR U ρ B w0 G s w) : SR U ρ B w0 G s w' where
  blk b o rb ho hb := (h.blk b o rb ho hb).chg0 c (c.ext h) (h.lt b rb hb).1
  inj := h.inj
  new := h.new
  newt := h.newt
  even := h.even
  apart := h.apart
  im rb m hm := (h.im rb m hm).chg0 c
  lt b rb hb := ⟨Nat.lt_of_lt_of_le (h.lt b rb hb).1 c.size, (h.lt b rb hb).2⟩
  below := c.below h.below h.le
  le := Nat.le_trans h.le c.size
end
end Den

set_option autoImplicit false
set_option linter.unusedVariables false
namespace Den
open Go Go.RowKit

theorem E1.at_to (x : E1) (v : AV) (k k' : D8) : (x.to v k).at k' = if k = k' then v else x.at k' := by cases k <;> cases k' <;> simp [E1.to, E1.at]
theorem E2.at_to (x : E2) (v : E1) (k k' : D8) : (x.to v k).at k' = if k = k' then v else x.at k' := by cases k <;> cases k' <;> simp [E2.to, E2.at]
theorem Env.at_to (x : Env) (v : E2) (k k' : D8) : (x.to v k).at k' = if k = k' then v else x.at k' := by cases k <;> cases k' <;> simp [Env.to, Env.at]
theorem Env.get_put (e : Env) (s t : Slot) (v : AV) : (e.put s v).get t = if s = t then v else e.get t := by
  obtain ⟨i, j, k⟩ := s
  obtain ⟨i', j', k'⟩ := t
  simp only [Env.get, Env.put, Env.at_to]
  by_cases hi : i = i'
  · subst hi
    simp only [if_true, E2.at_to]
    by_cases hj : j = j'
    · subst hj
      simp only [if_true, E1.at_to]
      by_cases hk : k = k' <;> simp [hk]
    · simp [hj]
  · simp [hi]
def undig : D8 → Nat | .d0 => 0 | .d1 => 1 | .d2 => 2 | .d3 => 3 | .d4 => 4 | .d5 => 5 | .d6 => 6 | .d7 => 7
theorem undig_dig (n : Nat) (h : n < 8) : undig (dig n) = n := by
  match n, h with
  | 0, _ => rfl | 1, _ => rfl | 2, _ => rfl | 3, _ => rfl | 4, _ => rfl | 5, _ => rfl | 6, _ => rfl | 7, _ => rfl
theorem slot_inj {n m : Nat} {s : Slot} (h : slot n = some s) (k : slot m = some s) : n = m := by
  unfold slot at h k
  split at h <;> split at k <;> simp at h k
  rename_i hn hm
  have e := h.trans k.symm
  simp only [Slot.mk.injEq] at e
  obtain ⟨e1, e2, e3⟩ := e
  have f1 := congrArg undig e1
  have f2 := congrArg undig e2
  have f3 := congrArg undig e3
  rw [undig_dig _ (by omega), undig_dig _ (by omega)] at f1 f2 f3
  omega

section
variable (ρ : Vl) (G : Gh) (w : World)
/-- the environments fit at a temporary -/
def Fits (e : Env) (a : Act) (n : Nat) : Prop := ∀ s, slot n = some s → VR ρ G w (e.get s) (a.tmps.getD n undef)
end
section
variable {ρ : Vl} {G : Gh} {w : World}
theorem VR.undef : VR ρ G w (.lst .tup []) Go.undef := .tup [] [] .nil
theorem Fits.ext {G' : Gh} {w' : World} (x : Ext G w G' w') {e : Env} {a : Act} {n : Nat} (h : Fits ρ G w e a n) : Fits ρ G' w' e a n := fun s hs => (h s hs).ext x
theorem getD_put_ne (a : Act) (d n : Nat) (v : Value) (h : d ≠ n) : (a.put (some d) v).tmps.getD n Go.undef = a.tmps.getD n Go.undef := by
  simp [Act.put, Array.getElem?_setIfInBounds_ne h]
theorem getD_put_same (a : Act) (d : Nat) (v : Value) (h : d < a.tmps.size) : (a.put (some d) v).tmps.getD d Go.undef = v := by
  simp [Act.put, h]
theorem size_put (a : Act) (d : Option Nat) (v : Value) : (a.put d v).tmps.size = a.tmps.size := by
  cases d <;> simp [Act.put]
theorem Fits.put {e : Env} {a : Act} {d : Nat} {s : Slot} {v : AV} {rv : Value} (hd : d < a.tmps.size) (hs : slot d = some s) (hv : VR ρ G w v rv) {n : Nat} (h : n ≠ d → Fits ρ G w e a n) :
    Fits ρ G w (e.put s v) (a.put (some d) rv) n := by
  intro t ht
  by_cases hn : n = d
  · subst hn
    rw [hs] at ht; simp at ht; subst ht
    rw [Env.get_put, getD_put_same _ _ _ hd]; simpa using hv
  · have : s ≠ t := fun e => hn (slot_inj ht (e ▸ hs))
    rw [Env.get_put, getD_put_ne _ _ _ _ (Ne.symm hn), if_neg this]
    exact h hn t ht

theorem conv0_one {v : Value} {x : AV} (h : conv0 v = some x) : one x = true ∧ ∀ ys, x ≠ .lst .tup ys := by
  unfold conv0 at h
  split at h <;> (first | (simp at h; done) | (simp at h; subst h; exact ⟨rfl, fun ys => by simp⟩) | skip)
  split at h <;> simp at h
  subst h; exact ⟨rfl, fun ys => by simp⟩
theorem conv0_ok {v : Value} {x : AV} (h : conv0 v = some x) : VR ρ G w x v := by
  unfold conv0 at h
  split at h <;> try (simp at h)
  · subst h; exact .int _ (.c _)
  · subst h; exact .bool _
  · subst h; exact .str _ _ (Bs.of _)
  · subst h; exact .nilptr
  · subst h; exact .nilsl
  · subst h; exact .mapn
  · subst h; exact .nilfunc
  · subst h; exact .niliface
  · rename_i f a b
    split at h <;> simp at h
    subst h
    rename_i ha hb
    have key := VR.func (ρ := ρ) (G := G) (w := w) f 0 [] [] .nil (Nat.le_refl _)
    have ea : a = #[] := Array.ext' (by simpa using ha)
    have eb : b = #[] := Array.ext' (by simpa using hb)
    subst ea; subst eb
    simpa using key
theorem consO_some {α : Type} {a : Option α} {l : Option (List α)} {r : List α} (h : consO a l = some r) : ∃ x t, a = some x ∧ l = some t ∧ r = x :: t := by
  unfold consO at h
  split at h
  · simp at h; exact ⟨_, _, rfl, rfl, h.symm⟩
  · simp at h
theorem convs_ok : ∀ {l : List Value} {r : List AV}, convs l = some r → VRs ρ G w r l ∧ ones r
  | [], r, h => by simp [convs] at h; subst h; exact ⟨.nil, fun x hx => by cases hx⟩
  | v :: l, r, h => by
    simp only [convs] at h
    obtain ⟨x, t, h1, h2, rfl⟩ := consO_some h
    obtain ⟨h3, h4⟩ := convs_ok (l := l) h2
    refine ⟨.cons _ _ _ _ (conv0_ok h1) h3, fun y hy => ?_⟩
    rcases List.mem_cons.1 hy with rfl | hy
    · exact (conv0_one h1).1
    · exact h4 y hy
theorem convV_ok {v : Value} {x : AV} (h : convV v = some x) : VR ρ G w x v := by
  unfold convV at h
  split at h
  · rename_i cs
    cases hc : convs cs.toList with
    | none => simp [hc] at h
    | some l =>
      simp [hc] at h; subst h
      obtain ⟨h1, h2⟩ := convs_ok (ρ := ρ) (G := G) (w := w) hc
      have := VR.agg l cs.toList h1 h2
      simpa using this
  · rename_i cs
    cases hc : cs.toList with
    | nil =>
      simp [hc] at h; subst h
      have : cs = #[] := Array.ext' (by simpa using hc)
      subst this; exact .tup [] [] .nil
    | cons => simp [hc] at h
  · exact conv0_ok h
/-- an operand -/
theorem cOpd_ok {x : Operand} {o : Opd} {e : Env} {a : Act} (h : cOpd x = some o) (hx : ∀ n, x = .tmp n → Fits ρ G w e a n) : VR ρ G w (o.ev e) (a.eval x) := by
  cases x with
  | tmp t =>
    simp only [cOpd, Option.map_eq_some_iff] at h
    obtain ⟨s, hs, rfl⟩ := h
    exact hx t rfl s hs
  | const v =>
    simp only [cOpd, Option.map_eq_some_iff] at h
    obtain ⟨k, hk, rfl⟩ := h
    exact convV_ok hk
  | func f =>
    simp [cOpd] at h; subst h
    have key := VR.func (ρ := ρ) (G := G) (w := w) f 0 [] [] .nil (Nat.le_refl _)
    show VR ρ G w (.lst (.func f 0) []) (.func (.func f) #[] #[])
    simpa using key
  | global g => simp [cOpd] at h
end
end Den

set_option autoImplicit false
set_option linter.unusedVariables false
namespace Den
open Go Go.RowKit

theorem wrapC_eq (k : IntKind) (n : Int) : wrapC k n = k.wrap n := by
  unfold wrapC
  split
  · rename_i m
    split
    · rename_i h
      have h' : m ≤ 9223372036854775807 := Nat.le_of_ble_eq_true h
      exact (IntWalk.i64_in _ ⟨by simp <;> omega, by simp <;> omega⟩).symm
    · rfl
  · rename_i m
    split
    · rename_i h
      have h' : m ≤ 9223372036854775807 := Nat.le_of_ble_eq_true h
      exact (IntWalk.i64_in _ ⟨by omega, by omega⟩).symm
    · rfl
  · rename_i m; simp [IntKind.wrap, IntKind.bits, IntKind.signed]
  · rename_i m; simp [IntKind.wrap, IntKind.bits, IntKind.signed]
  · rename_i m; simp [IntKind.wrap, IntKind.bits, IntKind.signed]
  · rfl
theorem ltI_eq (a b : Int) : Int.lt' a b = decide (a < b) := by
  unfold Int.lt'
  split <;> rw [Bool.eq_iff_iff]
  · rename_i a b; rw [Nat.ble_eq]; simp; omega
  · rename_i a b; simp [Int.negSucc_eq]; omega
  · rename_i a b; simp [Int.negSucc_eq]; omega
  · rename_i a b; rw [Nat.ble_eq]; simp [Int.negSucc_eq]; omega
theorem eqI_eq (a b : Int) : Int.eq' a b = (a == b) := by
  unfold Int.eq'
  split <;> rw [Bool.eq_iff_iff]
  · rename_i a b; simp; omega
  · rename_i a b; simp [Int.negSucc_eq]; omega
  · rename_i a b; simp [Int.negSucc_eq]; omega
  · rename_i a b; simp [Int.negSucc_eq]; omega
theorem land_eq (k : IntKind) (x y : Nat) : k.wrap ((x &&& y : Nat) : Int) = k.wrap ((x % 2 ^ k.bits &&& y % 2 ^ k.bits : Nat) : Int) := by
  rw [← Nat.and_mod_two_pow]
  unfold IntKind.wrap
  have : (((x &&& y : Nat) : Int) % (2 ^ k.bits : Int)) = (((x &&& y) % 2 ^ k.bits : Nat) : Int) % (2 ^ k.bits : Int) := by
    push_cast
    rw [Int.emod_emod_of_dvd _ (Int.dvd_refl _)]
  rw [this]
theorem lor_eq (k : IntKind) (x y : Nat) : k.wrap ((x ||| y : Nat) : Int) = k.wrap ((x % 2 ^ k.bits ||| y % 2 ^ k.bits : Nat) : Int) := by
  rw [← Nat.or_mod_two_pow]
  unfold IntKind.wrap
  have : (((x ||| y : Nat) : Int) % (2 ^ k.bits : Int)) = (((x ||| y) % 2 ^ k.bits : Nat) : Int) % (2 ^ k.bits : Int) := by
    push_cast
    rw [Int.emod_emod_of_dvd _ (Int.dvd_refl _)]
  rw [this]

section
variable {ρ : Vl} {G : Gh} {w : World} {P : Program}
theorem VR.intC (k : IntKind) (n : Int) : VR ρ G w (.int k (.c n)) (.int k n) := .int k (.c n)
theorem VR.natC (n : Nat) : VR ρ G w (.int .i64 (.c (.ofNat n))) (goInt n) := .int .i64 (.c (Int.ofNat n))
theorem natV_ok {x : AV} {v : Value} {n : Nat} (h : VR ρ G w x v) (hn : natV x = some n) : ∃ k, v = .int k (n : Int) := by
  unfold natV at hn
  split at hn <;> simp at hn
  subst hn
  cases h
  exact ⟨_, rfl⟩

/-- integers -/
theorem iop_ok (op : BinOp) (t : TypeId) (k : IntKind) (a b : Int) (v : AV) (h : iop op k a b = some v) : ∃ rv, (∀ w, (binOp op t (.int k a) (.int k b)).run P w = .ok rv w) ∧ VR ρ G w v rv := by
  unfold iop at h
  split at h
  all_goals (try (simp at h; done))
  · simp at h; subst h; exact ⟨_, fun w => by simp [binOp, Op.intArith]; rfl, by rw [wrapC_eq]; exact .intC _ _⟩
  · simp at h; subst h; exact ⟨_, fun w => by simp [binOp, Op.intArith]; rfl, by rw [wrapC_eq]; exact .intC _ _⟩
  · simp at h; subst h; exact ⟨_, fun w => by simp [binOp, Op.intArith]; rfl, by rw [wrapC_eq]; exact .intC _ _⟩
  · split at h <;> simp at h
    rename_i hb
    subst h; exact ⟨.int k (k.wrap (a.tdiv b)), fun w => by simp [binOp, Op.intDiv, hb], by rw [wrapC_eq]; exact .intC _ _⟩
  · split at h <;> simp at h
    rename_i hb
    subst h; exact ⟨.int k (a.tmod b), fun w => by simp [binOp, Op.intDiv, hb], .intC _ _⟩
  · split at h <;> simp at h <;> subst h
    · rename_i x y
      refine ⟨.int k (k.wrap ((x % 2 ^ k.bits &&& y % 2 ^ k.bits : Nat) : Int)), fun w => by simp [binOp, Op.intBits], ?_⟩
      rw [← land_eq, wrapC_eq]; exact .intC _ _
    · exact ⟨.int k (k.wrap (BitVec.ofInt k.bits a &&& BitVec.ofInt k.bits b).toNat), fun w => by simp [binOp, Op.intBits], .intC _ _⟩
  · split at h <;> simp at h <;> subst h
    · rename_i x y
      refine ⟨.int k (k.wrap ((x % 2 ^ k.bits ||| y % 2 ^ k.bits : Nat) : Int)), fun w => by simp [binOp, Op.intBits], ?_⟩
      rw [← lor_eq, wrapC_eq]; exact .intC _ _
    · exact ⟨.int k (k.wrap (BitVec.ofInt k.bits a ||| BitVec.ofInt k.bits b).toNat), fun w => by simp [binOp, Op.intBits], .intC _ _⟩
  · simp at h; subst h; exact ⟨.int k (k.wrap (BitVec.ofInt k.bits a ^^^ BitVec.ofInt k.bits b).toNat), fun w => by simp [binOp, Op.intBits], .intC _ _⟩
  · simp at h; subst h; exact ⟨_, fun w => by simp [binOp, Op.intCmp]; rfl, by rw [eqI_eq]; exact .bool _⟩
  · simp at h; subst h; exact ⟨_, fun w => by simp [binOp, Op.intCmp]; rfl, by rw [eqI_eq]; exact .bool _⟩
  · simp at h; subst h; exact ⟨_, fun w => by simp [binOp, Op.intCmp]; rfl, by rw [ltI_eq]; exact .bool _⟩
  · simp at h; subst h
    refine ⟨.bool (decide (a ≤ b)), fun w => by simp [binOp, Op.intCmp], ?_⟩
    have : (!Int.lt' b a) = decide (a ≤ b) := by rw [ltI_eq]; by_cases h : a ≤ b <;> simp [h] <;> omega
    rw [this]; exact .bool _
  · simp at h; subst h; exact ⟨_, fun w => by simp [binOp, Op.intCmp]; rfl, by rw [ltI_eq]; exact .bool _⟩
  · simp at h; subst h
    refine ⟨.bool (decide (b ≤ a)), fun w => by simp [binOp, Op.intCmp], ?_⟩
    have : (!Int.lt' a b) = decide (b ≤ a) := by rw [ltI_eq]; by_cases h : b ≤ a <;> simp [h] <;> omega
    rw [this]; exact .bool _
  · split at h
    · rename_i n
      have hn : ¬ ((n : Int) < 0) := by omega
      injection h with h; subst h
      refine ⟨.int k (k.wrap (a * 2 ^ (min n k.bits))), fun w => by simp [binOp, Op.shift, hn], ?_⟩
      rw [wrapC_eq]
      have : a * Int.ofNat (2 ^ min n k.bits) = a * 2 ^ min n k.bits := by simp
      rw [this]; exact .intC _ _
    · cases h
  · split at h
    · rename_i m n
      have hn : ¬ ((n : Int) < 0) := by omega
      injection h with h; subst h
      refine ⟨.int k (Int.fdiv (m : Int) (2 ^ (min n k.bits))), fun w => by simp [binOp, Op.shift, hn], ?_⟩
      have : Int.fdiv (m : Int) (2 ^ (min n k.bits)) = Int.ofNat (m / 2 ^ (min n k.bits)) := by
        have h2 : ((2 : Int) ^ (min n k.bits)) = ((2 ^ (min n k.bits) : Nat) : Int) := by simp
        rw [h2, Int.fdiv_eq_ediv_of_nonneg _ (Int.natCast_nonneg _)]; rfl
      rw [this]; exact .intC _ _
    · rename_i n _
      have hn : ¬ ((n : Int) < 0) := by omega
      injection h with h; subst h
      exact ⟨.int k (Int.fdiv a (2 ^ (min n k.bits))), fun w => by simp [binOp, Op.shift, hn], .intC _ _⟩
    · cases h
end
end Den

set_option autoImplicit false
set_option linter.unusedVariables false
namespace Den
open Go Go.RowKit
section
variable {ρ : Vl}
theorem SI.val_c (n : Int) : (SI.c n).val ρ = n := rfl
theorem SI.val_eq (x : SI) : x.val ρ = x.k + valT ρ x.ts := by cases x <;> simp [SI.val, SI.k, SI.ts, valT]
theorem val_mkS (k : Int) (ts : List (Nat × Int)) : (mkS k ts).val ρ = k + valT ρ ts := by cases ts <;> simp [mkS, SI.val, valT]
theorem mkS_k (k : Int) (ts : List (Nat × Int)) : (mkS k ts).k = k := by cases ts <;> rfl
theorem mkS_ts (k : Int) (ts : List (Nat × Int)) : (mkS k ts).ts = ts := by cases ts <;> rfl
theorem valT_ins (s : Nat) (c : Int) : ∀ l, valT ρ (insT s c l) = c * ρ.f s + valT ρ l
  | [] => rfl
  | (s', c') :: r => by
    simp only [insT]
    split
    · rename_i h; subst h
      split
      · rename_i h0
        have : c = -c' := by omega
        subst this
        simp only [valT, Int.neg_mul]; omega
      · simp only [valT, Int.add_mul]; omega
    · split
      · rfl
      · simp only [valT, valT_ins s c r]; omega
theorem valT_add (a : List (Nat × Int)) : ∀ b, valT ρ (addT a b) = valT ρ a + valT ρ b
  | [] => by simp [addT, valT]
  | (s, c) :: r => by simp only [addT, valT_ins, valT_add a r, valT]; omega
theorem valT_sc (m : Int) : ∀ l, valT ρ (scT m l) = m * valT ρ l
  | [] => by simp [scT, valT]
  | (s, c) :: r => by simp only [scT, valT, valT_sc m r, Int.mul_add, Int.mul_assoc]
theorem loT_le : ∀ l, loT l ≤ valT ρ l
  | [] => by simp [loT, valT]
  | (s, c) :: r => by
    have h := loT_le r
    obtain ⟨h1, h2⟩ := ρ.ok s
    simp only [loT, valT]
    split
    · rename_i hc
      have := Int.mul_le_mul_of_nonpos_left (a := c) (by omega) h2
      omega
    · rename_i hc
      have := Int.mul_nonneg (a := c) (by omega) h1
      omega
theorem le_hiT : ∀ l, valT ρ l ≤ hiT l
  | [] => by simp [hiT, valT]
  | (s, c) :: r => by
    have h := le_hiT r
    obtain ⟨h1, h2⟩ := ρ.ok s
    simp only [hiT, valT]
    split
    · rename_i hc
      have := Int.mul_nonneg (a := -c) (b := ρ.f s) (by omega) h1
      rw [Int.neg_mul] at this
      omega
    · rename_i hc
      have := Int.mul_le_mul_of_nonneg_left (c := c) h2 (by omega)
      omega
theorem SI.lo_le (x : SI) : x.lo ≤ x.val ρ := by rw [SI.val_eq]; have := loT_le (ρ := ρ) x.ts; unfold SI.lo; omega
theorem SI.le_hi (x : SI) : x.val ρ ≤ x.hi := by rw [SI.val_eq]; have := le_hiT (ρ := ρ) x.ts; unfold SI.hi; omega
theorem val_addS (a b : SI) : (addS a b).val ρ = a.val ρ + b.val ρ := by rw [addS, val_mkS, valT_add, SI.val_eq a, SI.val_eq b]; omega
theorem val_subS (a b : SI) : (subS a b).val ρ = a.val ρ - b.val ρ := by rw [subS, val_mkS, valT_add, valT_sc, SI.val_eq a, SI.val_eq b]; omega
theorem val_scS (m : Int) (a : SI) : (scS m a).val ρ = m * a.val ρ := by
  unfold scS
  split
  · rename_i h; subst h; simp [SI.val_c]
  · rw [val_mkS, valT_sc, SI.val_eq a, Int.mul_add]
theorem splitT_ok (p : Int) : ∀ l, valT ρ l = p * valT ρ (splitT p l).1 + valT ρ (splitT p l).2
  | [] => by simp [splitT, valT]
  | (s, c) :: r => by
    have h := splitT_ok p r
    simp only [splitT]
    split
    · rename_i hc
      have : c = p * (c / p) := by have := Int.mul_ediv_add_emod c p; omega
      simp only [valT, Int.mul_add]
      rw [h]
      have e : c * ρ.f s = p * (c / p * ρ.f s) := by rw [← Int.mul_assoc, ← this]
      omega
    · simp only [valT]; omega
theorem splitS_ok {p : Int} {x q r : SI} (h : splitS p x = some (q, r)) : x.val ρ = p * q.val ρ + r.val ρ ∧ 0 ≤ r.val ρ ∧ r.val ρ < p ∧ 0 < p := by
  simp only [splitS] at h
  split at h
  · rename_i hc
    obtain ⟨h1, h2, h3⟩ := hc
    injection h with h
    injection h with e1 e2
    subst e1; subst e2
    have k1 := SI.lo_le (ρ := ρ) (mkS (x.k % p) (splitT p x.ts).2)
    have k2 := SI.le_hi (ρ := ρ) (mkS (x.k % p) (splitT p x.ts).2)
    refine ⟨?_, by omega, by omega, h1⟩
    rw [val_mkS, val_mkS, SI.val_eq x, splitT_ok p x.ts, Int.mul_add]
    have := Int.mul_ediv_add_emod x.k p
    omega
  · cases h
theorem split_div {p : Int} {x q r : SI} (h : splitS p x = some (q, r)) : x.val ρ / p = q.val ρ ∧ x.val ρ % p = r.val ρ := by
  obtain ⟨h1, h2, h3, h4⟩ := splitS_ok (ρ := ρ) h
  exact (Int.ediv_emod_unique h4).2 ⟨by omega, h2, h3⟩
theorem wrap_in {k : IntKind} {n : Int} (h1 : k.min ≤ n) (h2 : n ≤ k.max) : k.wrap n = n := by
  cases k <;> simp [IntKind.min, IntKind.max, IntKind.wrap, IntKind.signed, IntKind.bits] at h1 h2 ⊢ <;> omega
theorem inK_ok {k : IntKind} {x : SI} (h : inK k x = true) : k.wrap (x.val ρ) = x.val ρ ∧ k.min ≤ x.val ρ ∧ x.val ρ ≤ k.max := by
  simp only [inK, Bool.and_eq_true, decide_eq_true_eq] at h
  have h1 := SI.lo_le (ρ := ρ) x
  have h2 := SI.le_hi (ρ := ρ) x
  exact ⟨wrap_in (by omega) (by omega), by omega, by omega⟩
theorem cmpLt_ok {a b : SI} {r : Bool} (h : cmpLt a b = some r) : decide (a.val ρ < b.val ρ) = r := by
  simp only [cmpLt] at h
  have h1 := SI.lo_le (ρ := ρ) (subS a b)
  have h2 := SI.le_hi (ρ := ρ) (subS a b)
  rw [val_subS] at h1 h2
  split at h
  · injection h with h; subst h; simp; omega
  · split at h
    · injection h with h; subst h; simp; omega
    · cases h
theorem cmpEq_ok {a b : SI} {r : Bool} (h : cmpEq a b = some r) : (a.val ρ == b.val ρ) = r := by
  simp only [cmpEq] at h
  have h1 := SI.lo_le (ρ := ρ) (subS a b)
  have h2 := SI.le_hi (ρ := ρ) (subS a b)
  have h3 := val_subS (ρ := ρ) a b
  split at h
  · rename_i n hn
    rw [hn] at h3
    simp only [SI.val_c] at h3
    injection h with h; subst h
    rw [eqI_eq, Bool.eq_iff_iff]; simp; omega
  · split at h
    · injection h with h; subst h
      rw [beq_eq_false_iff_ne]; omega
    · cases h
theorem ltS_ok {a b : SI} {r : Bool} (h : ltS a b = some r) : decide (a.val ρ < b.val ρ) = r := by
  unfold ltS at h
  split at h
  · injection h with h; rw [← h, ltI_eq]; rfl
  · exact cmpLt_ok h
theorem eqS_ok {a b : SI} {r : Bool} (h : (match a, b with | .c a, .c b => some (Int.eq' a b) | a, b => cmpEq a b) = some r) : (a.val ρ == b.val ρ) = r := by
  split at h
  · injection h with h; rw [← h, eqI_eq]; rfl
  · exact cmpEq_ok h
theorem bits_le (k : IntKind) : (k.max : Int) < 2 ^ k.bits := by cases k <;> decide
theorem toNat_ofInt {b : Nat} {x : Int} (h1 : 0 ≤ x) (h2 : x < 2 ^ b) : (BitVec.ofInt b x).toNat = x.toNat := by
  rw [BitVec.toNat_ofInt, Int.emod_eq_of_lt h1 (by push_cast; exact h2)]
theorem or_val {b n : Nat} {x y q : Int} (hx : x = 2 ^ n * q) (h0 : 0 ≤ x) (h1 : 0 ≤ y) (h2 : y < 2 ^ n) (h3 : x + y < 2 ^ b) : ((BitVec.ofInt b x ||| BitVec.ofInt b y).toNat : Int) = x + y := by
  rw [BitVec.toNat_or, toNat_ofInt h0 (by omega), toNat_ofInt h1 (by omega)]
  have hp : (0 : Int) < 2 ^ n := Int.pow_pos (by decide)
  have hq : 0 ≤ q := by
    rcases Int.lt_or_le q 0 with h | h
    · have := Int.mul_neg_of_pos_of_neg hp h
      omega
    · exact h
  obtain ⟨m, rfl⟩ := Int.eq_ofNat_of_zero_le hq
  obtain ⟨z, rfl⟩ := Int.eq_ofNat_of_zero_le h1
  have ex : x.toNat = 2 ^ n * m := by
    rw [hx]
    have : ((2 : Int) ^ n * (m : Int)) = ((2 ^ n * m : Nat) : Int) := by push_cast; rfl
    rw [this]; rfl
  have hz : z < 2 ^ n := by
    have : ((z : Nat) : Int) < ((2 ^ n : Nat) : Int) := by push_cast; exact h2
    exact Int.ofNat_lt.1 this
  rw [ex]
  show ((2 ^ n * m ||| z : Nat) : Int) = x + z
  rw [← Nat.two_pow_add_eq_or_of_lt hz, hx]
  push_cast; rfl
theorem and_val {b j : Nat} {x : Int} (hj : j ≤ b) {m : Nat} (hm : m + 1 = 2 ^ j) : ((BitVec.ofInt b x &&& BitVec.ofInt b (m : Int)).toNat : Int) = x % 2 ^ j := by
  have hle : 2 ^ j ≤ 2 ^ b := Nat.pow_le_pow_right (by decide) hj
  rw [BitVec.toNat_and, toNat_ofInt (x := (m : Int)) (by omega) (by
    have : ((m : Nat) : Int) < ((2 ^ b : Nat) : Int) := by omega
    push_cast at this; exact this)]
  have e : ((m : Int)).toNat = 2 ^ j - 1 := by simp; omega
  rw [e, Nat.and_two_pow_sub_one_eq_mod, BitVec.toNat_ofInt]
  have h0 : 0 ≤ x % ((2 ^ b : Nat) : Int) := Int.emod_nonneg _ (by have : 0 < 2 ^ b := Nat.pos_of_ne_zero (by simp); omega)
  rw [Int.natCast_emod, Int.toNat_of_nonneg h0]
  push_cast
  exact Int.emod_emod_of_dvd _ (by
    obtain ⟨c, rfl⟩ := Nat.exists_eq_add_of_le hj
    rw [Int.pow_add]; exact Int.dvd_mul_right _ _)
end
section
variable {ρ : Vl} {G : Gh} {w : World} {P : Program}
theorem fitK_ok {k : IntKind} {x : SI} {v : AV} (h : fitK k x = some v) : v = .int k x ∧ k.wrap (x.val ρ) = x.val ρ ∧ k.min ≤ x.val ρ ∧ x.val ρ ≤ k.max := by
  simp only [fitK] at h
  split at h
  · rename_i hi
    injection h with h
    exact ⟨h.symm, inK_ok hi⟩
  · cases h
theorem VR.intE {k : IntKind} {x : SI} {n : Int} (h : n = x.val ρ) : VR ρ G w (.int k x) (.int k n) := by rw [h]; exact .int k x
theorem orS_ok {k : IntKind} {x y : SI} {v : AV} (h : orS k x y = some v) : VR ρ G w v (.int k (k.wrap (BitVec.ofInt k.bits (x.val ρ) ||| BitVec.ofInt k.bits (y.val ρ)).toNat)) := by
  simp only [orS] at h
  split at h
  · rename_i q hs
    split at h
    · rename_i hc
      obtain ⟨h1, h2, h3⟩ := hc
      obtain ⟨e1, e2, e3, e4⟩ := fitK_ok (ρ := ρ) h
      obtain ⟨s1, s2, s3, s4⟩ := splitS_ok (ρ := ρ) hs
      rw [val_addS] at e2 e3 e4
      have k1 := SI.lo_le (ρ := ρ) x
      have k2 := SI.lo_le (ρ := ρ) y
      have k3 := SI.le_hi (ρ := ρ) y
      have hb := bits_le k
      simp only [SI.val_c] at s1
      rw [e1]
      refine .intE ?_
      rw [or_val (n := y.hi.toNat.log2 + 1) (q := q.val ρ) (by rw [s1]; simp) (by omega) (by omega) (by omega) (by omega), e2, val_addS]
    · cases h
  · cases h
theorem boolO_ok {neg : Bool} {o : Option Bool} {v : AV} (h : boolO neg o = some v) : ∃ b, o = some b ∧ v = .bool (if neg then !b else b) := by
  cases o with
  | none => cases h
  | some b => cases neg <;> (injection h with h; exact ⟨b, rfl, by rw [← h]; rfl⟩)
theorem symI_ok {op : BinOp} {t : TypeId} {k k' : IntKind} {a b : SI} {v : AV} (hk : op = .shl ∨ op = .shr ∨ k' = k) (h : symI op k a b = some v) :
    ∃ rv, (∀ w, (binOp op t (.int k (a.val ρ)) (.int k' (b.val ρ))).run P w = .ok rv w) ∧ VR ρ G w v rv := by
  have hkk : op ≠ .shl → op ≠ .shr → k' = k := fun h1 h2 => by
    rcases hk with h | h | h
    · exact absurd h h1
    · exact absurd h h2
    · exact h
  unfold symI at h
  split at h
  · obtain rfl := hkk (by simp) (by simp)
    obtain ⟨e1, e2, _⟩ := fitK_ok (ρ := ρ) h
    subst e1
    exact ⟨_, fun w => by simp [binOp, Op.intArith]; rfl, .intE (by rw [val_addS] at e2 ⊢; exact e2)⟩
  · obtain rfl := hkk (by simp) (by simp)
    obtain ⟨e1, e2, _⟩ := fitK_ok (ρ := ρ) h
    subst e1
    exact ⟨_, fun w => by simp [binOp, Op.intArith]; rfl, .intE (by rw [val_subS] at e2 ⊢; exact e2)⟩
  · obtain rfl := hkk (by simp) (by simp)
    split at h
    · obtain ⟨e1, e2, _⟩ := fitK_ok (ρ := ρ) h
      subst e1
      exact ⟨_, fun w => by simp [binOp, Op.intArith]; rfl, .intE (by rw [val_scS] at e2 ⊢; simp only [SI.val_c]; rw [Int.mul_comm]; exact e2)⟩
    · obtain ⟨e1, e2, _⟩ := fitK_ok (ρ := ρ) h
      subst e1
      exact ⟨_, fun w => by simp [binOp, Op.intArith]; rfl, .intE (by rw [val_scS] at e2 ⊢; simp only [SI.val_c]; exact e2)⟩
    · cases h
  · obtain rfl := hkk (by simp) (by simp)
    split at h
    · rename_i p
      split at h
      · rename_i h0
        split at h
        · rename_i q r hs
          obtain ⟨e1, e2, _⟩ := fitK_ok (ρ := ρ) h
          subst e1
          obtain ⟨_, _, _, hp⟩ := splitS_ok (ρ := ρ) hs
          have hp0 : ¬ p = 0 := by omega
          have := SI.lo_le (ρ := ρ) a
          refine ⟨_, fun w => by simp [binOp, Op.intDiv, SI.val_c, hp0]; rfl, .intE ?_⟩
          rw [Int.tdiv_eq_ediv_of_nonneg (by omega), (split_div hs).1]; exact e2
        · cases h
      · cases h
    · cases h
  · obtain rfl := hkk (by simp) (by simp)
    split at h
    · rename_i p
      split at h
      · rename_i h0
        split at h
        · rename_i q r hs
          injection h with h; subst h
          obtain ⟨_, _, _, hp⟩ := splitS_ok (ρ := ρ) hs
          have hp0 : ¬ p = 0 := by omega
          have := SI.lo_le (ρ := ρ) a
          refine ⟨_, fun w => by simp [binOp, Op.intDiv, SI.val_c, hp0]; rfl, .intE ?_⟩
          rw [Int.tmod_eq_emod_of_nonneg (by omega), (split_div hs).2]
        · cases h
      · cases h
    · cases h
  · obtain rfl := hkk (by simp) (by simp)
    split at h
    · rename_i m
      split at h
      · rename_i hc
        obtain ⟨c1, c2⟩ := hc
        split at h
        · rename_i q r hs
          obtain ⟨e1, e2, _⟩ := fitK_ok (ρ := ρ) h
          subst e1
          refine ⟨.int k' (k'.wrap (BitVec.ofInt k'.bits (a.val ρ) &&& BitVec.ofInt k'.bits (m : Int)).toNat), fun w => by simp [binOp, Op.intBits, SI.val_c], .intE ?_⟩
          have hm : m + 1 = 2 ^ (m.log2 + 1) := by rw [Nat.pow_succ]; exact c1
          rw [and_val (b := k'.bits) (x := a.val ρ) c2 hm]
          have hsd := (split_div (ρ := ρ) hs).2
          have e : (Int.ofNat (m + 1)) = (2 : Int) ^ (m.log2 + 1) := by
            rw [hm]; simp
          rw [e] at hsd
          rw [hsd]; exact e2
        · cases h
      · cases h
    · cases h
  · obtain rfl := hkk (by simp) (by simp)
    split at h
    · rename_i v' ho
      injection h with h; subst h
      exact ⟨_, fun w => by simp [binOp, Op.intBits], orS_ok ho⟩
    · refine ⟨.int k' (k'.wrap (BitVec.ofInt k'.bits (a.val ρ) ||| BitVec.ofInt k'.bits (b.val ρ)).toNat), fun w => by simp [binOp, Op.intBits], ?_⟩
      rw [BitVec.or_comm]
      exact orS_ok h
  · obtain rfl := hkk (by simp) (by simp)
    obtain ⟨c, h1, h2⟩ := boolO_ok h
    subst h2
    refine ⟨_, fun w => by simp [binOp, Op.intCmp]; rfl, ?_⟩
    rw [cmpEq_ok h1]; exact .bool _
  · obtain rfl := hkk (by simp) (by simp)
    obtain ⟨c, h1, h2⟩ := boolO_ok h
    subst h2
    refine ⟨.bool (!(a.val ρ == b.val ρ)), fun w => by simp [binOp, Op.intCmp, bne], ?_⟩
    rw [cmpEq_ok h1]; exact .bool _
  · obtain rfl := hkk (by simp) (by simp)
    obtain ⟨c, h1, h2⟩ := boolO_ok h
    subst h2
    refine ⟨_, fun w => by simp [binOp, Op.intCmp]; rfl, ?_⟩
    rw [cmpLt_ok h1]; exact .bool _
  · obtain rfl := hkk (by simp) (by simp)
    obtain ⟨c, h1, h2⟩ := boolO_ok h
    subst h2
    have hd : decide (a.val ρ ≤ b.val ρ) = !decide (b.val ρ < a.val ρ) := by rw [Bool.eq_iff_iff]; simp
    refine ⟨.bool (!decide (b.val ρ < a.val ρ)), fun w => by simp [binOp, Op.intCmp, hd], ?_⟩
    rw [cmpLt_ok h1]; exact .bool _
  · obtain rfl := hkk (by simp) (by simp)
    obtain ⟨c, h1, h2⟩ := boolO_ok h
    subst h2
    refine ⟨.bool (decide (b.val ρ < a.val ρ)), fun w => by simp [binOp, Op.intCmp], ?_⟩
    rw [cmpLt_ok h1]; exact .bool _
  · obtain rfl := hkk (by simp) (by simp)
    obtain ⟨c, h1, h2⟩ := boolO_ok h
    subst h2
    have hd : decide (b.val ρ ≤ a.val ρ) = !decide (a.val ρ < b.val ρ) := by rw [Bool.eq_iff_iff]; simp
    refine ⟨.bool (!decide (a.val ρ < b.val ρ)), fun w => by simp [binOp, Op.intCmp, hd], ?_⟩
    rw [cmpLt_ok h1]; exact .bool _
  · split at h
    · rename_i n
      split at h
      · rename_i hn
        obtain ⟨e1, e2, _⟩ := fitK_ok (ρ := ρ) h
        subst e1
        have h0 : ¬ ((n : Int) < 0) := by omega
        refine ⟨.int k (k.wrap (a.val ρ * 2 ^ n)), fun w => by simp [binOp, Op.shift, SI.val_c, h0, Nat.min_eq_left (Nat.le_of_lt hn)], .intE ?_⟩
        rw [val_scS] at e2 ⊢
        rw [Int.mul_comm]; exact e2
      · cases h
    · cases h
  · split at h
    · rename_i n
      split at h
      · rename_i hn
        split at h
        · rename_i q r hs
          injection h with h; subst h
          have h0 : ¬ ((n : Int) < 0) := by omega
          refine ⟨.int k ((a.val ρ).fdiv (2 ^ n)), fun w => by simp [binOp, Op.shift, SI.val_c, h0, Nat.min_eq_left (Nat.le_of_lt hn)], .intE ?_⟩
          obtain ⟨_, _, _, hp⟩ := splitS_ok (ρ := ρ) hs
          rw [Int.fdiv_eq_ediv_of_nonneg _ (by omega), (split_div hs).1]
        · cases h
      · cases h
    · cases h
  · cases h
theorem cvtS_ok {k : IntKind} {x : SI} {v : AV} (h : cvtS k x = some v) : VR ρ G w v (.int k (k.wrap (x.val ρ))) := by
  unfold cvtS at h
  split at h
  · rename_i hi
    injection h with h; subst h
    exact .intE (inK_ok hi).1
  · split at h
    · cases h
    · rename_i hk
      split at h
      · rename_i q r hs
        injection h with h; subst h
        refine .intE ?_
        have := (split_div (ρ := ρ) hs).2
        simp only [IntKind.wrap, hk, Bool.false_and, Bool.false_eq_true, if_false]
        exact this
      · cases h
theorem sameT_eq : ∀ {a b : List (Nat × Int)}, sameT a b = true → a = b
  | [], [], _ => rfl
  | [], _ :: _, h => by cases h
  | _ :: _, [], h => by cases h
  | (s, c) :: x, (s', c') :: y, h => by
    simp only [sameT, Bool.and_eq_true] at h
    obtain ⟨h1, h2, h3⟩ := h
    rw [eqI_eq] at h2
    rw [Nat.eq_of_beq_eq_true h1, eq_of_beq h2, sameT_eq h3]
theorem sameS_eq {a b : SI} (h : sameS a b = true) : a = b := by
  cases a <;> cases b <;> simp only [sameS, Bool.and_eq_true, eqI_eq, Bool.false_eq_true] at h
  · rw [eq_of_beq h]
  · rw [eq_of_beq h.1, sameT_eq h.2]
theorem encB_ok {x : SI} {n : Nat} (h : encB x = some n) : bv ρ n = x.val ρ ∧ 0 ≤ x.val ρ ∧ x.val ρ ≤ 255 := by
  unfold encB at h
  split at h
  · rename_i m
    split at h
    · rename_i hm
      injection h with h; subst h
      have := Nat.le_of_ble_eq_true hm
      rw [bv_lt this]
      simp only [SI.val_c]
      exact ⟨rfl, by simp, by simp; omega⟩
    · cases h
  · cases h
  · simp only at h
    split at h
    · rename_i hc
      obtain ⟨h1, h2, h3⟩ := hc
      injection h with h; subst h
      have := sameS_eq h3
      unfold bv
      rw [this]
      have k1 := SI.lo_le (ρ := ρ) (.l (by assumption) (by assumption))
      exact ⟨rfl, Int.le_trans h1 (SI.lo_le _), Int.le_trans (SI.le_hi _) h2⟩
    · cases h
theorem byteEq_ok {a b : Nat} {x y : UInt8} {r : Bool} (hx : (x.toNat : Int) = bv ρ a) (hy : (y.toNat : Int) = bv ρ b) (h : byteEq a b = some r) : (x == y) = r := by
  have e : (x == y) = ((x.toNat : Int) == (y.toNat : Int)) := by
    rw [Bool.eq_iff_iff]; simp only [beq_iff_eq]
    exact ⟨fun h => by rw [h], fun h => UInt8.toNat_inj.1 (by omega)⟩
  rw [e]
  unfold byteEq at h
  split at h
  · rename_i hab
    have := Nat.eq_of_beq_eq_true hab
    subst this
    injection h with h; subst h
    rw [hx, hy]; simp
  · rename_i hab
    split at h
    · rename_i hc
      rw [Bool.and_eq_true] at hc
      have h1 := Nat.le_of_ble_eq_true hc.1
      have h2 := Nat.le_of_ble_eq_true hc.2
      injection h with h; subst h
      rw [bv_lt h1] at hx
      rw [bv_lt h2] at hy
      rw [hx, hy, beq_eq_false_iff_ne]
      intro hq
      have : a = b := by omega
      subst this
      rw [Nat.beq_refl] at hab; cases hab
    · rw [hx, hy]
      exact cmpEq_ok h
theorem byteLt_ok {a b : Nat} {x y : UInt8} {r : Bool} (hx : (x.toNat : Int) = bv ρ a) (hy : (y.toNat : Int) = bv ρ b) (h : byteLt a b = some r) : decide (x < y) = r := by
  have e : decide (x < y) = decide ((x.toNat : Int) < (y.toNat : Int)) := by
    rw [Bool.eq_iff_iff]; simp only [decide_eq_true_eq, UInt8.lt_iff_toNat_lt]; omega
  rw [e]
  unfold byteLt at h
  split at h
  · rename_i hc
    rw [Bool.and_eq_true] at hc
    have h1 := Nat.le_of_ble_eq_true hc.1
    have h2 := Nat.le_of_ble_eq_true hc.2
    injection h with h; subst h
    rw [bv_lt h1] at hx
    rw [bv_lt h2] at hy
    rw [hx, hy, Bool.eq_iff_iff, Nat.ble_eq]; simp; omega
  · rw [hx, hy]
    exact cmpLt_ok h
theorem strEqQ_ok : ∀ {a b : List Nat} {x y : List UInt8} {r : Bool}, Bs ρ a x → Bs ρ b y → strEqQ a b = some r → (x == y) = r
  | [], [], x, y, r, hx, hy, h => by
    have h1 := hx.length; have h2 := hy.length
    simp only [strEqQ, Option.some.injEq] at h; subst h
    rw [List.eq_nil_of_length_eq_zero h1, List.eq_nil_of_length_eq_zero h2]; rfl
  | [], n :: b, x, y, r, hx, hy, h => by
    have h1 := hx.length
    obtain ⟨q, t, rfl, _, _⟩ := hy.uncons
    simp only [strEqQ, Option.some.injEq] at h; subst h
    rw [List.eq_nil_of_length_eq_zero h1]; rfl
  | n :: a, [], x, y, r, hx, hy, h => by
    have h1 := hy.length
    obtain ⟨q, t, rfl, _, _⟩ := hx.uncons
    simp only [strEqQ, Option.some.injEq] at h; subst h
    rw [List.eq_nil_of_length_eq_zero h1]; rfl
  | n :: a, m :: b, x, y, r, hx, hy, h => by
    obtain ⟨p, s, rfl, h1, h2⟩ := hx.uncons
    obtain ⟨q, t, rfl, h3, h4⟩ := hy.uncons
    rw [List.cons_beq_cons]
    simp only [strEqQ] at h
    split at h
    · rename_i hb
      rw [byteEq_ok h1 h3 hb, Bool.true_and]
      exact strEqQ_ok h2 h4 h
    · rename_i hb
      injection h with h; subst h
      rw [byteEq_ok h1 h3 hb, Bool.false_and]
    · split at h
      · rename_i hr
        injection h with h; subst h
        rw [strEqQ_ok h2 h4 hr, Bool.and_false]
      · cases h
theorem strLtQ_ok : ∀ {a b : List Nat} {x y : List UInt8} {r : Bool}, Bs ρ a x → Bs ρ b y → strLtQ a b = some r → Op.bytesLess x y = r
  | a, [], x, y, r, hx, hy, h => by
    have h1 := hy.length
    have : y = [] := List.eq_nil_of_length_eq_zero h1
    subst this
    have hr : r = false := by
      cases a <;> (simp only [strLtQ, Option.some.injEq] at h; exact h.symm)
    subst hr
    cases x <;> rfl
  | [], n :: b, x, y, r, hx, hy, h => by
    have h1 := hx.length
    obtain ⟨q, t, rfl, _, _⟩ := hy.uncons
    simp only [strLtQ, Option.some.injEq] at h; subst h
    rw [List.eq_nil_of_length_eq_zero h1]; rfl
  | n :: a, m :: b, x, y, r, hx, hy, h => by
    obtain ⟨p, s, rfl, h1, h2⟩ := hx.uncons
    obtain ⟨q, t, rfl, h3, h4⟩ := hy.uncons
    show (decide (p < q) || (p == q && Op.bytesLess s t)) = r
    simp only [strLtQ] at h
    split at h
    · rename_i hb
      have e := byteEq_ok h1 h3 hb
      have e' := eq_of_beq e
      subst e'
      have : decide (p < p) = false := by simp
      rw [this, e, Bool.false_or, Bool.true_and]
      exact strLtQ_ok h2 h4 h
    · rename_i hb
      rw [byteEq_ok h1 h3 hb, Bool.false_and, Bool.or_false]
      exact byteLt_ok h1 h3 h
    · cases h
theorem less_total : ∀ x y : List UInt8, (Op.bytesLess x y || x == y) = !(Op.bytesLess y x)
  | [], [] => rfl
  | [], _ :: _ => rfl
  | _ :: _, [] => rfl
  | a :: x, b :: y => by
    have ih := less_total x y
    show ((decide (a < b) || (a == b && Op.bytesLess x y)) || (a :: x) == (b :: y)) = !(decide (b < a) || (b == a && Op.bytesLess y x))
    rw [List.cons_beq_cons]
    rcases Nat.lt_trichotomy a.toNat b.toNat with h | h | h
    · have h1 : a < b := UInt8.lt_iff_toNat_lt.2 h
      have h2 : ¬ b < a := by rw [UInt8.lt_iff_toNat_lt]; omega
      have h3 : ¬ b = a := by rintro rfl; omega
      simp [h1, h2, h3]
    · have : a = b := UInt8.toNat_inj.1 h
      subst this
      have h2 : ¬ a < a := by rw [UInt8.lt_iff_toNat_lt]; omega
      simp only [h2, decide_false, beq_self_eq_true, Bool.true_and, Bool.false_or]
      exact ih
    · have h1 : b < a := UInt8.lt_iff_toNat_lt.2 h
      have h2 : ¬ a < b := by rw [UInt8.lt_iff_toNat_lt]; omega
      have h3 : ¬ a = b := by rintro rfl; omega
      simp [h1, h2, h3]
end
end Den

set_option autoImplicit false
set_option linter.unusedVariables false
namespace Den
open Go Go.RowKit

theorem strEq_eq : ∀ a b : List Nat, strEq a b = (a == b)
  | [], [] => rfl
  | [], _ :: _ => rfl
  | _ :: _, [] => rfl
  | a :: x, b :: y => by
    have h : strEq (a :: x) (b :: y) = (match Nat.beq a b with | true => strEq x y | false => false) := rfl
    rw [h, List.cons_beq_cons, ← strEq_eq x y]
    cases hb : Nat.beq a b
    · have : (a == b) = false := by rw [beq_eq_false_iff_ne]; intro h; subst h; rw [Nat.beq_refl] at hb; cases hb
      simp [this]
    · have : (a == b) = true := by rw [beq_iff_eq]; exact Nat.eq_of_beq_eq_true hb
      simp [this]
theorem toNat_inj : ∀ {a b : List UInt8}, a.map (·.toNat) = b.map (·.toNat) → a = b
  | [], [], _ => rfl
  | [], _ :: _, h => by simp at h
  | _ :: _, [], h => by simp at h
  | a :: x, b :: y, h => by
    simp only [List.map_cons, List.cons.injEq] at h
    rw [toNat_inj h.2, UInt8.toNat_inj.1 h.1]
section
variable {ρ : Vl} {G : Gh} {w : World} {P : Program}
theorem sop_ok (op : BinOp) (t : TypeId) (a b : List Nat) (v : AV) (x y : ByteArray) (hx : Bs ρ a x.data.toList) (hy : Bs ρ b y.data.toList) (h : sop op a b = some v) :
    ∃ rv, (∀ w, (binOp op t (.string x) (.string y)).run P w = .ok rv w) ∧ VR ρ G w v rv := by
  have he : ∀ r, strEqQ a b = some r → (x.toList == y.toList) = r := fun r hr => by
    rw [ByteArray.toList_eq, ByteArray.toList_eq]; exact strEqQ_ok hx hy hr
  have hl : ∀ r, strLtQ a b = some r → Op.bytesLess x.toList y.toList = r := fun r hr => by
    rw [ByteArray.toList_eq, ByteArray.toList_eq]; exact strLtQ_ok hx hy hr
  have hg : ∀ r, strLtQ b a = some r → (Op.bytesLess x.toList y.toList || x.toList == y.toList) = !r := fun r hr => by
    rw [ByteArray.toList_eq, ByteArray.toList_eq, less_total, strLtQ_ok hy hx hr]
  unfold sop at h
  split at h
  · split at h <;> simp at h
    rename_i hb
    subst h
    have hb' := Nat.le_of_ble_eq_true hb
    simp only [len_eq] at hb'
    have k1 := hx.length
    have k2 := hy.length
    simp only [Array.length_toList] at k1 k2
    refine ⟨.string (x ++ y), fun w => ?_, ?_⟩
    · have : ¬ (9223372036854775807 < ((x.size : Int) + (y.size : Int))) := by
        have h1 : x.size = x.data.size := rfl
        have h2 : y.size = y.data.size := rfl
        omega
      simp [binOp, Op.stringOp, this]
    · refine .str _ _ ?_
      rw [ByteArray.data_append, Array.toList_append]
      exact hx.append hy
  · obtain ⟨c, h1, h2⟩ := boolO_ok h; subst h2
    exact ⟨_, fun w => by simp [binOp, Op.stringOp, he c h1, pure], .bool _⟩
  · obtain ⟨c, h1, h2⟩ := boolO_ok h; subst h2
    exact ⟨_, fun w => by simp [binOp, Op.stringOp, he c h1, pure], .bool _⟩
  · obtain ⟨c, h1, h2⟩ := boolO_ok h; subst h2
    exact ⟨_, fun w => by simp [binOp, Op.stringOp, hl c h1, pure], .bool _⟩
  · obtain ⟨c, h1, h2⟩ := boolO_ok h; subst h2
    exact ⟨.bool (Op.bytesLess x.toList y.toList || x.toList == y.toList), fun w => by simp [binOp, Op.stringOp, pure], by rw [hg c h1]; exact .bool _⟩
  · obtain ⟨c, h1, h2⟩ := boolO_ok h; subst h2
    exact ⟨.bool (!(Op.bytesLess x.toList y.toList || x.toList == y.toList)), fun w => by simp [binOp, Op.stringOp, pure], by rw [hg c h1, Bool.not_not]; exact .bool _⟩
  · obtain ⟨c, h1, h2⟩ := boolO_ok h; subst h2
    exact ⟨_, fun w => by simp [binOp, Op.stringOp, hl c h1, pure], .bool _⟩
  · cases h
theorem bop_ok {op : BinOp} {t : TypeId} {x y v : AV} {rx ry : Value} (hx : VR ρ G w x rx) (hy : VR ρ G w y ry) (h : bop op x y = some v) : ∃ rv, (∀ w, (binOp op t rx ry).run P w = .ok rv w) ∧ VR ρ G w v rv := by
  unfold bop at h
  split at h
  · rename_i k a k' b
    cases hx; cases hy
    split at h
    · rename_i hk
      have hk' : k = k' := by simpa using hk
      subst hk'
      unfold iopS at h
      split at h
      · exact iop_ok op t k _ _ v h
      · exact symI_ok (.inr (.inr rfl)) h
    · split at h
      · unfold iopS at h
        split at h
        · rename_i a b
          unfold iop at h
          simp only at h
          split at h
          · rename_i n
            injection h with h; subst h
            have hn : ¬ ((n : Int) < 0) := by omega
            refine ⟨.int k (k.wrap (a * 2 ^ (min n k.bits))), fun w => by simp [SI.val, binOp, Op.shift, hn], ?_⟩
            rw [wrapC_eq]
            have : a * Int.ofNat (2 ^ min n k.bits) = a * 2 ^ min n k.bits := by simp
            rw [this]; exact .intC _ _
          · cases h
        · exact symI_ok (.inl rfl) h
      · unfold iopS at h
        split at h
        · rename_i a b
          unfold iop at h
          simp only at h
          split at h
          · rename_i m n
            injection h with h; subst h
            have hn : ¬ ((n : Int) < 0) := by omega
            refine ⟨.int k (Int.fdiv (m : Int) (2 ^ (min n k.bits))), fun w => by simp [SI.val, binOp, Op.shift, hn], ?_⟩
            have : Int.fdiv (m : Int) (2 ^ (min n k.bits)) = Int.ofNat (m / 2 ^ (min n k.bits)) := by
              have h2 : ((2 : Int) ^ (min n k.bits)) = ((2 ^ (min n k.bits) : Nat) : Int) := by simp
              rw [h2, Int.fdiv_eq_ediv_of_nonneg _ (Int.natCast_nonneg _)]; rfl
            rw [this]; exact .intC _ _
          · rename_i n _
            injection h with h; subst h
            have hn : ¬ ((n : Int) < 0) := by omega
            exact ⟨.int k (Int.fdiv a (2 ^ (min n k.bits))), fun w => by simp [SI.val, binOp, Op.shift, hn], .intC _ _⟩
          · cases h
        · exact symI_ok (.inr (.inl rfl)) h
      · cases h
  · cases hx with
    | str _ s hs => cases hy with
      | str _ s' hs' => exact sop_ok op t _ _ v s s' hs hs' h
  · cases h
theorem uop_ok {op : UnOp} {x v : AV} {rx : Value} (hx : VR ρ G w x rx) (h : uop op x = some v) : ∃ rv, (∀ w, (Op.unary op rx).run P w = .ok rv w) ∧ VR ρ G w v rv := by
  unfold uop at h
  split at h
  · cases hx
    injection h with h; subst h
    exact ⟨_, fun w => by simp [Op.unary], .bool _⟩
  · cases hx
    rename_i k n
    injection h with h; subst h
    refine ⟨.int k (k.wrap (0 - n)), fun w => by simp [SI.val, Op.unary, Op.intArith], ?_⟩
    rw [wrapC_eq]; exact .intC _ _
  · cases hx
    rename_i k n
    unfold iop at h
    simp only at h
    injection h with h; subst h
    exact ⟨_, fun w => by simp [SI.val, Op.unary, Op.intBits], .intC _ _⟩
  · cases h
end
end Den

set_option autoImplicit false
set_option linter.unusedVariables false
namespace Den
open Go Go.RowKit
section
variable {ρ : Vl} {G : Gh} {w : World} {P : Program}
theorem ty_info {t : TypeId} {d : TypeDesc} (h : P.underlying t = some d) : ∃ i, P.info? t = some i := by
  unfold Program.underlying at h
  split at h
  · exact ⟨_, by assumption⟩
  · exact ⟨_, by assumption⟩
  · cases h
theorem run_size {t : TypeId} {n : Nat} (h : tySz P t = some n) (w : World) : (Go.sizeOf t).run P w = .ok n w := by
  simp only [tySz, Option.map_eq_some_iff] at h
  obtain ⟨i, hi, rfl⟩ := h
  simp [Go.sizeOf, typeInfo, hi]
theorem run_agg {t : TypeId} {ag : Bool} (h : tyAg P t = some ag) (w : World) : (isAgg t).run P w = .ok ag w := by
  simp only [tyAg, Option.map_eq_some_iff] at h
  obtain ⟨d, hd, rfl⟩ := h
  simp only [isAgg, Sem.run_bind, run_underlying hd, Result.andThen_ok]
  cases d <;> simp [isAggD]
theorem run_part_agg {t : TypeId} {n : Nat} (h : tyAg P t = some true) (hn : tySz P t = some n) (cs : Array Value) (off : Nat) (w : World) : (part t cs off).run P w = .ok (.agg (cs.extract off (off + n))) w := by
  simp [part, run_agg h, run_size hn]
theorem run_part_one {t : TypeId} (h : tyAg P t = some false) {cs : Array Value} {off : Nat} {v : Value} (hv : cs[off]? = some v) (w : World) : (part t cs off).run P w = .ok v w := by
  simp [part, run_agg h, hv]
theorem extract_list (us : List Value) (off n : Nat) : us.toArray.extract off (off + n) = ((us.drop off).take n).toArray := by
  apply Array.ext'
  simp [List.extract_eq_take_drop]
/-- a part of cells -/
theorem part_ok {t : TypeId} {ag : Bool} {n off : Nat} {as : List AV} {us : List Value} {v : AV} (ha : tyAg P t = some ag) (hn : tySz P t = some n) (hs : VRs ρ G w as us) (h1 : ones as) (hv : rd ag n as off = some v) (w' : World) :
    ∃ rv, (part t us.toArray off).run P w' = .ok rv w' ∧ VR ρ G w v rv := by
  unfold rd at hv
  split at hv
  · rw [nth_eq] at hv
    obtain ⟨rv, h2, h3⟩ := hs.get hv
    exact ⟨rv, run_part_one ha (by simpa using h2) w', h3⟩
  · simp only [tk_eq, dr_eq] at hv
    split at hv
    · injection hv with hv; subst hv
      refine ⟨_, run_part_agg ha hn _ _ w', ?_⟩
      rw [extract_list]
      exact .agg _ _ ((hs.drop off).take n) (ones_sub h1 fun x hx => List.mem_of_mem_drop (List.mem_of_mem_take hx))
    · cases hv
theorem eqK1_ok {c : CK} {x y : AV} {r : Bool} {u v : Value} (hx : VR ρ G w x u) (hy : VR ρ G w y v) (h : eqK1 c x y = some r) :
    (∃ k a b, c = .int k ∧ u = .int k a ∧ v = .int k b ∧ (a == b) = r) ∨ (∃ a b, c = .str ∧ u = .string a ∧ v = .string b ∧ (a == b) = r) ∨ (∃ a b, c = .bool ∧ u = .bool a ∧ v = .bool b ∧ (a == b) = r) := by
  unfold eqK1 at h
  split at h
  · rename_i k k1 a k2 b
    split at h
    · rename_i h1 h2
      have e1 : k1 = k := by simpa using h1
      have e2 : k2 = k := by simpa using h2
      subst e1; subst e2
      cases hx; cases hy
      refine .inl ⟨_, _, _, rfl, rfl, rfl, ?_⟩
      exact eqS_ok h
    · cases h
  · cases hx with
    | str _ s hs => cases hy with
      | str _ s' hs' =>
        refine .inr (.inl ⟨s, s', rfl, rfl, rfl, ?_⟩)
        rw [beq_toListBytes, ByteArray.toList_eq, ByteArray.toList_eq]
        exact strEqQ_ok hs hs' h
  · injection h with h
    cases hx; cases hy
    exact .inr (.inr ⟨_, _, rfl, rfl, rfl, h⟩)
  · cases h
theorem eqK_append : ∀ (k1 k2 : List CK) (as bs : List AV), eqK (k1 ++ k2) as bs = match eqK k1 (as.take k1.length) (bs.take k1.length) with
    | some true => eqK k2 (as.drop k1.length) (bs.drop k1.length)
    | some false => some false
    | none => none
  | [], k2, as, bs => by simp [eqK]
  | c :: k1, k2, [], bs => by simp [eqK]
  | c :: k1, k2, a :: as, [] => by simp [eqK]
  | c :: k1, k2, a :: as, b :: bs => by
    simp only [List.cons_append, eqK, List.length_cons, List.take_succ_cons, List.drop_succ_cons]
    cases eqK1 c a b with
    | none => rfl
    | some r => cases r
                · rfl
                · exact eqK_append k1 k2 as bs
theorem eqK_one {c : CK} {as bs : List AV} {r : Bool} {off : Nat} (h : eqK [c] ((as.drop off).take 1) ((bs.drop off).take 1) = some r) : ∃ a b, as[off]? = some a ∧ bs[off]? = some b ∧ eqK1 c a b = some r := by
  have key : ∀ l : List AV, (l.drop off).take 1 = match l[off]? with | some a => [a] | none => [] := by
    intro l
    rcases Nat.lt_or_ge off l.length with hl | hl
    · rw [List.drop_eq_getElem_cons hl, List.getElem?_eq_getElem hl]; rfl
    · simp [List.drop_eq_nil_of_le hl, List.getElem?_eq_none hl]
  rw [key, key] at h
  cases ha : as[off]? with
  | none => simp [ha, eqK] at h
  | some a => cases hb : bs[off]? with
    | none => simp [ha, hb, eqK] at h
    | some b =>
      simp only [ha, hb, eqK] at h
      refine ⟨a, b, rfl, rfl, ?_⟩
      cases he : eqK1 c a b with
      | none => simp [he] at h
      | some q => cases q <;> simp [he] at h <;> rw [h]
def KS (P : Program) (d : Nat) (t : TypeId) (ks : List CK) : Prop :=
  ∀ (ρ : Vl) (G : Gh) (w : World) (as bs : List AV) (us vs : List Value) (off : Nat) (r : Bool), VRs ρ G w as us → VRs ρ G w bs vs → eqK ks ((as.drop off).take ks.length) ((bs.drop off).take ks.length) = some r → P.cellsOf t = ks.length →
    ∀ w', ∃ a b, (part t us.toArray off).run P w' = .ok a w' ∧ (part t vs.toArray off).run P w' = .ok b w' ∧ ∀ D, d ≤ D → (Op.equalIn D t a b).run P w' = .ok r w'
theorem eqFields_ok {d : Nat} (rec : TypeId → Option (List CK)) (hrec : ∀ t ks, rec t = some ks → KS P d t ks) : ∀ (fs : List Field) (off : Nat) (ks : List CK), kindsGo P rec fs off = some ks →
    ∀ (as bs : List AV) (us vs : List Value) (r : Bool), VRs ρ G w as us → VRs ρ G w bs vs → eqK ks ((as.drop off).take ks.length) ((bs.drop off).take ks.length) = some r →
    ∀ w' D, d ≤ D → (Op.eqFields D us.toArray vs.toArray fs).run P w' = .ok r w'
  | [], off, ks, h, as, bs, us, vs, r, ha, hb, he, w', D, hD => by
    simp [kindsGo] at h; subst h
    simp [eqK] at he; subst he
    simp [Op.eqFields]
  | f :: fs, off, ks, h, as, bs, us, vs, r, ha, hb, he, w', D, hD => by
    simp only [kindsGo] at h
    split at h
    · cases h
    rename_i k1 hk1
    split at h
    · cases h
    rename_i hc
    simp only [not_or, Decidable.not_not] at hc
    obtain ⟨hname, hoff, hcells⟩ := hc
    split at h
    · rename_i k2 hk2
      injection h with h; subst h
      rw [eqK_append] at he
      rw [List.length_append, List.take_take, List.take_take, Nat.min_eq_left (Nat.le_add_right _ _)] at he
      have hdrop : ∀ l : List AV, ((l.drop off).take (k1.length + k2.length)).drop k1.length = (l.drop (off + k1.length)).take k2.length := by
        intro l; rw [List.drop_take, List.drop_drop]; simp
      rw [hdrop, hdrop] at he
      cases h1 : eqK k1 ((as.drop off).take k1.length) ((bs.drop off).take k1.length) with
      | none => simp [h1] at he
      | some q =>
        obtain ⟨a, b, hpa, hpb, hq⟩ := hrec f.type k1 hk1 ρ G w as bs us vs off q ha hb h1 hcells w'
        have hq' := hq D hD
        cases q
        · simp [h1] at he; subst he
          simp [Op.eqFields, hname, hoff, hpa, hpb, hq']
        · simp only [h1] at he
          have ih := eqFields_ok rec hrec fs (off + k1.length) k2 hk2 as bs us vs r ha hb he w' D hD
          simp [Op.eqFields, hname, hoff, hpa, hpb, hq', ih]
    · cases h
theorem kinds_ok : ∀ (d : Nat) (t : TypeId) (ks : List CK), kinds P d t = some ks → KS P d t ks
  | 0, t, ks, h => by simp [kinds] at h
  | d + 1, t, ks, h => by
    intro ρ G w as bs us vs off r ha hb he hc w'
    simp only [kinds] at h
    split at h
    · rename_i k hu
      injection h with h; subst h
      obtain ⟨a, b, h1, h2, h3⟩ := eqK_one he
      obtain ⟨ra, hra, va⟩ := ha.get h1
      obtain ⟨rb, hrb, vb⟩ := hb.get h2
      have hag : tyAg P t = some false := by simp [tyAg, hu, isAggD]
      refine ⟨ra, rb, run_part_one hag (by simpa using hra) w', run_part_one hag (by simpa using hrb) w', fun D hD => ?_⟩
      obtain ⟨D, rfl⟩ : ∃ D', D = D' + 1 := ⟨D - 1, by omega⟩
      rcases eqK1_ok va vb h3 with ⟨k', x, y, e1, rfl, rfl, rfl⟩ | ⟨x, y, e1, _⟩ | ⟨x, y, e1, _⟩
      · injection e1 with e1; subst e1
        simp [Op.equalIn, run_underlying hu]
      · cases e1
      · cases e1
    · rename_i hu
      injection h with h; subst h
      obtain ⟨a, b, h1, h2, h3⟩ := eqK_one he
      obtain ⟨ra, hra, va⟩ := ha.get h1
      obtain ⟨rb, hrb, vb⟩ := hb.get h2
      have hag : tyAg P t = some false := by simp [tyAg, hu, isAggD]
      refine ⟨ra, rb, run_part_one hag (by simpa using hra) w', run_part_one hag (by simpa using hrb) w', fun D hD => ?_⟩
      obtain ⟨D, rfl⟩ : ∃ D', D = D' + 1 := ⟨D - 1, by omega⟩
      rcases eqK1_ok va vb h3 with ⟨k', x, y, e1, _⟩ | ⟨x, y, e1, rfl, rfl, rfl⟩ | ⟨x, y, e1, _⟩
      · cases e1
      · simp [Op.equalIn, run_underlying hu]
      · cases e1
    · rename_i hu
      injection h with h; subst h
      obtain ⟨a, b, h1, h2, h3⟩ := eqK_one he
      obtain ⟨ra, hra, va⟩ := ha.get h1
      obtain ⟨rb, hrb, vb⟩ := hb.get h2
      have hag : tyAg P t = some false := by simp [tyAg, hu, isAggD]
      refine ⟨ra, rb, run_part_one hag (by simpa using hra) w', run_part_one hag (by simpa using hrb) w', fun D hD => ?_⟩
      obtain ⟨D, rfl⟩ : ∃ D', D = D' + 1 := ⟨D - 1, by omega⟩
      rcases eqK1_ok va vb h3 with ⟨k', x, y, e1, _⟩ | ⟨x, y, e1, _⟩ | ⟨x, y, e1, rfl, rfl, rfl⟩
      · cases e1
      · cases e1
      · simp [Op.equalIn, run_underlying hu]
    · rename_i fs hu
      split at h
      · cases h
      rename_i hst
      have hst' : P.stoodInHeld t = false := by simpa using hst
      have hag : tyAg P t = some true := by simp [tyAg, hu, isAggD]
      obtain ⟨i, hi⟩ := ty_info hu
      have hn : tySz P t = some ks.length := by
        simp [Program.cellsOf, hi] at hc
        simp [tySz, hi, hc]
      refine ⟨_, _, run_part_agg hag hn _ _ w', run_part_agg hag hn _ _ w', fun D hD => ?_⟩
      obtain ⟨D, rfl⟩ : ∃ D', D = D' + 1 := ⟨D - 1, by omega⟩
      have hf : P.fieldsOf t = fs := by simp [Program.fieldsOf, hu]
      rw [run_equalIn_struct w' D t _ _ (by rw [hf]; exact hu) hst', extract_list, extract_list, hf]
      refine eqFields_ok (kinds P d) (fun t ks h => kinds_ok d t ks h) fs.toList 0 ks h _ _ _ _ r ((ha.drop off).take ks.length) ((hb.drop off).take ks.length) ?_ w' D (by omega)
      simpa [List.take_take] using he
    · cases h
end
end Den

set_option autoImplicit false
set_option linter.unusedVariables false
namespace Den
open Go Go.RowKit
def setL (us : List Value) (off : Nat) (ns : List Value) : List Value := us.take off ++ ns ++ us.drop (off + ns.length)
theorem setL_length {us ns : List Value} {off : Nat} (h : off + ns.length ≤ us.length) : (setL us off ns).length = us.length := by
  simp [setL]; omega
theorem setL_get {us ns : List Value} {off : Nat} (h : off + ns.length ≤ us.length) (k : Nat) : (setL us off ns)[k]? = if off ≤ k ∧ k < off + ns.length then ns[k - off]? else us[k]? := by
  unfold setL
  by_cases h1 : k < off
  · rw [if_neg (by omega), List.append_assoc, List.getElem?_append_left (by simp; omega), List.getElem?_take, if_pos h1]
  · by_cases h2 : k < off + ns.length
    · rw [if_pos ⟨by omega, h2⟩, List.append_assoc, List.getElem?_append_right (by simp; omega), List.getElem?_append_left (by simp; omega)]
      have : min off us.length = off := by omega
      simp [this]
    · rw [if_neg (by omega), List.getElem?_append_right (by simp; omega), List.getElem?_drop]
      congr 1
      simp; omega
theorem foldl_setL (off : Nat) (ns : List Value) (cs : Array Value) (h : off + ns.length ≤ cs.size) :
    ((ns.zipIdx 0).foldl (fun cs (x : Value × Nat) => cs.setIfInBounds (off + x.2) x.1) cs) = (setL cs.toList off ns).toArray := by
  obtain ⟨h1, h2⟩ := Great.foldl_set off ns 0 cs
  apply Array.ext_getElem?
  intro k
  have e : (setL cs.toList off ns).toArray[k]? = (setL cs.toList off ns)[k]? := by simp
  rw [h2 k, e, setL_get (by simpa using h)]
  simp only [Nat.add_zero]
  by_cases hk : off ≤ k ∧ k < off + ns.length
  · rw [if_pos hk, if_pos ⟨hk.1, hk.2, by omega⟩]
  · rw [if_neg hk, if_neg (by omega)]; simp
section
variable {ρ : Vl} {G : Gh} {w : World} {P : Program}
theorem ovr_ok : ∀ {cs vs r : List AV}, ovr cs vs = some r → vs.length ≤ cs.length ∧ r = vs ++ cs.drop vs.length
  | cs, [], r, h => by simp [ovr] at h; subst h; simp
  | [], _ :: _, r, h => by simp [ovr] at h
  | c :: cs, v :: vs, r, h => by
    simp only [ovr] at h
    split at h
    · rename_i r' hr
      injection h with h; subst h
      obtain ⟨h1, h2⟩ := ovr_ok hr
      subst h2
      exact ⟨by simpa using h1, by simp⟩
    · cases h
theorem setAt_eq : ∀ {cs vs r : List AV} {n : Nat}, setAt cs n vs = some r → n + vs.length ≤ cs.length ∧ r = cs.take n ++ vs ++ cs.drop (n + vs.length)
  | cs, vs, r, 0, h => by
    simp only [setAt] at h
    obtain ⟨h1, h2⟩ := ovr_ok h
    subst h2; simpa using h1
  | [], vs, r, n + 1, h => by simp [setAt] at h
  | c :: cs, vs, r, n + 1, h => by
    simp only [setAt] at h
    split at h
    · rename_i r' hr
      injection h with h; subst h
      obtain ⟨h1, h2⟩ := setAt_eq hr
      subst h2
      refine ⟨by simp; omega, ?_⟩
      have : n + 1 + vs.length = n + vs.length + 1 := by omega
      simp [this]
    · cases h
theorem setAt_ok {cs vs r : List AV} {n : Nat} {us ns : List Value} (h : setAt cs n vs = some r) (hc : VRs ρ G w cs us) (hv : VRs ρ G w vs ns) (h1 : ones cs) (h2 : ones vs) :
    VRs ρ G w r (setL us n ns) ∧ ones r ∧ n + ns.length ≤ us.length ∧ r.length = cs.length := by
  obtain ⟨hle, rfl⟩ := setAt_eq h
  have e1 := hc.length
  have e2 := hv.length
  refine ⟨?_, ?_, by omega, ?_⟩
  · unfold setL
    rw [e2]
    exact ((hc.take n).append hv).append (hc.drop (n + vs.length))
  · rw [ones_append, ones_append]
    exact ⟨⟨ones_sub h1 fun x hx => List.mem_of_mem_take hx, h2⟩, ones_sub h1 fun x hx => List.mem_of_mem_drop hx⟩
  · simp; omega
theorem VR.not_tup {x : AV} {v : Value} (h : VR ρ G w x v) (hx : ∀ ys, x = .lst .tup ys → False) : ∀ ys, x ≠ .lst .tup ys := fun ys e => hx ys e
/-- cells of any value: a tuple counts as one cell -/
theorem VR.cells' {x : AV} {v : Value} (h : VR ρ G w x v) : VRs ρ G w (cellsOf x) v.cells.toList := by
  cases x with
  | lst hd xs =>
    cases hd with
    | tup => cases h with
      | tup _ vs h => exact .cons _ _ _ _ (.tup _ _ h) .nil
    | _ => exact (h.cells (by simp)).1
  | _ => exact (h.cells (by simp)).1
theorem VR.size {x : AV} {v : Value} (h : VR ρ G w x v) : v.cells.size = (cellsOf x).length := by
  have := h.cells'.length
  simpa using this
inductive PR (ρ : Vl) (G : Gh) (w : World) (e : Env) (place : Nat → Option (Nat × Nat)) : List (Nat × Nat × Opd) → List (Nat × Value) → Prop
  | nil : PR ρ G w e place [] []
  | cons (off n : Nat) (x : Opd) (i : Nat) (v : Value) (ps : List (Nat × Nat × Opd)) (qs : List (Nat × Value)) (hp : place i = some (off, n)) (hv : VR ρ G w (x.ev e) v) (t : PR ρ G w e place ps qs) :
      PR ρ G w e place ((off, n, x) :: ps) ((i, v) :: qs)
theorem cellsQ_some {x : AV} {vs : List AV} (h : cellsQ x = some vs) : vs = cellsOf x ∧ ∀ ys, x ≠ .lst .tup ys := by
  unfold cellsQ at h
  split at h
  · injection h with h; subst h; exact ⟨rfl, fun ys => by simp⟩
  · cases h
  · rename_i h1 h2
    injection h with h; subst h
    refine ⟨?_, fun ys e => h2 ys e⟩
    cases x with
    | lst hd xs => cases hd with
      | agg => exact absurd rfl (h1 xs)
      | _ => rfl
    | _ => rfl
theorem fill_ok {e : Env} {place : Nat → Option (Nat × Nat)} : ∀ {ps : List (Nat × Nat × Opd)} {qs : List (Nat × Value)} {cs r : List AV} {us : List Value}, PR ρ G w e place ps qs → VRs ρ G w cs us → ones cs → fillP e cs ps = some r →
    ∃ vs, Instr.fill place us.toArray qs = some vs.toArray ∧ VRs ρ G w r vs ∧ ones r
  | [], _, cs, r, us, .nil, hc, h1, h => by
    simp [fillP] at h; subst h
    exact ⟨us, rfl, hc, h1⟩
  | (off, n, x) :: ps, _, cs, r, us, .cons _ _ _ i v _ qs hp hv t, hc, ho, h => by
    simp only [fillP] at h
    split at h
    · rename_i ws hq
      obtain ⟨rfl, hnt⟩ := cellsQ_some hq
      split at h
      · rename_i hb
        rw [len_eq] at hb
        have hlen := Nat.eq_of_beq_eq_true hb
        split at h
        · rename_i cs' hs
          obtain ⟨hvc, hvo⟩ := hv.cells hnt
          obtain ⟨hc', hc1, hle, _⟩ := setAt_ok hs hc hvc ho hvo
          obtain ⟨vs, h1, h2, h3⟩ := fill_ok t hc' hc1 h
          refine ⟨vs, ?_, h2, h3⟩
          have hsz := hv.size
          have hle' : off + v.cells.size ≤ us.length := by simpa using hle
          rw [Instr.fill, hp]
          simp only
          rw [if_neg (by simp; omega), ← h1]
          congr 1
          rw [← Array.foldl_toList, Array.toList_zipIdx]
          have := foldl_setL off v.cells.toList us.toArray (by simpa using hle')
          simpa using this
        · cases h
      · cases h
    · cases h
/-- bounds -/
theorem sliceBound_ok {k : IntKind} {n y : Nat} (h : n ≤ y) (code : BoundsCode) (w : World) : (Instr.sliceBound (.int k (n : Int)) y code).run P w = .ok n w := by
  simp [Instr.sliceBound, asIntOf, h]
def BR (e : Env) (lo : Option Opd) (n : Option Nat) (v : Option Value) : Prop := match n with
  | none => v = none
  | some n => ∃ k, v = some (.int k (n : Int))
def mxD (mx : Option Nat) (d : Nat) : Nat := mx.getD d
theorem bounds_ok (P : Program) {isS : Bool} {len cap : Nat} {lo hi mx : Option Nat} {vl vh vm : Option Value} {e : Env} {l h m : Nat} (hl : BR e none lo vl) (hh : BR e none hi vh) (hm : BR e none mx vm) (hx : mx = none ∨ hi ≠ none)
    (rcap : Nat) (hcap : cap ≤ rcap) (hb : bnds len cap lo hi mx = some (l, h, m)) (w : World) :
    (Instr.sliceBounds isS len rcap vl vh vm).run P w = .ok (l, h, mxD mx rcap) w ∧ l ≤ h ∧ h ≤ m ∧ m ≤ cap ∧ (∀ m', mx = some m' → m' = m) ∧ (mx = none → m = cap) := by
  unfold bnds at hb
  simp only at hb
  split at hb
  · rename_i hb1 hb2 hb3
    simp only [Option.some.injEq, Prod.mk.injEq] at hb
    obtain ⟨rfl, rfl, rfl⟩ := hb
    have c1 := Nat.le_of_ble_eq_true hb1
    have c2 := Nat.le_of_ble_eq_true hb2
    have c3 := Nat.le_of_ble_eq_true hb3
    refine ⟨?_, c3, c2, c1, ?_, ?_⟩
    · unfold mxD
      cases mx with
      | none =>
        simp only [BR] at hm; subst hm
        simp only at c1 c2
        cases hi with
        | none =>
          simp only [BR] at hh; subst hh
          cases lo with
          | none => simp only [BR] at hl; subst hl; simp [Instr.sliceBounds]
          | some lo =>
            obtain ⟨kl, rfl⟩ := hl
            simp only at c3
            simp [Instr.sliceBounds, sliceBound_ok c3]
        | some hi =>
          obtain ⟨kh, rfl⟩ := hh
          simp only at c2
          have c4 : hi ≤ rcap := Nat.le_trans c2 hcap
          cases lo with
          | none => simp only [BR] at hl; subst hl; simp [Instr.sliceBounds, sliceBound_ok c4]
          | some lo =>
            obtain ⟨kl, rfl⟩ := hl
            simp only at c3
            simp [Instr.sliceBounds, sliceBound_ok c3, sliceBound_ok c4]
      | some m =>
        obtain ⟨km, rfl⟩ := hm
        simp only at c1 c2
        have c5 : m ≤ rcap := Nat.le_trans c1 hcap
        cases hi with
        | none => simp at hx
        | some hi =>
          obtain ⟨kh, rfl⟩ := hh
          simp only at c2
          cases lo with
          | none => simp only [BR] at hl; subst hl; simp [Instr.sliceBounds, sliceBound_ok c2, sliceBound_ok c5]
          | some lo =>
            obtain ⟨kl, rfl⟩ := hl
            simp only at c3
            simp [Instr.sliceBounds, sliceBound_ok c3, sliceBound_ok c2, sliceBound_ok c5]
    · rintro m' rfl; rfl
    · rintro rfl; rfl
  · cases hb
end
end Den

set_option autoImplicit false
set_option linter.unusedVariables false
set_option linter.unusedSimpArgs false
namespace Den
open Go Go.RowKit
section
variable (ρ : Vl) (G : Gh) (w : World)
/-- the operands of an operation fit -/
def Rd (e : Env) (a : Act) (o : Oper) : Prop := ∀ x ∈ o.op.operands, ∀ ox, cOpd x = some ox → VR ρ G w (ox.ev e) (a.eval x)
end
section
variable {ρ : Vl} {G : Gh} {w : World} {P : Program} {e : Env} {a : Act}
theorem cOpds_ok : ∀ {l : List Operand} {os : List Opd}, cOpds l = some os → (∀ x ∈ l, ∀ ox, cOpd x = some ox → VR ρ G w (ox.ev e) (a.eval x)) → VRs ρ G w (evs e os) (l.map a.eval)
  | [], os, h, _ => by simp [cOpds] at h; subst h; exact .nil
  | x :: l, os, h, hr => by
    simp only [cOpds] at h
    obtain ⟨o, t, h1, h2, rfl⟩ := consO_some h
    exact .cons _ _ _ _ (hr x (by simp) o h1) (cOpds_ok h2 fun y hy => hr y (by simp [hy]))
theorem cOpdO_ok {x : Option Operand} {o : Option Opd} (h : cOpdO x = some o) (hr : ∀ y, x = some y → ∀ ox, cOpd y = some ox → VR ρ G w (ox.ev e) (a.eval y)) {n : Option Nat} (hn : evo e o = some n) :
    BR e none n (x.map a.eval) := by
  cases x with
  | none =>
    simp [cOpdO] at h; subst h
    simp [evo] at hn; subst hn
    rfl
  | some y =>
    simp only [cOpdO, Option.map_eq_some_iff] at h
    obtain ⟨ox, h1, rfl⟩ := h
    simp only [evo] at hn
    split at hn
    · rename_i m hm
      injection hn with hn; subst hn
      obtain ⟨k, hk⟩ := natV_ok (hr y rfl ox h1) hm
      exact ⟨k, by simp [hk]⟩
    · cases hn
theorem convV_cells {v : Value} {z : AV} (h : convV v = some z) : ones (cellsOf z) ∨ z = .lst .tup [] := by
  unfold convV at h
  split at h
  · rename_i cs
    cases hc : convs cs.toList with
    | none => simp [hc] at h
    | some l =>
      simp [hc] at h; subst h
      exact .inl (convs_ok (ρ := Vl.zero) (G := ⟨fun _ => none, fun _ => none⟩) (w := default) hc).2
  · rename_i cs
    cases hc : cs.toList with
    | nil => simp [hc] at h; subst h; exact .inr rfl
    | cons => simp [hc] at h
  · have := conv0_one h
    left
    intro y hy
    cases z with
    | lst hd xs => cases hd with
      | agg => simp [one] at this
      | tup => exact absurd rfl (this.2 xs)
      | _ => simp [cellsOf] at hy; subst hy; rfl
    | _ => simp [cellsOf] at hy; subst hy; rfl
theorem notTup_ok {v z : AV} (h : notTup v = some z) : z = v ∧ ∀ ys, z ≠ .lst .tup ys := by
  unfold notTup at h
  split at h
  · cases h
  · rename_i h1
    injection h with h; subst h
    exact ⟨rfl, fun ys e => h1 ys e⟩
theorem tyZero_ok {t : TypeId} {z : AV} (h : tyZero P t = some z) : ∃ i rz, P.info? t = some i ∧ i.zero = some rz ∧ (∀ (ρ : Vl) (G : Gh) (w : World), VR ρ G w z rz) ∧ ones (cellsOf z) ∧ ∀ ys, z ≠ .lst .tup ys := by
  unfold tyZero at h
  split at h
  · rename_i i hi
    split at h
    · rename_i rz hz
      split at h
      · rename_i v hv
        obtain ⟨rfl, hn⟩ := notTup_ok h
        exact ⟨i, rz, hi, hz, fun ρ G w => convV_ok hv, (convV_cells hv).resolve_right (hn _), hn⟩
      · cases h
    · cases h
  · cases h
theorem run_guard (op : BinOp) (t : TypeId) (x y : Operand) (u v : Value) (h1 : u ≠ .nilIface) (h2 : ∀ cs, u ≠ .agg cs) (w : World) : (eqGuard op t x y u v).run P w = .ok () w := by
  unfold eqGuard
  cases u <;> first | exact absurd rfl h1 | exact absurd rfl (h2 _) | (cases op <;> simp)
theorem VR.guard {x : AV} {v : Value} (h : VR ρ G w x v) (h1 : x ≠ .ref .niliface) (h2 : ∀ cs, x ≠ .lst .agg cs) : v ≠ .nilIface ∧ ∀ cs, v ≠ .agg cs := by
  cases h <;> first | exact absurd rfl h1 | exact absurd rfl (h2 _) | exact ⟨by simp, by simp⟩
theorem bop_args {op : BinOp} {x y v : AV} (h : bop op x y = some v) : x ≠ .ref .niliface ∧ ∀ cs, x ≠ .lst .agg cs := by
  unfold bop at h
  split at h <;> first | (cases h; done) | exact ⟨by simp, by simp⟩
theorem eqX_args {c : EQ} {x y : AV} {v : Bool} (h : eqX c x y = some v) : x ≠ .ref .niliface ∧ ∀ cs, x ≠ .lst .agg cs := by
  unfold eqX at h
  split at h <;> split at h <;> first | (cases h; done) | exact ⟨by simp, by simp⟩
/-- what the two are held for -/
def EQfits (P : Program) (c : EQ) (t : TypeId) : Prop := match c with
  | .b => P.underlying t = some .bool
  | .p => ∃ e, P.underlying t = some (.pointer e)
  | .s => ∃ e, P.underlying t = some (.slice e)
  | .m => ∃ k e, P.underlying t = some (.map k e)
  | .f => ∃ a b c, P.underlying t = some (.func a b c)
theorem eqBoth {t : TypeId} {u v : Value} {b : Bool} {w' : World} (hb : binOp .eql t u v = (do pure (.bool (← Op.equal t u v)) : Sem Value)) (hn : binOp .neq t u v = (do pure (.bool (!(← Op.equal t u v))) : Sem Value))
    (h : ∀ d, (Op.equalIn (d + 1) t u v).run P w' = .ok b w') : (binOp .eql t u v).run P w' = .ok (.bool b) w' ∧ (binOp .neq t u v).run P w' = .ok (.bool !b) w' := by
  have h' : (Op.equal t u v).run P w' = .ok b w' := h 9999
  rw [hb, hn]
  constructor
  · rw [Sem.run_bind, h']; rfl
  · rw [Sem.run_bind, h']; rfl
theorem eqX_ok {c : EQ} {t : TypeId} {x y : AV} {b : Bool} {u v : Value} (hf : EQfits P c t) (hx : VR ρ G w x u) (hy : VR ρ G w y v) (h : eqX c x y = some b) (w' : World) :
    (binOp .eql t u v).run P w' = .ok (.bool b) w' ∧ (binOp .neq t u v).run P w' = .ok (.bool !b) w' := by
  unfold eqX at h
  split at h
  · split at h
    · injection h with h; subst h
      cases hx; cases hy
      have hf' : P.underlying t = some .bool := hf
      exact eqBoth rfl rfl fun d => by simp [Op.equalIn, run_underlying hf']
    · cases h
  · obtain ⟨el, hu⟩ := hf
    split at h <;> first
      | (cases h; done)
      | (injection h with h; subst h; cases hx; cases hy; exact eqBoth rfl rfl fun d => by simp [Op.equalIn, run_underlying hu])
  · obtain ⟨el, hu⟩ := hf
    split at h <;> first
      | (cases h; done)
      | (injection h with h; subst h; cases hx; cases hy; exact eqBoth rfl rfl fun d => by simp [Op.equalIn, run_underlying hu])
  · obtain ⟨kk, el, hu⟩ := hf
    split at h <;> first
      | (cases h; done)
      | (injection h with h; subst h; cases hx; cases hy; exact eqBoth rfl rfl fun d => by simp [Op.equalIn, run_underlying hu])
  · obtain ⟨ka, el, kc, hu⟩ := hf
    split at h <;> first
      | (cases h; done)
      | (injection h with h; subst h; cases hx; cases hy; exact eqBoth rfl rfl fun d => by simp [Op.equalIn, run_underlying hu])
end
end Den

set_option autoImplicit false
set_option linter.unusedVariables false
set_option linter.unusedSimpArgs false
namespace Den
open Go Go.RowKit
section
variable {ρ : Vl} {G : Gh} {w : World} {P : Program} {e : Env} {a : Act}
/-- what an operation has to yield -/
def Yds (P : Program) (ρ : Vl) (G : Gh) (w : World) (a : Act) (o : Oper) (v : AV) : Prop := ∃ rv, (execOp a.eval o).run P w = .ok (.value rv) w ∧ VR ρ G w v rv
theorem yds_of {o : Oper} {v : AV} {s : Sem Value} {rv : Value} (ho : execOp a.eval o = (do pure (.value (← s)) : Sem Next)) (hs : s.run P w = .ok rv w) (hv : VR ρ G w v rv) : Yds P ρ G w a o v :=
  ⟨rv, by rw [ho, Sem.run_bind, hs]; rfl, hv⟩
theorem bool_of {x : AV} {v : Value} {b : Bool} (h : VR ρ G w x v) (hx : x = .bool b) : v = .bool b := by subst hx; cases h; rfl
theorem p_pick {dst : Option Nat} {type : TypeId} {pos : String} {aft : Array Edge} {g : Option (Nat × Bool)} {c x y : Operand} {oc ox oy : Opd} {v : AV} (hc : VR ρ G w (oc.ev e) (a.eval c)) (hx : VR ρ G w (ox.ev e) (a.eval x)) (hy : VR ρ G w (oy.ev e) (a.eval y))
    (h : evP e (.pick oc ox oy) = some v) : Yds P ρ G w a ⟨dst, .pick c x y, type, pos, aft, g⟩ v := by
  simp only [evP] at h
  split at h
  · rename_i hb
    injection h with h; subst h
    have := bool_of hc hb
    exact ⟨a.eval x, by simp [execOp, this, asBool], hx⟩
  · rename_i hb
    injection h with h; subst h
    have := bool_of hc hb
    exact ⟨a.eval y, by simp [execOp, this, asBool], hy⟩
  · cases h
theorem p_nilchk {dst : Option Nat} {type : TypeId} {pos : String} {aft : Array Edge} {g : Option (Nat × Bool)} {x : Operand} {ox : Opd} {v : AV} (hx : VR ρ G w (ox.ev e) (a.eval x))
    (h : evP e (.nilchk ox) = some v) : Yds P ρ G w a ⟨dst, .nilCheck x, type, pos, aft, g⟩ v := by
  simp only [evP] at h
  generalize ox.ev e = y at h hx
  generalize hv : a.eval x = rv at hx
  have key : ∀ (h1 : y ≠ .ref .nilptr) (h2 : y ≠ .ref .niliface) (h3 : y ≠ .ref .nilfunc), Yds P ρ G w a ⟨dst, .nilCheck x, type, pos, aft, g⟩ y := by
    intro h1 h2 h3
    refine ⟨rv, ?_, hx⟩
    cases hx <;> first | exact absurd rfl h1 | exact absurd rfl h2 | exact absurd rfl h3 | (simp [execOp, hv])
  split at h
  · cases h
  · cases h
  · cases h
  · rename_i h1 h2 h3
    injection h with h; subst h
    exact key (fun q => h1 q) (fun q => h2 q) (fun q => h3 q)
theorem p_bin {dst : Option Nat} {type : TypeId} {pos : String} {aft : Array Edge} {g : Option (Nat × Bool)} {op : BinOp} {t yt : TypeId} {x y : Operand} {ox oy : Opd} {v : AV} (hx : VR ρ G w (ox.ev e) (a.eval x)) (hy : VR ρ G w (oy.ev e) (a.eval y))
    (h : evP e (.bin op ox oy) = some v) : Yds P ρ G w a ⟨dst, .binOp op t x y yt, type, pos, aft, g⟩ v := by
  simp only [evP] at h
  obtain ⟨h1, h2⟩ := bop_args h
  obtain ⟨h3, h4⟩ := hx.guard h1 h2
  obtain ⟨rv, hr, hv⟩ := bop_ok (P := P) (t := t) hx hy h
  exact ⟨rv, by simp [execOp, run_guard op t x y _ (a.eval y) h3 h4 w, hr], hv⟩
theorem p_eqx {dst : Option Nat} {type : TypeId} {pos : String} {aft : Array Edge} {g : Option (Nat × Bool)} {op : BinOp} {c : EQ} {neg : Bool} {t yt : TypeId} {x y : Operand} {ox oy : Opd} {v : AV} (hx : VR ρ G w (ox.ev e) (a.eval x)) (hy : VR ρ G w (oy.ev e) (a.eval y))
    (hf : EQfits P c t) (hop : op = if neg then .neq else .eql) (h : evP e (.eqx neg c ox oy) = some v) : Yds P ρ G w a ⟨dst, .binOp op t x y yt, type, pos, aft, g⟩ v := by
  simp only [evP, negO] at h
  split at h
  · rename_i b hb
    injection h with h; subst h
    obtain ⟨h1, h2⟩ := eqX_args hb
    obtain ⟨h3, h4⟩ := hx.guard h1 h2
    obtain ⟨r1, r2⟩ := eqX_ok hf hx hy hb w
    cases neg
    · simp only [Bool.false_eq_true, if_false] at hop
      subst hop
      exact ⟨.bool b, by simp [execOp, run_guard .eql t x y _ (a.eval y) h3 h4 w, r1], .bool _⟩
    · simp only [if_true] at hop
      subst hop
      exact ⟨.bool !b, by simp [execOp, run_guard .neq t x y _ (a.eval y) h3 h4 w, r2], .bool _⟩
  · cases h
theorem p_eqa {dst : Option Nat} {type : TypeId} {pos : String} {aft : Array Edge} {g : Option (Nat × Bool)} {op : BinOp} {neg : Bool} {t yt : TypeId} {fs : Array Field} {ks : List CK} {x y : Operand} {ox oy : Opd} {v : AV} (hx : VR ρ G w (ox.ev e) (a.eval x)) (hy : VR ρ G w (oy.ev e) (a.eval y))
    (hu : P.underlying t = some (.struct fs)) (hk : kinds P 6 t = some ks) (hg : P.eqGuardType P.depth t = false) (hop : op = if neg then .neq else .eql) (h : evP e (.eqa neg ks ox oy) = some v) : Yds P ρ G w a ⟨dst, .binOp op t x y yt, type, pos, aft, g⟩ v := by
  simp only [evP] at h
  split at h
  · rename_i as bs ha hb
    simp only [negO] at h
    split at h
    · rename_i b hq
      injection h with h; subst h
      rw [ha] at hx
      rw [hb] at hy
      generalize hrx : a.eval x = rx at hx
      generalize hry : a.eval y = ry at hy
      cases hx with
      | agg _ us hus h1 =>
        cases hy with
        | agg _ vs hvs h2 =>
          simp only [kinds, hu] at hk
          split at hk
          · cases hk
          rename_i hst
          have hst' : P.stoodInHeld t = false := by simpa using hst
          have hf : P.fieldsOf t = fs := by simp [Program.fieldsOf, hu]
          have hlen : ∀ (ks : List CK) (as bs : List AV) (b : Bool), eqK ks as bs = some b → eqK ks (as.take ks.length) (bs.take ks.length) = some b := by
            intro ks as bs b h
            have := eqK_append ks [] as bs
            rw [List.append_nil, h] at this
            cases hh : eqK ks (as.take ks.length) (bs.take ks.length) with
            | none => simp [hh] at this
            | some q => cases q <;> simp [hh] at this
                        · rw [this]
                        · cases b
                          · exfalso
                            generalize as.drop ks.length = aa at this
                            generalize bs.drop ks.length = bb at this
                            cases aa <;> cases bb <;> simp [eqK] at this
                          · rfl
          have r := eqFields_ok (ρ := ρ) (G := G) (w := w) (d := 5) (kinds P 5) (fun t ks h => kinds_ok 5 t ks h) fs.toList 0 ks hk as bs us vs b hus hvs (by simpa using hlen ks as bs b hq) w 9999 (by omega)
          have r' : (Op.equalIn 10000 t (.agg us.toArray) (.agg vs.toArray)).run P w = .ok b w := by
            rw [run_equalIn_struct w 9999 t _ _ (by rw [hf]; exact hu) hst', hf]; exact r
          cases neg
          · simp only [Bool.false_eq_true, if_false] at hop
            subst hop
            exact ⟨.bool b, by simp [execOp, hrx, hry, run_eqGuard_agg w .eql t x y us.toArray vs.toArray hg, run_eql_struct, r'], .bool _⟩
          · simp only [if_true] at hop
            subst hop
            exact ⟨.bool !b, by simp [execOp, hrx, hry, run_eqGuard_agg w .neq t x y us.toArray vs.toArray hg, run_neq_struct, r'], .bool _⟩
    · cases h
  · cases h
theorem p_un {dst : Option Nat} {type : TypeId} {pos : String} {aft : Array Edge} {g : Option (Nat × Bool)} {op : UnOp} {t : TypeId} {x : Operand} {ox : Opd} {v : AV} (hx : VR ρ G w (ox.ev e) (a.eval x))
    (h : evP e (.un op ox) = some v) : Yds P ρ G w a ⟨dst, .unOp op t x, type, pos, aft, g⟩ v := by
  obtain ⟨rv, hr, hv⟩ := uop_ok hx (by simpa only [evP] using h)
  exact yds_of rfl (hr w) hv
theorem p_cvti {dst : Option Nat} {type : TypeId} {pos : String} {aft : Array Edge} {g : Option (Nat × Bool)} {s t : TypeId} {k k' : IntKind} {x : Operand} {ox : Opd} {v : AV} (hs : P.underlying s = some (.int k')) (ht : P.underlying t = some (.int k)) (hx : VR ρ G w (ox.ev e) (a.eval x))
    (h : evP e (.cvti k ox) = some v) : Yds P ρ G w a ⟨dst, .convert s t x, type, pos, aft, g⟩ v := by
  simp only [evP] at h
  split at h
  · rename_i k1 n hq
    rw [hq] at hx
    generalize hr : a.eval x = rv at hx
    cases hx
    refine yds_of (s := convert s t (a.eval x)) rfl (rv := .int k (k.wrap (n.val ρ))) ?_ ?_
    · simp [convert, run_underlying hs, run_underlying ht, hr, Conv.intToInt]
    · split at h
      · injection h with h; subst h
        rw [wrapC_eq]; exact .intC _ _
      · exact cvtS_ok h
  · cases h
theorem p_cvtss {dst : Option Nat} {type : TypeId} {pos : String} {aft : Array Edge} {g : Option (Nat × Bool)} {s t : TypeId} {x : Operand} {ox : Opd} {v : AV} (hs : P.underlying s = some .string) (ht : P.underlying t = some .string) (hx : VR ρ G w (ox.ev e) (a.eval x))
    (h : evP e (.cvtss ox) = some v) : Yds P ρ G w a ⟨dst, .convert s t x, type, pos, aft, g⟩ v := by
  simp only [evP] at h
  split at h
  · rename_i l hq
    injection h with h; subst h
    rw [hq] at hx
    generalize hr : a.eval x = rv at hx
    cases hx with
    | str _ s' hs' =>
      refine yds_of (s := convert s t (a.eval x)) rfl (rv := .string s') ?_ (.str _ _ hs')
      simp [convert, run_underlying hs, run_underlying ht, hr]
  · cases h
theorem p_mkf {dst : Option Nat} {type : TypeId} {pos : String} {aft : Array Edge} {g : Option (Nat × Bool)} {f : Nat} {fi ca : Array Operand} {ofi oca : List Opd} {v : AV} (h1 : VRs ρ G w (evs e ofi) (fi.toList.map a.eval)) (h2 : VRs ρ G w (evs e oca) (ca.toList.map a.eval))
    (h : evP e (.mkf f ofi oca) = some v) : Yds P ρ G w a ⟨dst, .makeFunc (.func f) fi ca, type, pos, aft, g⟩ v := by
  simp only [evP] at h
  injection h with h; subst h
  refine yds_of (s := Instr.makeFunc (.func f) (fi.map a.eval) (ca.map a.eval)) rfl rfl ?_
  have key := VR.func (ρ := ρ) (G := G) (w := w) f (len (evs e ofi)) (evs e ofi ++ evs e oca) _ (h1.append h2) (by rw [len_eq]; simp)
  have e1 := h1.length
  rw [len_eq] at key ⊢
  have e2 : (fi.toList.map a.eval ++ ca.toList.map a.eval).take (evs e ofi).length = fi.toList.map a.eval := by rw [← e1, List.take_left]
  have e3 : (fi.toList.map a.eval ++ ca.toList.map a.eval).drop (evs e ofi).length = ca.toList.map a.eval := by rw [← e1, List.drop_left]
  rw [e2, e3] at key
  have e4 : (fi.toList.map a.eval).toArray = fi.map a.eval := by apply Array.ext'; simp
  have e5 : (ca.toList.map a.eval).toArray = ca.map a.eval := by apply Array.ext'; simp
  rw [e4, e5] at key
  exact key
end
end Den

set_option autoImplicit false
set_option linter.unusedVariables false
set_option linter.unusedSimpArgs false
namespace Den
open Go Go.RowKit
section
variable {ρ : Vl} {G : Gh} {w : World} {P : Program} {e : Env} {a : Act}
theorem tySz_cells {t : TypeId} {n : Nat} (h : tySz P t = some n) : ∃ i, P.info? t = some i ∧ i.size = n := by
  simp only [tySz, Option.map_eq_some_iff] at h
  exact h
theorem p_fld {dst : Option Nat} {type : TypeId} {pos : String} {aft : Array Edge} {g : Option (Nat × Bool)} {t : TypeId} {fs : Array Field} {f : Field} {i n : Nat} {x : Operand} {ox : Opd} {v : AV} (hx : VR ρ G w (ox.ev e) (a.eval x))
    (hu : P.underlying t = some (.struct fs)) (hf : fs[i]? = some f) (hn : tySz P f.type = some (n + 1)) (h : evP e (.fld f.offset ox) = some v) : Yds P ρ G w a ⟨dst, .fieldAddr t x i, type, pos, aft, g⟩ v := by
  simp only [evP] at h
  generalize ox.ev e = y at h hx
  generalize hr : a.eval x = rv at hx
  have key : ∀ r : Addr, r.spot = none → rv = .pointer (some r) → (Instr.fieldAt t (a.eval x) i).run P w = .ok (.pointer (some ⟨r.block, r.off + f.offset, none⟩)) w := by
    intro r hs hrv
    obtain ⟨b, o, sp⟩ := r
    simp only at hs; subst hs
    simp [Instr.fieldAt, run_underlying hu, hf, hr, hrv, Instr.sureAddr, fieldPlace, run_size hn, Addr.add]
  split at h
  · rename_i b o
    injection h with h; subst h
    cases hx with
    | ptr _ _ rb hb => exact yds_of rfl (key _ rfl rfl) (.ptr b _ rb hb)
  · rename_i o cs
    injection h with h; subst h
    cases hx with
    | eptr _ o0 rb _ vs m hm hvs h1 hc hfl =>
      refine yds_of rfl (key _ rfl rfl) ?_
      have := VR.eptr (ρ := ρ) (o + f.offset) o0 rb cs vs m hm hvs h1 hc hfl
      simpa [Nat.add_assoc] using this
  · cases h
theorem p_fldv {dst : Option Nat} {type : TypeId} {pos : String} {aft : Array Edge} {g : Option (Nat × Bool)} {t : TypeId} {fs : Array Field} {f : Field} {i n : Nat} {ag : Bool} {x : Operand} {ox : Opd} {v : AV} (hx : VR ρ G w (ox.ev e) (a.eval x))
    (hu : P.underlying t = some (.struct fs)) (hf : fs[i]? = some f) (ha : tyAg P f.type = some ag) (hn : tySz P f.type = some n) (h : evP e (.fldv ag n f.offset ox) = some v) : Yds P ρ G w a ⟨dst, .field t x i, type, pos, aft, g⟩ v := by
  simp only [evP] at h
  generalize ox.ev e = y at h hx
  generalize hr : a.eval x = rv at hx
  split at h
  · cases hx with
    | agg cs vs hvs h1 =>
      obtain ⟨rv, hp, hv⟩ := part_ok ha hn hvs h1 h w
      refine yds_of (s := Instr.field t (a.eval x) i) rfl ?_ hv
      simp [Instr.field, run_underlying hu, hf, hr, asAgg, hp]
  · cases h
theorem nth_drop_flat {z : Nat} : ∀ {xs : List AV} {i : Nat} {v : AV}, (∀ x ∈ xs, (cellsOf x).length = z) → xs[i]? = some v → (flat xs).drop (i * z) = cellsOf v ++ (flat xs).drop (i * z + z)
  | [], i, v, _, h => by simp at h
  | x :: xs, 0, v, hl, h => by
    simp at h; subst h
    have := hl x (by simp)
    simp only [flat, Nat.zero_mul, List.drop_zero, Nat.zero_add]
    rw [List.drop_append_of_le_length (by omega), List.drop_of_length_le (by omega)]; rfl
  | x :: xs, i + 1, v, hl, h => by
    simp at h
    have h0 := hl x (by simp)
    have ih := nth_drop_flat (i := i) (fun y hy => hl y (by simp [hy])) h
    have e1 : (i + 1) * z = z + i * z := by rw [Nat.succ_mul]; omega
    have key : ∀ m, (cellsOf x ++ flat xs).drop (z + m) = (flat xs).drop m := by
      intro m
      rw [List.drop_append, List.drop_of_length_le (by omega), List.nil_append, h0]
      congr 1; omega
    simp only [flat]
    rw [e1, Nat.add_assoc, key, key, ih]
/-- an element's cells -/
theorem VRs.elem {z : Nat} {xs : List AV} {vs : List Value} {i : Nat} {v : AV} (h : VRs ρ G w (flat xs) vs) (h1 : ones (flat xs)) (hl : ∀ x ∈ xs, (cellsOf x).length = z) (hi : xs[i]? = some v) :
    VRs ρ G w (cellsOf v) ((vs.drop (i * z)).take z) ∧ ones (cellsOf v) ∧ (cellsOf v).length = z := by
  have hz := hl v (List.mem_of_getElem? hi)
  have hd := nth_drop_flat hl hi
  have h2 := (h.drop (i * z)).take z
  rw [hd, List.take_append_of_le_length (by omega), List.take_of_length_le (by omega)] at h2
  refine ⟨h2, ?_, hz⟩
  refine ones_sub h1 fun x hx => ?_
  have : x ∈ (flat xs).drop (i * z) := by rw [hd]; simp [hx]
  exact List.mem_of_mem_drop this
theorem p_idx {dst : Option Nat} {type : TypeId} {pos : String} {aft : Array Edge} {g : Option (Nat × Bool)} {t el : TypeId} {z : Nat} {x i : Operand} {ox oi : Opd} {v : AV} (hx : VR ρ G w (ox.ev e) (a.eval x)) (hi : VR ρ G w (oi.ev e) (a.eval i))
    (hu : P.underlying t = some (.slice el)) (hn : tySz P el = some z) (h : evP e (.idx z ox oi) = some v) : Yds P ρ G w a ⟨dst, .indexAddr t x i, type, pos, aft, g⟩ v := by
  simp only [evP] at h
  generalize ox.ev e = y at h hx
  generalize hq : natV (oi.ev e) = q at h
  generalize hr : a.eval x = rv at hx
  have key : ∀ (r : Addr) (j len c : Nat), natV (oi.ev e) = some j → j < len → r.spot = none → rv = .slice (some r) len c → (Instr.indexAt t (a.eval x) (a.eval i)).run P w = .ok (.pointer (some ⟨r.block, r.off + j * z, none⟩)) w := by
    intro r j len c hj hlt hs hrv
    obtain ⟨b, o, sp⟩ := r
    simp only at hs; subst hs
    obtain ⟨k, hk⟩ := natV_ok hi hj
    simp [Instr.indexAt, hk, asIntOf, run_underlying hu, hr, hrv, hlt, run_size hn, Addr.add]
  split at h
  · rename_i z' tok st xc xs j
    split at h
    · rename_i hz
      have hz' : z = z' := Nat.eq_of_beq_eq_true hz
      subst hz'
      split at h
      · rename_i u hu'
        injection h with h; subst h
        rw [nth_eq] at hu'
        have hlt : j < xs.length := (List.getElem?_eq_some_iff.1 hu').1
        cases hx with
        | vsl _ _ _ rb rcap o _ _ vs m hm hz ht h0 hf hl hvs h1 hc hcap hxc htot ho =>
          have ho' := ho (by omega)
          subst ho'
          refine yds_of rfl (key _ j _ _ hq hlt rfl rfl) ?_
          obtain ⟨e1, e2, e3⟩ := hvs.elem h1 hl hu'
          have hvl := hvs.length
          rw [flat_length hl] at hvl
          have hle : j * z + z ≤ xs.length * z := by rw [← Nat.succ_mul]; exact Nat.mul_le_mul_right _ hlt
          refine .eptr 0 ((st - m.c0) * z + j * z) rb (cellsOf u) _ m hm e1 e2 ?_ ?_
          · intro k v hk
            rw [List.getElem?_take] at hk
            split at hk
            · rw [List.getElem?_drop] at hk
              have := hc _ _ hk
              simpa [Nat.add_assoc] using this
            · cases hk
          · have e4 := e1.length
            rw [e4, e3]
            have : (st - m.c0) * z + xs.length * z ≤ m.filled * m.z := by rw [← Nat.add_mul, hz]; exact Nat.mul_le_mul_right _ hf
            omega
      · cases h
    · cases h
  · rename_i z' b off n cap j
    split at h
    · rename_i hz hlt'
      have hz' : z = z' := Nat.eq_of_beq_eq_true hz
      subst hz'
      have hlt : j < n := Nat.le_of_ble_eq_true hlt'
      injection h with h; subst h
      cases hx with
      | hsl _ _ _ _ _ rb rcap et size o hb hz h1 h2 hs h3 ho =>
        have ho' := ho (by omega)
        subst ho'
        exact yds_of rfl (key _ j _ _ hq hlt rfl rfl) (.ptr b _ rb hb)
    · cases h
  · cases h
theorem p_idxa {dst : Option Nat} {type : TypeId} {pos : String} {aft : Array Edge} {g : Option (Nat × Bool)} {t el : TypeId} {n z : Nat} {x i : Operand} {ox oi : Opd} {v : AV} (hx : VR ρ G w (ox.ev e) (a.eval x)) (hi : VR ρ G w (oi.ev e) (a.eval i))
    (hu : P.underlying t = some (.array n el)) (hn : tySz P el = some z) (h : evP e (.idxa n z ox oi) = some v) : Yds P ρ G w a ⟨dst, .indexAddr t x i, type, pos, aft, g⟩ v := by
  simp only [evP] at h
  generalize ox.ev e = y at h hx
  generalize hq : natV (oi.ev e) = q at h
  generalize hr : a.eval x = rv at hx
  have key : ∀ (r : Addr) (j : Nat), natV (oi.ev e) = some j → j < n → r.spot = none → rv = .pointer (some r) → (Instr.indexAt t (a.eval x) (a.eval i)).run P w = .ok (.pointer (some ⟨r.block, r.off + j * z, none⟩)) w := by
    intro r j hj hlt hs hrv
    obtain ⟨b, o, sp⟩ := r
    simp only at hs; subst hs
    obtain ⟨k, hk⟩ := natV_ok hi hj
    simp [Instr.indexAt, hk, asIntOf, run_underlying hu, hr, hrv, hlt, run_size hn, Addr.add, Instr.sureAddr]
  split at h
  · rename_i b o j
    split at h
    · rename_i hlt'
      have hlt : j < n := Nat.le_of_ble_eq_true hlt'
      injection h with h; subst h
      cases hx with
      | ptr _ _ rb hb => exact yds_of rfl (key _ j hq hlt rfl rfl) (.ptr b _ rb hb)
    · cases h
  · rename_i o cs j
    split at h
    · rename_i hlt'
      have hlt : j < n := Nat.le_of_ble_eq_true hlt'
      injection h with h; subst h
      cases hx with
      | eptr _ o0 rb _ vs m hm hvs h1 hc hfl =>
        refine yds_of rfl (key _ j hq hlt rfl rfl) ?_
        have := VR.eptr (ρ := ρ) (o + j * z) o0 rb cs vs m hm hvs h1 hc hfl
        simpa [Nat.add_assoc] using this
    · cases h
  · cases h
theorem p_idxs {dst : Option Nat} {type : TypeId} {pos : String} {aft : Array Edge} {g : Option (Nat × Bool)} {t : TypeId} {x i : Operand} {ox oi : Opd} {v : AV} (hx : VR ρ G w (ox.ev e) (a.eval x)) (hi : VR ρ G w (oi.ev e) (a.eval i))
    (hu : P.underlying t = some .string) (h : evP e (.idxs ox oi) = some v) : Yds P ρ G w a ⟨dst, .index t x i, type, pos, aft, g⟩ v := by
  simp only [evP] at h
  generalize ox.ev e = y at h hx
  generalize hq : natV (oi.ev e) = q at h
  generalize hr : a.eval x = rv at hx
  split at h
  · rename_i l j
    split at h
    · rename_i c hc
      injection h with h; subst h
      obtain ⟨k, hk⟩ := natV_ok hi hq
      cases hx with
      | str _ s hs =>
        rw [nth_eq] at hc
        obtain ⟨b, hb, hbv⟩ := hs.get hc
        · have hb' : s[j]? = some b := by
            obtain ⟨h1, h2⟩ := List.getElem?_eq_some_iff.1 hb
            rw [getElem?_pos s j (by simpa using h1)]
            congr 1
          refine yds_of (s := Instr.index t (a.eval x) (a.eval i)) rfl (rv := .int .u8 b.toNat) ?_ (VR.intE hbv)
          simp [Instr.index, hk, asIntOf, run_underlying hu, hr, hb']
    · cases h
  · cases h
theorem p_idxv {dst : Option Nat} {type : TypeId} {pos : String} {aft : Array Edge} {g : Option (Nat × Bool)} {t el : TypeId} {ag : Bool} {n z : Nat} {x i : Operand} {ox oi : Opd} {v : AV} (hx : VR ρ G w (ox.ev e) (a.eval x)) (hi : VR ρ G w (oi.ev e) (a.eval i))
    (hu : P.underlying t = some (.array n el)) (ha : tyAg P el = some ag) (hn : tySz P el = some z) (h : evP e (.idxv ag n z ox oi) = some v) : Yds P ρ G w a ⟨dst, .index t x i, type, pos, aft, g⟩ v := by
  simp only [evP] at h
  generalize ox.ev e = y at h hx
  generalize hq : natV (oi.ev e) = q at h
  generalize hr : a.eval x = rv at hx
  split at h
  · rename_i cs j
    split at h
    · rename_i hlt'
      have hlt : j < n := Nat.le_of_ble_eq_true hlt'
      obtain ⟨k, hk⟩ := natV_ok hi hq
      cases hx with
      | agg _ vs hvs h1 =>
        obtain ⟨rv, hp, hv⟩ := part_ok ha hn hvs h1 h w
        refine yds_of (s := Instr.index t (a.eval x) (a.eval i)) rfl ?_ hv
        simp [Instr.index, hk, asIntOf, run_underlying hu, hr, hlt, run_size hn, hp]
    · cases h
  · cases h
theorem p_ext {dst : Option Nat} {type : TypeId} {pos : String} {aft : Array Edge} {g : Option (Nat × Bool)} {i : Nat} {x : Operand} {ox : Opd} {v : AV} (hx : VR ρ G w (ox.ev e) (a.eval x))
    (h : evP e (.ext ox i) = some v) : Yds P ρ G w a ⟨dst, .extract x i, type, pos, aft, g⟩ v := by
  simp only [evP] at h
  generalize ox.ev e = y at h hx
  generalize hr : a.eval x = rv at hx
  split at h
  · cases hx with
    | tup _ vs hvs =>
      rw [nth_eq] at h
      obtain ⟨rv, h1, h2⟩ := hvs.get h
      refine yds_of (s := Instr.extract (a.eval x) i) rfl ?_ h2
      simp [Instr.extract, hr, h1]
  · cases h
end
end Den

set_option autoImplicit false
set_option linter.unusedVariables false
set_option linter.unusedSimpArgs false
namespace Den
open Go Go.RowKit
theorem flat_drop {z : Nat} : ∀ {xs : List AV} (n : Nat), (∀ x ∈ xs, (cellsOf x).length = z) → flat (xs.drop n) = (flat xs).drop (n * z)
  | [], n, _ => by simp [flat]
  | x :: xs, 0, _ => by simp
  | x :: xs, n + 1, hl => by
    have h0 := hl x (by simp)
    have e1 : (n + 1) * z = z + n * z := by rw [Nat.succ_mul]; omega
    simp only [List.drop_succ_cons, flat]
    rw [flat_drop n (fun y hy => hl y (by simp [hy])), e1]
    have key : ∀ m, (cellsOf x ++ flat xs).drop (z + m) = (flat xs).drop m := by
      intro m
      rw [List.drop_append, List.drop_of_length_le (by omega), List.nil_append, h0]
      congr 1; omega
    exact (key _).symm
theorem flat_take {z : Nat} : ∀ {xs : List AV} (n : Nat), (∀ x ∈ xs, (cellsOf x).length = z) → flat (xs.take n) = (flat xs).take (n * z)
  | [], n, _ => by simp [flat]
  | x :: xs, 0, _ => by simp [flat]
  | x :: xs, n + 1, hl => by
    have h0 := hl x (by simp)
    have e1 : (n + 1) * z = z + n * z := by rw [Nat.succ_mul]; omega
    simp only [List.take_succ_cons, flat]
    rw [flat_take n (fun y hy => hl y (by simp [hy])), e1]
    have key : ∀ m, (cellsOf x ++ flat xs).take (z + m) = cellsOf x ++ (flat xs).take m := by
      intro m
      rw [List.take_append, List.take_of_length_le (by omega), h0]
      congr 2; omega
    exact (key _).symm
section
variable {ρ : Vl} {G : Gh} {w : World} {P : Program} {e : Env} {a : Act}
theorem slice_run {t el : TypeId} {z : Nat} (hu : P.underlying t = some (.slice el)) (hn : tySz P el = some z) {base : Option Addr} {n cap : Nat} {lo hi mx : Option Value} {l h m : Nat}
    (hb : (Instr.sliceBounds true n cap lo hi mx).run P w = .ok (l, h, m) w) : (Instr.sliceAt t (.slice base n cap) lo hi mx).run P w = .ok (.slice (if m = l then base else base.map (·.add (l * z))) (h - l) (m - l)) w := by
  simp [Instr.sliceAt, Instr.slice, run_underlying hu, hb, run_size hn]
theorem slc_ok {t : TypeId} {z : Nat} {x v : AV} {rv : Value} {lo hi mx : Option Nat} {vl vh vm : Option Value} (hx : VR ρ G w x rv) (hl : BR e none lo vl) (hh : BR e none hi vh) (hm : BR e none mx vm) (hxm : mx = none ∨ hi ≠ none)
    (ht : (z = 0 ∧ P.underlying t = some .string) ∨ ∃ el, P.underlying t = some (.slice el) ∧ tySz P el = some z ∧ 0 < z) (h : slcV z x lo hi mx = some v) :
    ∃ r, (Instr.sliceAt t rv vl vh vm).run P w = .ok r w ∧ VR ρ G w v r := by
  unfold slcV at h
  split at h
  · split at h
    · rename_i l
      split at h
      · split at h
        · rename_i lo' hi' m' hb
          injection h with h; subst h
          cases hx with
          | str _ s hs =>
            rcases ht with ⟨_, hu⟩ | ⟨el, hu, hz, hpos⟩
            · have hlen : len l = s.size := by rw [len_eq, ← hs.length]; simp
              rw [hlen] at hb
              obtain ⟨hr, h1, h2, h3, _, _⟩ := bounds_ok P (isS := false) (e := e) hl hh hm hxm s.size (Nat.le_refl _) hb w
              simp only [BR] at hm; subst hm
              refine ⟨.string (s.extract lo' hi'), ?_, ?_⟩
              · simp [Instr.sliceAt, Instr.slice, run_underlying hu, hr]
              · refine .str _ _ ?_
                rw [tk_eq, dr_eq]
                have := (hs.drop lo').take (hi' - lo')
                simpa [ByteArray.data_extract, List.extract_eq_take_drop] using this
            · exact absurd hpos (by omega)
        · cases h
      · cases h
    · cases h
  · rename_i z
    have ht' : ∃ el, P.underlying t = some (.slice el) ∧ tySz P el = some (z + 1) ∧ 0 < z + 1 := by
      rcases ht with ⟨h0, _⟩ | h'
      · exact absurd h0 (by omega)
      · exact h'
    obtain ⟨el, hu, hz, _⟩ := ht'
    split at h
    · split at h
      · rename_i r hb
        injection h with h; subst h
        obtain ⟨l, hh', m⟩ := r
        cases hx
        obtain ⟨hr, h1, h2, h3, h4, h5⟩ := bounds_ok P (isS := true) (e := e) hl hh hm hxm 0 (Nat.le_refl _) hb w
        have hl0 : l = 0 := by omega
        have hh0 : hh' = 0 := by omega
        subst hl0; subst hh0
        have hm0 : (mxD mx 0) = 0 := by
          cases mx with
          | none => rfl
          | some m' => have := h4 m' rfl; simp only [mxD, Option.getD]; omega
        rw [hm0] at hr
        refine ⟨.slice none 0 0, ?_, .nilsl⟩
        rw [slice_run hu hz hr]; rfl
      · cases h
    · rename_i z' tok st xc xs
      split at h
      · rename_i hzz
        have hz' : z + 1 = z' := Nat.eq_of_beq_eq_true hzz
        subst hz'
        split at h
        · rename_i l hi' m hb
          injection h with h; subst h
          rw [len_eq] at hb
          cases hx with
          | vsl _ _ _ rb rcap o _ _ vs im him hiz hit h0 hf hel hvs h1 hc hcap hxc htot ho =>
            obtain ⟨hr, b1, b2, b3, b4, b5⟩ := bounds_ok P (isS := true) (e := e) hl hh hm hxm rcap hcap hb w
            have hM : hi' ≤ (mxD mx rcap) ∧ (mxD mx rcap) ≤ rcap := by
              cases mx with
              | none => simp only [mxD, Option.getD]; omega
              | some m' => have := b4 m' rfl; subst this; simp only [mxD, Option.getD]; omega
            generalize hMM : (mxD mx rcap) = M at hr hM
            refine ⟨_, slice_run hu hz hr, ?_⟩
            have hel' : ∀ x ∈ tk (hi' - l) (dr l xs), (cellsOf x).length = z + 1 := by
              rw [tk_eq, dr_eq]
              exact fun x hx => hel x (List.mem_of_mem_drop (List.mem_of_mem_take hx))
            have hel1 : ∀ x ∈ dr l xs, (cellsOf x).length = z + 1 := by
              rw [dr_eq]; exact fun x hx => hel x (List.mem_of_mem_drop hx)
            have hfl : flat (tk (hi' - l) (dr l xs)) = ((flat xs).drop (l * (z + 1))).take ((hi' - l) * (z + 1)) := by
              rw [tk_eq, flat_take _ hel1, dr_eq, flat_drop _ hel]
            have hlen : (tk (hi' - l) (dr l xs)).length = hi' - l := by
              rw [tk_eq, dr_eq]; simp; omega
            have hvs' : VRs ρ G w (flat (tk (hi' - l) (dr l xs))) ((vs.drop (l * (z + 1))).take ((hi' - l) * (z + 1))) := by
              rw [hfl]; exact (hvs.drop _).take _
            have hr' : w.rangeAt rb ((st + l - im.c0) * (z + 1)) ((vs.drop (l * (z + 1))).take ((hi' - l) * (z + 1))) := by
              intro j v hj
              rw [List.getElem?_take] at hj
              split at hj
              · rw [List.getElem?_drop] at hj
                have := hc _ _ hj
                have e1 : st + l - im.c0 = (st - im.c0) + l := by omega
                rw [e1, Nat.add_mul]
                simpa [Nat.add_assoc] using this
              · cases hj
            have key := VR.vsl (ρ := ρ) (z + 1) tok (st + l) rb (M - l) (if M = l then o else o + l * (z + 1))
              (match (generalizing := false) mx with | some _ => some (m - l) | none => match (generalizing := false) xc with | some c => some (c - l) | none => none)
              (tk (hi' - l) (dr l xs)) _ im him hiz hit (by omega) (by rw [hlen]; omega) hel' hvs'
              (by rw [hfl]; exact ones_sub h1 fun x hx => List.mem_of_mem_drop (List.mem_of_mem_take hx)) hr' (by rw [hlen]; omega)
              (by
                intro c hc'
                cases mx with
                | some m' =>
                  have := b4 m' rfl
                  subst this
                  simp only [mxD, Option.getD] at hMM hc'
                  injection hc' with hc'; omega
                | none =>
                  simp only [mxD, Option.getD] at hMM
                  cases xc with
                  | none => cases hc'
                  | some c' => simp only at hc'; injection hc' with hc'; have := hxc c' rfl; omega)
              (by
                have : (st + l - im.c0 + (M - l)) ≤ st - im.c0 + rcap := by omega
                exact Nat.le_trans (Nat.mul_le_mul_right _ this) htot)
              (by
                intro hpos
                rw [if_neg (by omega), ho (by omega)]
                have e1 : st + l - im.c0 = (st - im.c0) + l := by omega
                rw [e1, Nat.add_mul])
            rw [hlen] at key
            have e2 : (if M = l then some (⟨rb, o, none⟩ : Addr) else (some (⟨rb, o, none⟩ : Addr)).map (·.add (l * (z + 1)))) = some ⟨rb, if M = l then o else o + l * (z + 1), none⟩ := by
              by_cases hml : M = l
              · simp [hml]
              · simp [hml, Addr.add]
            rw [e2]
            exact key
        · cases h
      · cases h
    · rename_i z' b off n cap
      split at h
      · rename_i hzz
        have hz' : z + 1 = z' := Nat.eq_of_beq_eq_true hzz
        subst hz'
        split at h
        · rename_i l hi' m hb
          injection h with h; subst h
          cases hx with
          | hsl _ _ _ _ _ rb rcap et size o hb' hzp h1 h2 hs h3 ho =>
            obtain ⟨hr, b1, b2, b3, b4, b5⟩ := bounds_ok P (isS := true) (e := e) hl hh hm hxm rcap h2 hb w
            have hM : m ≤ (mxD mx rcap) ∧ (mxD mx rcap) ≤ rcap := by
              cases mx with
              | none => have := b5 rfl; simp only [mxD, Option.getD]; omega
              | some m' => have := b4 m' rfl; subst this; simp only [mxD, Option.getD]; omega
            generalize hMM : (mxD mx rcap) = M at hr hM
            refine ⟨_, slice_run hu hz hr, ?_⟩
            have key := VR.hsl (ρ := ρ) (w := w) (z + 1) b (off + l * (z + 1)) (hi' - l) (m - l) rb (M - l) et size (if M = l then o else o + l * (z + 1)) hb' hzp (by omega) (by omega) hs
              (by
                have e1 : l + (M - l) = M := by omega
                rw [Nat.add_assoc, ← Nat.add_mul, e1]
                exact Nat.le_trans (Nat.add_le_add_left (Nat.mul_le_mul_right _ hM.2) _) h3)
              (by intro hpos; rw [if_neg (by omega), ho (by omega)])
            have e2 : (if M = l then some (⟨rb, o, none⟩ : Addr) else (some (⟨rb, o, none⟩ : Addr)).map (·.add (l * (z + 1)))) = some ⟨rb, if M = l then o else o + l * (z + 1), none⟩ := by
              by_cases hml : M = l
              · simp [hml]
              · simp [hml, Addr.add]
            rw [e2]
            exact key
        · cases h
      · cases h
    · cases h
end
end Den

set_option autoImplicit false
set_option linter.unusedVariables false
set_option linter.unusedSimpArgs false
namespace Den
open Go Go.RowKit
section
variable {ρ : Vl} {G : Gh} {w : World} {P : Program} {e : Env} {a : Act}
theorem p_slc {dst : Option Nat} {type : TypeId} {pos : String} {aft : Array Edge} {g : Option (Nat × Bool)} {t : TypeId} {z : Nat} {x : Operand} {lo hi mx : Option Operand} {ox : Opd} {ol oh om : Option Opd} {v : AV} (hx : VR ρ G w (ox.ev e) (a.eval x))
    (hl : ∀ n, evo e ol = some n → BR e none n (lo.map a.eval)) (hh : ∀ n, evo e oh = some n → BR e none n (hi.map a.eval)) (hm : ∀ n, evo e om = some n → BR e none n (mx.map a.eval)) (hxm : om = none ∨ oh ≠ none)
    (ht : (z = 0 ∧ P.underlying t = some .string) ∨ ∃ el, P.underlying t = some (.slice el) ∧ tySz P el = some z ∧ 0 < z) (h : evP e (.slc z ox ol oh om) = some v) : Yds P ρ G w a ⟨dst, .slice t x lo hi mx, type, pos, aft, g⟩ v := by
  simp only [evP] at h
  split at h
  · rename_i lo' hi' mx' h1 h2 h3
    have hxm' : mx' = none ∨ hi' ≠ none := by
      rcases hxm with h0 | h0
      · subst h0; simp [evo] at h3; exact .inl h3.symm
      · right
        rintro rfl
        cases oh with
        | none => exact h0 rfl
        | some o => simp only [evo] at h2; split at h2 <;> simp at h2
    obtain ⟨r, hr, hv⟩ := slc_ok (P := P) hx (hl _ h1) (hh _ h2) (hm _ h3) hxm' ht h
    exact yds_of rfl hr hv
  · cases h
theorem places_ok : ∀ (fs : List Field), fs.all (fun f => (P.info? f.type).isSome) = true → ∃ places : List (Nat × Nat), fs.mapM (fun f => (P.info? f.type).map fun i => (f.offset, i.size)) = some places ∧ ∀ (i : Nat) (f : Field) (n : Nat), fs[i]? = some f → tySz P f.type = some n → places[i]? = some (f.offset, n)
  | [], _ => ⟨[], by simp, fun i f n h => by simp at h⟩
  | f :: fs, h => by
    simp only [List.all_cons, Bool.and_eq_true] at h
    obtain ⟨h1, h2⟩ := h
    obtain ⟨pl, h3, h4⟩ := places_ok fs h2
    obtain ⟨i, hi⟩ := Option.isSome_iff_exists.1 h1
    refine ⟨(f.offset, i.size) :: pl, by simp [List.mapM_cons, hi, h3], fun j f' n hj hn => ?_⟩
    cases j with
    | zero =>
      simp at hj; subst hj
      simp [tySz, hi] at hn; subst hn
      simp
    | succ j => simpa using h4 j f' n (by simpa using hj) hn
theorem cParts_ok {t : TypeId} {place : Nat → Option (Nat × Nat)} (hp : ∀ i off n, (∃ (fs : Array Field) (f : Field), P.underlying t = some (.struct fs) ∧ fs[i]? = some f ∧ off = f.offset ∧ tySz P f.type = some n) ∨ (∃ m el, P.underlying t = some (.array m el) ∧ tySz P el = some n ∧ off = i * n) → place i = some (off, n)) :
    ∀ {l : List (Nat × Operand)} {ps : List (Nat × Nat × Opd)}, cParts P t l = some ps → (∀ p ∈ l, ∀ ox, cOpd p.2 = some ox → VR ρ G w (ox.ev e) (a.eval p.2)) → PR ρ G w e place ps (l.map fun p => (p.1, a.eval p.2))
  | [], ps, h, _ => by simp [cParts] at h; subst h; exact .nil
  | (i, x) :: l, ps, h, hr => by
    simp only [cParts, Option.bind_eq_bind, Option.bind_eq_some_iff] at h
    obtain ⟨o, h1, r, h2, h3⟩ := h
    have ih := cParts_ok hp h2 fun p hp => hr p (by simp [hp])
    have hv := hr (i, x) (by simp) o h1
    split at h3
    · rename_i fs hu
      simp only [Option.bind_eq_some_iff, Option.pure_def, Option.some.injEq] at h3
      obtain ⟨f, hf, n, hn, rfl⟩ := h3
      exact .cons _ _ _ _ _ _ _ (hp i f.offset n (.inl ⟨fs, f, hu, hf, rfl, hn⟩)) hv ih
    · rename_i m el hu
      simp only [Option.bind_eq_some_iff, Option.pure_def, Option.some.injEq] at h3
      obtain ⟨n, hn, rfl⟩ := h3
      exact .cons _ _ _ _ _ _ _ (hp i (i * n) n (.inr ⟨m, el, hu, hn, rfl⟩)) hv ih
    · cases h3
theorem p_build {dst : Option Nat} {type : TypeId} {pos : String} {aft : Array Edge} {g : Option (Nat × Bool)} {t : TypeId} {z : AV} {parts : Array (Nat × Operand)} {ps : List (Nat × Nat × Opd)} {v : AV} (hz : tyZero P t = some z) (hp : cParts P t parts.toList = some ps) (hb : buildable P t = true)
    (hr : ∀ p ∈ parts.toList, ∀ ox, cOpd p.2 = some ox → VR ρ G w (ox.ev e) (a.eval p.2)) (h : evP e (.build (cellsOf z) ps) = some v) : Yds P ρ G w a ⟨dst, .build t parts, type, pos, aft, g⟩ v := by
  simp only [evP] at h
  split at h
  · rename_i cs hf
    injection h with h; subst h
    obtain ⟨i, rz, hi, hz', hzv, hz1⟩ := tyZero_ok hz
    have hzc := ((hzv ρ G w).cells hz1.2)
    have e1 : (parts.map fun (i, x) => (i, a.eval x)).toList = parts.toList.map fun p => (p.1, a.eval p.2) := by simp
    have fin : ∀ place, PR ρ G w e place ps (parts.toList.map fun p => (p.1, a.eval p.2)) → (∀ r, Instr.fill place rz.cells (parts.toList.map fun p => (p.1, a.eval p.2)) = some r → P.built t (parts.toList.map fun p => (p.1, a.eval p.2)) = some r) → Yds P ρ G w a ⟨dst, .build t parts, type, pos, aft, g⟩ (.lst .agg cs) := by
      intro place hpr hbu
      obtain ⟨vs, h1, h2, h3⟩ := fill_ok hpr hzc.1 hz1.1 hf
      refine yds_of (s := Instr.build t (parts.map fun (i, x) => (i, a.eval x))) rfl (run_build w t _ vs.toArray ?_) (.agg _ _ h2 h3)
      rw [e1]
      exact hbu _ (by simpa using h1)
    unfold buildable at hb
    split at hb
    · rename_i fs hu
      obtain ⟨pl, h1, h2⟩ := places_ok fs.toList hb
      refine fin (fun i => pl.toArray[i]?) (cParts_ok ?_ hp hr) ?_
      · rintro i off n (⟨fs', f, h3, h4, rfl, h5⟩ | ⟨m, el, h3, _⟩)
        · rw [hu] at h3
          simp only [Option.some.injEq, TypeDesc.struct.injEq] at h3; subst h3
          simpa using h2 i f n (by simpa using h4) h5
        · rw [hu] at h3; simp at h3
      · intro r hr'
        simp only [Program.built, hi, hu, hz', h1]
        exact hr'
    · rename_i m el hu
      obtain ⟨ie, hie⟩ := Option.isSome_iff_exists.1 hb
      refine fin (fun i => some (i * ie.size, ie.size)) (cParts_ok ?_ hp hr) ?_
      · rintro i off n (⟨fs', f, h3, h4, rfl, h5⟩ | ⟨m', el', h3, h4, rfl⟩)
        · rw [hu] at h3; simp at h3
        · rw [hu] at h3
          simp only [Option.some.injEq, TypeDesc.array.injEq] at h3
          obtain ⟨rfl, rfl⟩ := h3
          simp [tySz, hie] at h4; subst h4; rfl
      · intro r hr'
        simp only [Program.built, hi, hu, hz', hie]
        exact hr'
    · cases hb
  · cases h
theorem call_run {dst : Option Nat} {type : TypeId} {pos : String} {aft : Array Edge} {g : Option (Nat × Bool)} {b : Builtin} {ats : Array TypeId} {args : Array Operand} {r : Result Next}
    (h : (builtin b ats type (args.map fun | .const _ => true | _ => false) (args.map a.eval)).run P w = r) : (execOp a.eval ⟨dst, .call ⟨.builtin b, args, ats⟩, type, pos, aft, g⟩).run P w = r := by
  simp only [execOp, resolve]
  rw [Sem.run_bind]
  exact h
theorem len_run {dst : Option Nat} {type : TypeId} {pos : String} {aft : Array Edge} {g : Option (Nat × Bool)} {ats : Array TypeId} {x : Operand} {n : Nat} (hn : (Builtin.len_ ats type #[a.eval x]).run P w = .ok (goInt n) w) :
    Yds P ρ G w a ⟨dst, .call ⟨.builtin .len, #[x], ats⟩, type, pos, aft, g⟩ (.int .i64 (.c (.ofNat n))) := by
  refine ⟨goInt n, call_run ?_, VR.natC n⟩
  simp only [builtin, List.map_toArray, List.map_cons, List.map_nil]
  rw [Sem.run_bind, hn]; rfl
theorem p_lenT {dst : Option Nat} {type : TypeId} {pos : String} {aft : Array Edge} {g : Option (Nat × Bool)} {ats : Array TypeId} {t : TypeId} {x : Operand} {ox : Opd} {v : AV} (hx : VR ρ G w (ox.ev e) (a.eval x))
    (ht : ats[0]? = some t) (hu : P.underlying t = some .string) (h : evP e (.lenT ox) = some v) : Yds P ρ G w a ⟨dst, .call ⟨.builtin .len, #[x], ats⟩, type, pos, aft, g⟩ v := by
  simp only [evP] at h
  generalize ox.ev e = y at h hx
  generalize hr : a.eval x = rv at hx
  split at h
  · rename_i l
    injection h with h; subst h
    cases hx with
    | str _ s hs =>
      have hlen : len l = s.size := by rw [len_eq, ← hs.length]; simp
      rw [hlen]
      exact len_run (by simp [Builtin.len_, ht, hr, run_underlying hu])
  · cases h
theorem p_lenS {dst : Option Nat} {type : TypeId} {pos : String} {aft : Array Edge} {g : Option (Nat × Bool)} {ats : Array TypeId} {t el : TypeId} {x : Operand} {ox : Opd} {v : AV} (hx : VR ρ G w (ox.ev e) (a.eval x))
    (ht : ats[0]? = some t) (hu : P.underlying t = some (.slice el)) (h : evP e (.lenS ox) = some v) : Yds P ρ G w a ⟨dst, .call ⟨.builtin .len, #[x], ats⟩, type, pos, aft, g⟩ v := by
  simp only [evP] at h
  generalize ox.ev e = y at h hx
  generalize hr : a.eval x = rv at hx
  split at h
  · injection h with h; subst h
    cases hx
    exact len_run (by simp [Builtin.len_, ht, hr, run_underlying hu])
  · injection h with h; subst h
    cases hx
    rw [len_eq]
    exact len_run (by simp [Builtin.len_, ht, hr, run_underlying hu])
  · injection h with h; subst h
    cases hx
    exact len_run (by simp [Builtin.len_, ht, hr, run_underlying hu])
  · cases h
theorem p_lenA {dst : Option Nat} {type : TypeId} {pos : String} {aft : Array Edge} {g : Option (Nat × Bool)} {ats : Array TypeId} {t el : TypeId} {n : Nat} {x : Operand} {v : AV}
    (ht : ats[0]? = some t) (hu : P.underlying t = some (.array n el) ∨ ∃ pt, P.underlying t = some (.pointer pt) ∧ P.underlying pt = some (.array n el)) (h : evP e (.lenA n) = some v) : Yds P ρ G w a ⟨dst, .call ⟨.builtin .len, #[x], ats⟩, type, pos, aft, g⟩ v := by
  simp only [evP] at h
  injection h with h; subst h
  rcases hu with hu | ⟨pt, hu, hu2⟩
  · exact len_run (by simp [Builtin.len_, ht, run_underlying hu])
  · exact len_run (by simp [Builtin.len_, ht, run_underlying hu, run_underlying hu2])
theorem minL_ok : ∀ {xs : List AV} {vs : List Value} {m r : SI} {k : IntKind}, VRs ρ G w xs vs → minL m xs = some r → (vs.foldlM Builtin.min2 (.int k (m.val ρ))).run P w = .ok (.int k (r.val ρ)) w
  | [], _, m, r, k, .nil, h => by simp [minL] at h; subst h; simp
  | .int k' n :: xs, _, m, r, k, .cons _ v _ vs hx hxs, h => by
    simp only [minL] at h
    cases hx
    simp only [List.foldlM_cons, Builtin.min2]
    rw [Sem.run_bind]
    simp only [Sem.run_pure, Result.andThen_ok]
    split at h
    · rename_i hc
      have hlt : n.val ρ < m.val ρ := by simpa using ltS_ok (ρ := ρ) hc
      simp only [gt_iff_lt, if_pos hlt]; exact minL_ok (k := k) hxs h
    · rename_i hc
      have hlt : ¬ n.val ρ < m.val ρ := by simpa using ltS_ok (ρ := ρ) hc
      simp only [gt_iff_lt, if_neg hlt]; exact minL_ok (k := k) hxs h
    · cases h
  | .bool _ :: xs, _, m, r, k, _, h => by simp [minL] at h
  | .str _ :: xs, _, m, r, k, _, h => by simp [minL] at h
  | .ref _ :: xs, _, m, r, k, _, h => by simp [minL] at h
  | .lst _ _ :: xs, _, m, r, k, _, h => by simp [minL] at h
theorem maxL_ok : ∀ {xs : List AV} {vs : List Value} {m r : SI} {k : IntKind}, VRs ρ G w xs vs → maxL m xs = some r → (vs.foldlM Builtin.max2 (.int k (m.val ρ))).run P w = .ok (.int k (r.val ρ)) w
  | [], _, m, r, k, .nil, h => by simp [maxL] at h; subst h; simp
  | .int k' n :: xs, _, m, r, k, .cons _ v _ vs hx hxs, h => by
    simp only [maxL] at h
    cases hx
    simp only [List.foldlM_cons, Builtin.max2]
    rw [Sem.run_bind]
    simp only [Sem.run_pure, Result.andThen_ok]
    split at h
    · rename_i hc
      have hlt : m.val ρ < n.val ρ := by simpa using ltS_ok (ρ := ρ) hc
      simp only [gt_iff_lt, if_pos hlt]; exact maxL_ok (k := k) hxs h
    · rename_i hc
      have hlt : ¬ m.val ρ < n.val ρ := by simpa using ltS_ok (ρ := ρ) hc
      simp only [gt_iff_lt, if_neg hlt]; exact maxL_ok (k := k) hxs h
    · cases h
  | .bool _ :: xs, _, m, r, k, _, h => by simp [maxL] at h
  | .str _ :: xs, _, m, r, k, _, h => by simp [maxL] at h
  | .ref _ :: xs, _, m, r, k, _, h => by simp [maxL] at h
  | .lst _ _ :: xs, _, m, r, k, _, h => by simp [maxL] at h
theorem p_minI {dst : Option Nat} {type : TypeId} {pos : String} {aft : Array Edge} {g : Option (Nat × Bool)} {ats : Array TypeId} {args : Array Operand} {x : Opd} {xs : List Opd} {v : AV}
    (hs : VRs ρ G w (evs e (x :: xs)) (args.toList.map a.eval)) (h : evP e (.minI x xs) = some v) : Yds P ρ G w a ⟨dst, .call ⟨.builtin .min, args, ats⟩, type, pos, aft, g⟩ v := by
  simp only [evP] at h
  generalize hx : x.ev e = y at h
  simp only [evs, hx] at hs
  generalize hr : args.toList.map a.eval = rs at hs
  split at h
  · rename_i n
    split at h
    · rename_i m hm
      injection h with h; subst h
      cases hs with
      | cons _ u _ us hu hus =>
        cases hu
        have := minL_ok (P := P) (k := .i64) hus hm
        refine ⟨.int .i64 (m.val ρ), call_run ?_, .int _ m⟩
        simp only [builtin]
        rw [Sem.run_bind]
        have e1 : (args.map a.eval).toList = .int .i64 (n.val ρ) :: us := by rw [← show args.toList.map a.eval = .int .i64 (n.val ρ) :: us from hr]; simp
        have e2 : (Builtin.min_ ats type (args.map a.eval)).run P w = .ok (.int .i64 (m.val ρ)) w := by
          simp only [Builtin.min_, e1]; exact this
        rw [e2]; rfl
    · cases h
  · cases h
theorem p_maxI {dst : Option Nat} {type : TypeId} {pos : String} {aft : Array Edge} {g : Option (Nat × Bool)} {ats : Array TypeId} {args : Array Operand} {x : Opd} {xs : List Opd} {v : AV}
    (hs : VRs ρ G w (evs e (x :: xs)) (args.toList.map a.eval)) (h : evP e (.maxI x xs) = some v) : Yds P ρ G w a ⟨dst, .call ⟨.builtin .max, args, ats⟩, type, pos, aft, g⟩ v := by
  simp only [evP] at h
  generalize hx : x.ev e = y at h
  simp only [evs, hx] at hs
  generalize hr : args.toList.map a.eval = rs at hs
  split at h
  · rename_i n
    split at h
    · rename_i m hm
      injection h with h; subst h
      cases hs with
      | cons _ u _ us hu hus =>
        cases hu
        have := maxL_ok (P := P) (k := .i64) hus hm
        refine ⟨.int .i64 (m.val ρ), call_run ?_, .int _ m⟩
        simp only [builtin]
        rw [Sem.run_bind]
        have e1 : (args.map a.eval).toList = .int .i64 (n.val ρ) :: us := by rw [← show args.toList.map a.eval = .int .i64 (n.val ρ) :: us from hr]; simp
        have e2 : (Builtin.max_ ats type (args.map a.eval)).run P w = .ok (.int .i64 (m.val ρ)) w := by
          simp only [Builtin.max_, e1]; exact this
        rw [e2]; rfl
    · cases h
  · cases h
theorem p_sdat {dst : Option Nat} {type : TypeId} {pos : String} {aft : Array Edge} {g : Option (Nat × Bool)} {ats : Array TypeId} {x : Operand} {ox : Opd} {v : AV} (hx : VR ρ G w (ox.ev e) (a.eval x))
    (h : evP e (.sdat ox) = some v) : Yds P ρ G w a ⟨dst, .call ⟨.builtin .unsafeSliceData, #[x], ats⟩, type, pos, aft, g⟩ v := by
  simp only [evP] at h
  generalize ox.ev e = y at h hx
  generalize hr : a.eval x = rv at hx
  have key : ∀ r, (Builtin.unsafeSliceData_ ats type #[a.eval x]).run P w = .ok r w → VR ρ G w v r → Yds P ρ G w a ⟨dst, .call ⟨.builtin .unsafeSliceData, #[x], ats⟩, type, pos, aft, g⟩ v := by
    intro r hr' hv
    refine ⟨r, call_run ?_, hv⟩
    simp only [builtin, List.map_toArray, List.map_cons, List.map_nil]
    rw [Sem.run_bind, hr']; rfl
  split at h
  · injection h with h; subst h
    cases hx
    exact key (.pointer none) (by rw [hr]; exact Go.Lib.run_unsafeSliceData_nil w ats type _ _) .nilptr
  · rename_i z tok st xc y ys
    injection h with h; subst h
    cases hx with
    | vsl _ _ _ rb rcap o _ _ vs m hm hz ht h0 hf hl hvs h1 hc hcap hxc htot ho =>
      have hpos : 0 < rcap := by simp at hcap; omega
      have hvl := hvs.length
      rw [flat_length hl] at hvl
      refine key (.pointer (some ⟨rb, o, none⟩)) (by rw [hr]; exact Go.Lib.run_unsafeSliceData_row w ats type _ _ _ (by omega)) ?_
      rw [ho hpos]
      subst hz
      refine .sdp tok st rb _ vs m hm ht h0 hvs h1 hc ?_
      rw [hvl, ← Nat.add_mul]
      exact Nat.mul_le_mul_right _ hf
  · cases h
end
end Den

set_option autoImplicit false
set_option linter.unusedVariables false
set_option linter.unusedSimpArgs false
namespace Den
open Go Go.RowKit
section
variable {ρ : Vl} {G : Gh} {w : World} {P : Program} {U : TypeId} {e : Env} {a : Act}
theorem cOpds_one {l : List Operand} {o : Opd} (h : cOpds l = some [o]) : ∃ x, l = [x] ∧ cOpd x = some o := by
  cases l with
  | nil => simp [cOpds] at h
  | cons x l =>
    simp only [cOpds] at h
    obtain ⟨y, t, h1, h2, h3⟩ := consO_some h
    simp only [List.cons.injEq] at h3
    obtain ⟨rfl, rfl⟩ := h3
    cases l with
    | nil => exact ⟨x, rfl, h1⟩
    | cons z l =>
      simp only [cOpds] at h2
      obtain ⟨_, _, _, _, h3⟩ := consO_some h2
      cases h3
theorem evP_ok {heap : Bool} {o : Oper} {p : POp} (hc : comp P U heap o = some (.p p)) (hr : Rd ρ G w e a o) {v : AV} (h : evP e p = some v) : Yds P ρ G w a o v := by
  obtain ⟨dst, op, type, pos, aft, g⟩ := o
  have hr' : ∀ x ∈ op.operands, ∀ ox, cOpd x = some ox → VR ρ G w (ox.ev e) (a.eval x) := hr
  cases op <;> simp only [comp, Option.bind_eq_bind, Option.bind_eq_some_iff, Option.pure_def, Option.some.injEq, reduceCtorEq, and_false, exists_false, K.p.injEq] at hc <;> simp only [Op.operands] at hr'
  case move x =>
    obtain ⟨ox, hx, rfl⟩ := hc
    simp only [evP] at h; injection h with h; subst h
    exact ⟨a.eval x, rfl, hr' x (by simp) ox hx⟩
  case assign x =>
    obtain ⟨ox, hx, rfl⟩ := hc
    simp only [evP] at h; injection h with h; subst h
    exact ⟨a.eval x, rfl, hr' x (by simp) ox hx⟩
  case pick c x y =>
    obtain ⟨oc, hc, ox, hx, oy, hy, rfl⟩ := hc
    exact p_pick (hr' c (by simp) _ hc) (hr' x (by simp) _ hx) (hr' y (by simp) _ hy) h
  case build t parts =>
    obtain ⟨z, hz, ps, hp, hc⟩ := hc
    split at hc
    · rename_i hb
      simp only [Option.some.injEq, K.p.injEq] at hc; subst hc
      exact p_build hz hp hb (fun q hq => hr' q.2 (List.mem_toArray.2 (List.mem_map.2 ⟨q, hq, rfl⟩))) h
    · cases hc
  case nilCheck x =>
    obtain ⟨ox, hx, rfl⟩ := hc
    exact p_nilchk (hr' x (by simp) _ hx) h
  case unOp op t x =>
    obtain ⟨ox, hx, rfl⟩ := hc
    exact p_un (hr' x (by simp) _ hx) h
  case extract x i =>
    obtain ⟨ox, hx, rfl⟩ := hc
    exact p_ext (hr' x (by simp) _ hx) h
  case fieldAddr t x i =>
    obtain ⟨fs, hf, f, hi, n, hn, hc⟩ := hc
    have hu : P.underlying t = some (.struct fs) := by
      unfold fieldsOf at hf; split at hf
      · injection hf with hf; subst hf; assumption
      · cases hf
    split at hc
    · cases hc
    · rename_i hne
      simp only [Option.bind_eq_some_iff, Option.some.injEq, K.p.injEq] at hc
      obtain ⟨ox, hx, rfl⟩ := hc
      cases n with
      | zero => exact absurd rfl hne
      | succ n => exact p_fld (hr' x (by simp) _ hx) hu hi hn h
  case field t x i =>
    obtain ⟨fs, hf, f, hi, ag, ha, n, hn, ox, hx, rfl⟩ := hc
    have hu : P.underlying t = some (.struct fs) := by
      unfold fieldsOf at hf; split at hf
      · injection hf with hf; subst hf; assumption
      · cases hf
    exact p_fldv (hr' x (by simp) _ hx) hu hi ha hn h
  case indexAddr t x i =>
    split at hc
    · rename_i el hu
      simp only [Option.bind_eq_some_iff, Option.some.injEq, K.p.injEq] at hc
      obtain ⟨z, hz, ox, hx, oi, hi, rfl⟩ := hc
      exact p_idx (hr' x (by simp) _ hx) (hr' i (by simp) _ hi) hu hz h
    · rename_i n el hu
      simp only [Option.bind_eq_some_iff, Option.some.injEq, K.p.injEq] at hc
      obtain ⟨z, hz, ox, hx, oi, hi, rfl⟩ := hc
      exact p_idxa (hr' x (by simp) _ hx) (hr' i (by simp) _ hi) hu hz h
    · cases hc
  case index t x i =>
    split at hc
    · rename_i hu
      simp only [Option.bind_eq_some_iff, Option.some.injEq, K.p.injEq] at hc
      obtain ⟨ox, hx, oi, hi, rfl⟩ := hc
      exact p_idxs (hr' x (by simp) _ hx) (hr' i (by simp) _ hi) hu h
    · rename_i n el hu
      simp only [Option.bind_eq_some_iff, Option.some.injEq, K.p.injEq] at hc
      obtain ⟨ag, ha, z, hz, ox, hx, oi, hi, rfl⟩ := hc
      exact p_idxv (hr' x (by simp) _ hx) (hr' i (by simp) _ hi) hu ha hz h
    · cases hc
  case convert s t x =>
    split at hc <;> try (simp only [Option.bind_eq_some_iff, Option.some.injEq, reduceCtorEq, and_false, exists_false, K.p.injEq] at hc)
    · rename_i k' k hs ht
      obtain ⟨ox, hx, rfl⟩ := hc
      exact p_cvti hs ht (hr' x (by simp) _ hx) h
    · rename_i hs ht
      obtain ⟨ox, hx, rfl⟩ := hc
      exact p_cvtss hs ht (hr' x (by simp) _ hx) h
    · split at hc <;> (first | (cases hc; done) | simp only [Option.bind_eq_bind, Option.bind_eq_some_iff, Option.pure_def, Option.some.injEq, reduceCtorEq, and_false, exists_false] at hc | (exfalso; revert hc; simp [Option.bind_eq_some_iff]; done))
    · split at hc
      · split at hc <;> (first | (cases hc; done) | simp only [Option.bind_eq_bind, Option.bind_eq_some_iff, Option.pure_def, Option.some.injEq, reduceCtorEq, and_false, exists_false] at hc | (exfalso; revert hc; simp [Option.bind_eq_some_iff]; done))
      · (simp only [Option.bind_eq_bind, Option.bind_eq_some_iff, Option.pure_def, Option.some.injEq, reduceCtorEq, and_false, exists_false] at hc)
  case makeFunc fn fi ca =>
    split at hc
    · simp only [Option.bind_eq_some_iff, Option.some.injEq, K.p.injEq] at hc
      obtain ⟨ofi, hfi, oca, hca, rfl⟩ := hc
      exact p_mkf (cOpds_ok hfi fun x hx => hr' x (by simp; exact .inl (by simpa using hx))) (cOpds_ok hca fun x hx => hr' x (by simp; exact .inr (by simpa using hx))) h
    · cases hc
  case slice t x lo hi mx =>
    split at hc
    · cases hc
    rename_i hsome
    simp only [Option.bind_eq_some_iff, Option.some.injEq, K.p.injEq] at hc
    obtain ⟨z, hz, ox, hx, ol, hlo, oh, hhi, om, hmx, rfl⟩ := hc
    have hmem : ∀ y, (lo = some y ∨ hi = some y ∨ mx = some y) → ∀ ox, cOpd y = some ox → VR ρ G w (ox.ev e) (a.eval y) := by
      intro y hy
      refine hr' y ?_
      rcases hy with rfl | rfl | rfl <;> simp
    refine p_slc (hr' x (by simp) _ hx) (fun n hn => cOpdO_ok hlo (fun y hy => hmem y (.inl hy)) hn) (fun n hn => cOpdO_ok hhi (fun y hy => hmem y (.inr (.inl hy))) hn) (fun n hn => cOpdO_ok hmx (fun y hy => hmem y (.inr (.inr hy))) hn) ?_ ?_ h
    · cases mx with
      | none => simp [cOpdO] at hmx; exact .inl hmx.symm
      | some m =>
        cases hi with
        | none => simp at hsome
        | some hi' =>
          right
          simp only [cOpdO, Option.map_eq_some_iff] at hhi
          obtain ⟨_, _, rfl⟩ := hhi
          simp
    · unfold slcZ at hz
      split at hz
      · rename_i el hu
        split at hz
        · rename_i z' hz'
          injection hz with hz; subst hz
          exact .inr ⟨el, hu, hz', by omega⟩
        · cases hz
      · rename_i hu
        injection hz with hz; subst hz
        exact .inl ⟨rfl, hu⟩
      · cases hz
  case lookup t m k ok =>
    split at hc <;> (first | (cases hc; done) | simp only [Option.bind_eq_bind, Option.bind_eq_some_iff, Option.pure_def, Option.some.injEq, reduceCtorEq, and_false, exists_false] at hc | (exfalso; revert hc; simp [Option.bind_eq_some_iff]; done))
  case mapUpdate t m k x =>
    split at hc <;> (first | (cases hc; done) | simp only [Option.bind_eq_bind, Option.bind_eq_some_iff, Option.pure_def, Option.some.injEq, reduceCtorEq, and_false, exists_false] at hc | (exfalso; revert hc; simp [Option.bind_eq_some_iff]; done))
  case mapEntry t m k =>
    split at hc <;> (first | (cases hc; done) | simp only [Option.bind_eq_bind, Option.bind_eq_some_iff, Option.pure_def, Option.some.injEq, reduceCtorEq, and_false, exists_false] at hc | (exfalso; revert hc; simp [Option.bind_eq_some_iff]; done))
  case makeMap t r =>
    cases r <;> (first | (cases hc; done) | simp only [Option.bind_eq_bind, Option.bind_eq_some_iff, Option.pure_def, Option.some.injEq, reduceCtorEq, and_false, exists_false] at hc | (exfalso; revert hc; simp [Option.bind_eq_some_iff]; done))
  case range t x =>
    split at hc
    · simp only [Option.bind_eq_some_iff, Option.some.injEq, reduceCtorEq, and_false, exists_false] at hc
    · cases hc
  case buildSlice t n parts =>
    obtain ⟨el, he, z, hz, hc⟩ := hc
    split at hc
    · cases hc
    · simp only [Option.bind_eq_some_iff, Option.some.injEq, reduceCtorEq, and_false, exists_false] at hc
  case next it b =>
    cases b <;> (first | (cases hc; done) | simp only [Option.bind_eq_bind, Option.bind_eq_some_iff, Option.pure_def, Option.some.injEq, reduceCtorEq, and_false, exists_false] at hc | (exfalso; revert hc; simp [Option.bind_eq_some_iff]; done))
  case binOp op t x y yt =>
    obtain ⟨ox, hx, oy, hy, hc⟩ := hc
    have vx := hr' x (by simp) _ hx
    have vy := hr' y (by simp) _ hy
    have hneg : ∀ gg, (match (generalizing := false) op with | .eql => some false | .neq => some true | _ => none) = some gg → op = if gg then .neq else .eql := by
      intro gg hg
      cases op <;> simp at hg <;> subst hg <;> rfl
    split at hc
    · simp only [Option.some.injEq, K.p.injEq] at hc; subst hc
      exact p_bin vx vy h
    · simp only [Option.some.injEq, K.p.injEq] at hc; subst hc
      exact p_bin vx vy h
    · rename_i gg hu hg
      simp only [Option.some.injEq, K.p.injEq] at hc; subst hc
      exact p_eqx (c := .b) vx vy hu (hneg _ hg) h
    · rename_i el gg hu hg
      simp only [Option.some.injEq, K.p.injEq] at hc; subst hc
      exact p_eqx (c := .p) vx vy ⟨el, hu⟩ (hneg _ hg) h
    · rename_i el gg hu hg
      simp only [Option.some.injEq, K.p.injEq] at hc; subst hc
      exact p_eqx (c := .s) vx vy ⟨el, hu⟩ (hneg _ hg) h
    · rename_i kk el gg hu hg
      simp only [Option.some.injEq, K.p.injEq] at hc; subst hc
      exact p_eqx (c := .m) vx vy ⟨kk, el, hu⟩ (hneg _ hg) h
    · rename_i ka el kc gg hu hg
      simp only [Option.some.injEq, K.p.injEq] at hc; subst hc
      exact p_eqx (c := .f) vx vy ⟨ka, el, kc, hu⟩ (hneg _ hg) h
    · rename_i fs gg hu hg
      split at hc
      · cases hc
      · rename_i hgd
        simp only [Option.bind_eq_some_iff, Option.some.injEq, K.p.injEq] at hc
        obtain ⟨ks, hk, rfl⟩ := hc
        exact p_eqa vx vy hu hk (by simpa using hgd) (hneg _ hg) h
    · cases hc
  case call c =>
    obtain ⟨callee, args, ats⟩ := c
    cases callee with
    | value f => (simp only [Option.bind_eq_bind, Option.bind_eq_some_iff, Option.pure_def, Option.some.injEq, reduceCtorEq, and_false, exists_false] at hc)
    | invoke r m => cases hc
    | builtin b =>
      simp only [Option.bind_eq_some_iff] at hc
      obtain ⟨as, has, hc⟩ := hc
      have hv := cOpds_ok (ρ := ρ) (G := G) (w := w) (e := e) (a := a) has fun x hx => hr' x (by simp [Call.operands]; simpa using hx)
      have one : ∀ {ox}, as = [ox] → ∃ x, args = #[x] ∧ VR ρ G w (ox.ev e) (a.eval x) := by
        rintro ox rfl
        obtain ⟨x, hx, h1⟩ := cOpds_one has
        have hargs : args = #[x] := Array.ext' (by simpa using hx)
        subst hargs
        exact ⟨x, rfl, hr' x (by simp [Call.operands]) _ h1⟩
      split at hc
      · rename_i x y t tx hts
        simp only [Option.bind_eq_some_iff] at hc
        obtain ⟨_, _, _, _, _, _, _, _, hc⟩ := hc
        split at hc <;> cases hc
      · rename_i ox t ts hts
        have ht : ats[0]? = some t := by
          have := congrArg (fun l => l[0]?) hts
          simpa using this
        obtain ⟨x, rfl, hx⟩ := one rfl
        split at hc
        · rename_i n el hu
          simp only [Option.some.injEq, K.p.injEq] at hc; subst hc
          exact p_lenA ht (.inl hu) h
        · rename_i pt hu
          split at hc
          · rename_i n el hu2
            simp only [Option.some.injEq, K.p.injEq] at hc; subst hc
            exact p_lenA ht (.inr ⟨pt, hu, hu2⟩) h
          · cases hc
        · cases hc
        · rename_i el hu
          simp only [Option.some.injEq, K.p.injEq] at hc; subst hc
          exact p_lenS hx ht hu h
        · rename_i hu
          simp only [Option.some.injEq, K.p.injEq] at hc; subst hc
          exact p_lenT hx ht hu h
        · cases hc
      · simp only [Option.some.injEq, K.p.injEq] at hc; subst hc
        exact p_minI hv h
      · simp only [Option.some.injEq, K.p.injEq] at hc; subst hc
        exact p_maxI hv h
      · split at hc
        · simp only [Option.bind_eq_some_iff, Option.some.injEq, reduceCtorEq, and_false, exists_false] at hc
        · cases hc
      · simp only [Option.bind_eq_some_iff, Option.some.injEq, reduceCtorEq, and_false, exists_false] at hc
      · obtain ⟨x, rfl, hx⟩ := one rfl
        simp only [Option.some.injEq, K.p.injEq] at hc; subst hc
        exact p_sdat hx h
      · split at hc
        · split at hc <;> cases hc
        · cases hc
      · cases hc
end
end Den
