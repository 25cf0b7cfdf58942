/- The symbolic machine: data, states, and what the model's code does on them. -/
import Derived.WalkKit
import Derived.Deep.MidRow
import Derived.Deep.AppendSrc
import Derived.Deep.Upon
namespace Vm
open Go

inductive Ty where
  | int (k : IntKind)
  | bool
  | str
  | unit
  | pair (a b : Ty)
  | sl (e : TypeId) (t : Ty)
  deriving DecidableEq

@[reducible] def Ty.den : Ty → Type
  | .int _ => Int
  | .bool => Bool
  | .str => ByteArray
  | .unit => Unit
  | .pair a b => a.den × b.den
  | .sl _ t => List t.den

def Ty.size : Ty → Nat
  | .int _ => 1
  | .bool => 1
  | .str => 1
  | .unit => 0
  | .pair a b => a.size + b.size
  | .sl _ _ => 1

def Ty.dflt : (t : Ty) → t.den
  | .int _ => (0 : Int)
  | .bool => false
  | .str => ByteArray.empty
  | .unit => ()
  | .pair a b => (a.dflt, b.dflt)
  | .sl _ _ => []

/-- A value as the machine knows it. -/
inductive AV where
  | undef
  | nov
  | bk (b : Bool)
  | bool (b : Bool)
  | int (k : IntKind) (n : Int)
  | str (s : ByteArray)
  | sl (e : TypeId) (t : Ty) (clip : Bool) (xs : List t.den)
  | nils
  | own (r : Nat)
  | sub (r : Nat) (lo hi : Int)
  | ptr (r off : Nat)
  | eptr (r : Nat) (i : Int) (off : Nat)
  | rptr (t : Ty) (x : t.den)
  | nilp
  | fn (f : Fn) (first caps : List AV)
  | agg (cs : List AV)
  | tup (vs : List AV)

/-- A block of the machine's own. -/
inductive Ob where
  | cells (cs : List AV)
  | arr (e : TypeId) (t : Ty) (xs : List t.den)
  | dead

abbrev HP := List Ob

/-- What a run comes to, as a tree of tests and of calls. -/
inductive T (α : Type) : Type 1 where
  | ret (a : α)
  | fail
  | ite (c : Bool) (x y : T α)
  | call {β : Type} (o : Option β) (k : β → T α)
  | alt {β γ : Type} (o : β ⊕ γ) (k : β → T α) (l : γ → T α)

namespace T
variable {α β γ : Type}
def bind : T α → (α → T β) → T β
  | .ret a, f => f a
  | .fail, _ => .fail
  | .ite c x y, f => .ite c (bind x f) (bind y f)
  | .call o k, f => .call o (fun b => bind (k b) f)
  | .alt o k l, f => .alt o (fun b => bind (k b) f) (fun c => bind (l c) f)
def run : T α → Option α
  | .ret a => some a
  | .fail => none
  | .ite c x y => bif c then run x else run y
  | .call o k => o.bind fun b => run (k b)
  | .alt o k l => match o with
    | .inl b => run (k b)
    | .inr c => run (l c)
/-- A test that is seen at once where its outcome is known. -/
def tst (known : Bool) (c : Bool) (x y : T α) : T α :=
  match known with
  | true => (match c with | true => x | false => y)
  | false => .ite c x y
end T

structure FI where
  off : Nat
  size : Nat
  agg : Bool

inductive KD where
  | int (k : IntKind)
  | str
  | sl
  | arr
  | st
  | oth

structure TI where
  kd : KD
  agg : Bool
  size : Nat
  bytes : Nat
  ty : Ty
  zero : List AV
  fields : List FI
  elem : TypeId
  alen : Nat

/-- Parameters: data, or a pointer that is read. -/
inductive PT where
  | d (t : Ty)
  | rp (t : Ty)
inductive RT where
  | d (t : Ty)
  | own (e : TypeId) (t : Ty)
@[reducible] def RT.den : RT → Type
  | .d t => t.den
  | .own _ t => List t.den
@[reducible] def denP : List PT → Type
  | [] => Unit
  | .d t :: ps => t.den × denP ps
  | .rp t :: ps => t.den × denP ps
@[reducible] def denR : List RT → Type
  | [] => Unit
  | [r] => r.den
  | r :: r' :: rs => r.den × denR (r' :: rs)
/-- What goes in: the cells behind the receiver, if it is a pointer whose cells are turned; and the other parameters. -/
@[reducible] def denI (mu : Option Ty) (ps : List PT) : Type :=
  match mu with
  | none => denP ps
  | some t => t.den × denP ps
@[reducible] def outR (mu : Option Ty) (rs : List RT) : List RT :=
  match mu with
  | none => rs
  | some t => .d t :: rs

/-- A function as it is told to its callers: the receiver's cells come out first. -/
structure Entry where
  mu : Option Ty
  ps : List PT
  rs : List RT
  f : denI mu ps → Option (denR (outR mu rs))

structure Env where
  ti : List (Nat × TI)
  eqs : List (Nat × List KD)
  boolT : Nat
  ent : List (Nat × Entry)
  inl : FuncId → List AV → HP → T (AV × HP)

def look {α : Type} (n : Nat) : List (Nat × α) → Option α
  | [] => none
  | (m, a) :: r => match Nat.beq n m with | true => some a | false => look n r

def nth {α : Type} : List α → Nat → Option α
  | [], _ => none
  | a :: _, 0 => some a
  | _ :: r, n + 1 => nth r n

/-! ### data and cells -/
def arrOf (t : Ty) : Ob → Option (List t.den)
  | .arr _ t' xs => if h : t' = t then some (h ▸ xs) else none
  | _ => none

/-- How a block of the machine's own may be read as data: not at all; lent; given away for good. -/
inductive Mo where
  | strict
  | lend
  | give

def setNth {α : Type} : List α → Nat → α → List α
  | [], _, _ => []
  | _ :: r, 0, b => b :: r
  | a :: r, n + 1, b => a :: setNth r n b

def gone (m : Mo) (hp : HP) (r : Nat) : HP :=
  match m with
  | .give => setNth hp r .dead
  | _ => hp

def arrAt (m : Mo) (hp : HP) (t : Ty) (r : Nat) : Option (List t.den) :=
  match m with
  | .strict => none
  | _ => match nth hp r with
    | some o => arrOf t o
    | none => none

/-- A slice's elements as data. -/
def slOf (m : Mo) (hp : HP) (t : Ty) : AV → Option (List t.den × HP)
  | .sl _ t' _ xs => if h : t' = t then some (h ▸ xs, hp) else none
  | .nils => some ([], hp)
  | .own r => match arrAt m hp t r with
    | some xs => some (xs, gone m hp r)
    | none => none
  | .sub r lo hi => match arrAt m hp t r with
    | some xs => some ((xs.take hi.toNat).drop lo.toNat, gone m hp r)
    | none => none
  | _ => none

/-- Cells to data, from the first cell on; and the cells behind. -/
def pack (m : Mo) : (t : Ty) → HP → List AV → Option (t.den × List AV × HP)
  | .int k, hp, .int k' n :: r => if k' = k then some (n, r, hp) else none
  | .bool, hp, .bk b :: r => some (b, r, hp)
  | .bool, hp, .bool b :: r => some (b, r, hp)
  | .str, hp, .str s :: r => some (s, r, hp)
  | .unit, hp, r => some ((), r, hp)
  | .pair a b, hp, l => match pack m a hp l with
    | some (x, r, hp1) => match pack m b hp1 r with
      | some (y, r', hp2) => some ((x, y), r', hp2)
      | none => none
    | none => none
  | .sl _ t, hp, v :: r => match slOf m hp t v with
    | some (xs, hp') => some (xs, r, hp')
    | none => none
  | _, _, _ => none

def packAll (m : Mo) (hp : HP) (t : Ty) (cs : List AV) : Option (t.den × HP) :=
  match pack m t hp cs with
  | some (x, [], hp') => some (x, hp')
  | _ => none

/-- Data to cells. -/
def cellsOf : (t : Ty) → t.den → List AV
  | .int k, n => [.int k n]
  | .bool, b => [.bool b]
  | .str, s => [.str s]
  | .unit, _ => []
  | .pair a b, x => cellsOf a x.1 ++ cellsOf b x.2
  | .sl e t, xs => [.sl e t false xs]

/-- A value's cells. -/
def avCells : AV → Option (List AV)
  | .undef => none
  | .nov => none
  | .tup _ => none
  | .agg cs => some cs
  | v => some [v]

def ofCells (agg : Bool) (cs : List AV) : Option AV :=
  match agg, cs with
  | true, cs => some (.agg cs)
  | false, [v] => some v
  | false, _ => none

def sliceL (l : List AV) (off n : Nat) : List AV := (l.drop off).take n
def putL (l : List AV) (off : Nat) (cs : List AV) : List AV := l.take off ++ cs ++ l.drop (off + cs.length)

def mkAV : (t : Ty) → t.den → AV
  | .int k, n => .int k n
  | .bool, b => .bool b
  | .str, s => .str s
  | .unit, _ => .agg []
  | .pair a b, x => .agg (cellsOf a x.1 ++ cellsOf b x.2)
  | .sl e t, xs => .sl e t false xs

def ofV1 : Value → AV
  | .bool b => .bk b
  | .int k n => .int k n
  | .string s => .str s
  | .slice none 0 0 => .nils
  | .pointer none => .nilp
  | _ => .undef
def ofV : Value → AV
  | .agg cs => match cs.toList.all (fun v => v.oneCell') with
    | true => .agg (cs.toList.map ofV1)
    | false => .undef
  | v => ofV1 v

structure St where
  fr : List AV
  hp : HP

def St.ev (σ : St) : Operand → AV
  | .tmp t => (nth σ.fr t).getD .undef
  | .const v => ofV v
  | .global _ => .undef
  | .func f => .fn (.func f) [] []

def isK : Operand → Bool
  | .const _ => true
  | _ => false

/-! ### operations on plain values -/
def boolOf : AV → Option Bool
  | .bk b => some b
  | .bool b => some b
  | _ => none

def eqCells : List AV → List AV → Option Bool
  | [], [] => some true
  | .int _ a :: x, .int _ b :: y => (eqCells x y).map fun r => (a == b) && r
  | .str a :: x, .str b :: y => (eqCells x y).map fun r => (a == b) && r
  | a :: x, b :: y => match boolOf a, boolOf b with
    | some p, some q => (eqCells x y).map fun r => (p == q) && r
    | _, _ => none
  | _, _ => none

/-- Do the cells fit the kinds? -/
def fitK : List KD → List AV → Bool
  | [], [] => true
  | .int k :: ks, .int k' _ :: r => decide (k = k') && fitK ks r
  | .str :: ks, .str _ :: r => fitK ks r
  | .oth :: ks, .bk _ :: r => fitK ks r
  | .oth :: ks, .bool _ :: r => fitK ks r
  | _, _ => false
def eqFit (n : Option (List KD)) (a b : List AV) : Bool :=
  match n with
  | some ks => fitK ks a && fitK ks b
  | none => false

def bits2 (op : BinOp) (k : IntKind) (x y : Int) : Int :=
  match op with
  | .and => k.wrap ((BitVec.ofInt k.bits x &&& BitVec.ofInt k.bits y).toNat : Int)
  | .or => k.wrap ((BitVec.ofInt k.bits x ||| BitVec.ofInt k.bits y).toNat : Int)
  | .xor => k.wrap ((BitVec.ofInt k.bits x ^^^ BitVec.ofInt k.bits y).toNat : Int)
  | _ => k.wrap ((BitVec.ofInt k.bits x &&& ~~~ BitVec.ofInt k.bits y).toNat : Int)

def shl (k : IntKind) (x y : Int) : Int := k.wrap (x * 2 ^ (min y.toNat k.bits))
def shr (k : IntKind) (x y : Int) : Int := x.fdiv (2 ^ (min y.toNat k.bits))

def catLimit : Nat := 1099511627776

def evBin (op : BinOp) (yk bT : Bool) (x y : AV) : T AV :=
  match op, x, y with
  | .shl, .int k a, .int _ b => .tst yk (decide (b < 0)) .fail (.ret (.int k (shl k a b)))
  | .shr, .int k a, .int _ b => .tst yk (decide (b < 0)) .fail (.ret (.int k (shr k a b)))
  | op, .int k a, .int k' b => if k = k' then
      match op with
      | .add => .ret (.int k (k.wrap (a + b)))
      | .sub => .ret (.int k (k.wrap (a - b)))
      | .mul => .ret (.int k (k.wrap (a * b)))
      | .quo => .tst yk (decide (b = 0)) .fail (.ret (.int k (k.wrap (a.tdiv b))))
      | .rem => .tst yk (decide (b = 0)) .fail (.ret (.int k (a.tmod b)))
      | .and => .ret (.int k (bits2 .and k a b))
      | .or => .ret (.int k (bits2 .or k a b))
      | .xor => .ret (.int k (bits2 .xor k a b))
      | .andNot => .ret (.int k (bits2 .andNot k a b))
      | .eql => .ret (.bool (a == b))
      | .neq => .ret (.bool (a != b))
      | .lss => .ret (.bool (decide (a < b)))
      | .leq => .ret (.bool (decide (a ≤ b)))
      | .gtr => .ret (.bool (decide (a > b)))
      | .geq => .ret (.bool (decide (a ≥ b)))
      | _ => .fail
    else .fail
  | .add, .str a, .str b => .ite (decide (a.size + b.size ≤ catLimit)) (.ret (.str (a ++ b))) .fail
  | .eql, .str a, .str b => .ret (.bool (a == b))
  | .neq, .str a, .str b => .ret (.bool (!(a == b)))
  | .eql, a, b => match bT, boolOf a, boolOf b with | true, some p, some q => .ret (.bool (p == q)) | _, _, _ => .fail
  | .neq, a, b => match bT, boolOf a, boolOf b with | true, some p, some q => .ret (.bool (!(p == q))) | _, _, _ => .fail
  | _, _, _ => .fail

def evUn (op : UnOp) (x : AV) : T AV :=
  match op, x with
  | .not, .bk b => .ret (.bk (!b))
  | .not, .bool b => .ret (.bool (!b))
  | .neg, .int k n => .ret (.int k (k.wrap (0 - n)))
  | .xor, .int k n => .ret (.int k (bits2 .xor k (if k.signed then -1 else k.max) n))
  | _, _ => .fail

def bt (s : ByteArray) (i : Int) : Int := if h : i.toNat < s.size then ((s[i.toNat]'h).toNat : Int) else 0

def fillL (place : Nat → Option (Nat × Nat)) (cells : List AV) : List (Nat × AV) → Option (List AV)
  | [] => some cells
  | (i, v) :: rest => match place i with
    | none => none
    | some (off, size) => match avCells v with
      | none => none
      | some cs => match Nat.beq cs.length size && Nat.ble (off + size) cells.length with
        | true => fillL place (putL cells off cs) rest
        | false => none

/-- The j-th of n fields; a struct of one field is a pair with the unit. -/
def projG : Nat → Nat → (t : Ty) → t.den → Option (Σ s : Ty, s.den)
  | 1, 0, t, x => some ⟨t, x⟩
  | _ + 2, 0, .pair a _, x => some ⟨a, x.1⟩
  | n + 2, j + 1, .pair _ b, x => projG (n + 1) j b x.2
  | _, _, _, _ => none
def projF : Nat → Nat → (t : Ty) → t.den → Option (Σ s : Ty, s.den)
  | 1, 0, .pair a .unit, x => some ⟨a, x.1⟩
  | n + 2, j, t, x => projG (n + 2) j t x
  | _, _, _, _ => none

/-- Where the j-th of n fields begins. -/
def offG : Nat → Nat → Ty → Nat
  | n + 2, j + 1, .pair a b => a.size + offG (n + 1) j b
  | _, _, _ => 0
def offF : Nat → Nat → Ty → Nat
  | n + 2, j, t => offG (n + 2) j t
  | _, _, _ => 0

def inB (known : Bool) (i n : Int) (x : T (AV × HP)) : T (AV × HP) := .tst known (decide (0 ≤ i)) (.ite (decide (i < n)) x .fail) .fail

def roomLimit : Nat := 140737488355328

/-- Where a slice's bounds are told. -/
def loOf : Option AV → Option Int
  | none => some 0
  | some (.int _ n) => some n
  | _ => none
def hiOf (n : Int) : Option AV → Option Int
  | none => some n
  | some (.int _ h) => some h
  | _ => none

def lenOf (hp : HP) : AV → Option Int
  | .str s => some (s.size : Int)
  | .sl _ _ _ xs => some (xs.length : Int)
  | .nils => some 0
  | .own r => match nth hp r with
    | some (.arr _ _ xs) => some (xs.length : Int)
    | _ => none
  | .sub _ lo hi => some (hi - lo)
  | _ => none

def cut (known : Bool) (lo hi n : Int) (x : T (AV × HP)) : T (AV × HP) :=
  .tst known (decide (0 ≤ lo)) (.ite (decide (lo ≤ hi)) (.ite (decide (hi ≤ n)) x .fail) .fail) .fail

/-! ### calls of functions that have an entry -/
/-- What a pointer that is read shows. -/
def ptrData (m : Mo) (hp : HP) (t : Ty) : AV → Option t.den
  | .rptr t' x => if h : t' = t then some (h ▸ x) else none
  | .ptr r off => match m, nth hp r with
    | .lend, some (.cells cs) => match packAll .lend hp t (sliceL cs off t.size) with
      | some (x, _) => some x
      | none => none
    | _, _ => none
  | _ => none

/-- Is it one value, or a row of them? -/
def Ty.row : Ty → Bool
  | .unit => true
  | .pair _ _ => true
  | _ => false
def rowB (t : Ty) : AV → Bool
  | .agg _ => t.row
  | _ => !t.row

def decP (m : Mo) : (ps : List PT) → HP → List AV → Option (denP ps × HP)
  | [], hp, [] => some ((), hp)
  | .d t :: ps, hp, v :: vs => match avCells v, rowB t v with
    | some cs, true => match packAll m hp t cs with
      | some (x, hp1) => match decP m ps hp1 vs with
        | some (r, hp2) => some ((x, r), hp2)
        | none => none
      | none => none
    | _, _ => none
  | .rp t :: ps, hp, v :: vs => match ptrData m hp t v with
    | some x => match decP m ps hp vs with
      | some (r, hp2) => some ((x, r), hp2)
      | none => none
    | none => none
  | _, _, _ => none

def noSl : Ty → Bool
  | .pair a b => noSl a && noSl b
  | .sl _ _ => false
  | _ => true
/-- No result bears a slice of data. -/
def noSlR : List RT → Bool
  | [] => true
  | .d t :: rs => noSl t && noSlR rs
  | .own _ t :: rs => noSl t && noSlR rs
def ownsR : List RT → Nat
  | [] => 0
  | .d _ :: rs => ownsR rs
  | .own _ _ :: rs => ownsR rs + 1

def hdR (r : RT) : (rs : List RT) → denR (r :: rs) → r.den
  | [], x => x
  | _ :: _, x => x.1
def tlR (r : RT) : (rs : List RT) → denR (r :: rs) → denR rs
  | [], _ => ()
  | _ :: _, x => x.2
def consR (r : RT) : (rs : List RT) → r.den → denR rs → denR (r :: rs)
  | [], x, _ => x
  | _ :: _, x, y => (x, y)

/-- The results, as values; an own row becomes a block. -/
def encRs : (rs : List RT) → denR rs → HP → List AV × HP
  | [], _, hp => ([], hp)
  | .d t :: rs, x, hp => let p := encRs rs (tlR (.d t) rs x) hp; (mkAV t (hdR (.d t) rs x) :: p.1, p.2)
  | .own e t :: rs, x, hp => let p := encRs rs (tlR (.own e t) rs x) (hp ++ [.arr e t (hdR (.own e t) rs x)]); (.own hp.length :: p.1, p.2)

def oneOrTup : List AV → AV
  | [v] => v
  | vs => .tup vs

/-- The arguments as data: rows of the machine's own are lent where no result bears a slice, else given away. -/
def argsIn (ps : List PT) (lend : Bool) (args : List AV) (hp : HP) : Option (denP ps × HP) :=
  match decP .strict ps hp args with
  | some x => some x
  | none => match lend with
    | true => decP .lend ps hp args
    | false => decP .give ps hp args

def rsOk (rs : List RT) : Bool := Nat.beq (ownsR rs) 0 || (Nat.beq (ownsR rs) 1 && noSlR rs)

def callEnt : (e : Entry) → List AV → HP → T (AV × HP)
  | ⟨none, ps, rs, f⟩, args, hp => match rsOk rs, argsIn ps (noSlR rs) args hp with
    | true, some (x, hp1) => .call (f x) fun r => let p := encRs rs r hp1; .ret (oneOrTup p.1, p.2)
    | _, _ => .fail
  | ⟨some t, ps, rs, f⟩, .ptr b off :: args, hp => match argsIn ps false args hp with
    | some (x, hp1) => match nth hp1 b with
      | some (.cells cs) => match Nat.beq (ownsR rs) 0 && (Nat.beq off 0 && Nat.beq t.size cs.length), packAll .strict hp1 t (sliceL cs off t.size) with
        | true, some (y, _) => .call (f (y, x)) fun r =>
          let p := encRs rs (tlR (.d t) rs r) (setNth hp1 b (.cells (putL cs off (cellsOf t (hdR (.d t) rs r)))))
          .ret (oneOrTup p.1, p.2)
        | _, _ => .fail
      | _ => .fail
    | none => .fail
  | _, _, _ => .fail

def callF (E : Env) (f : FuncId) (args : List AV) (hp : HP) : T (AV × HP) :=
  match look f E.ent with
  | some e => callEnt e args hp
  | none => E.inl f args hp

/-! ### the operations -/
def evSlice (E : Env) (t : TypeId) (known : Bool) (x : AV) (lo hi mx : Option AV) (hp : HP) : T (AV × HP) :=
  match look t E.ti with
  | none => .fail
  | some i => match lenOf hp x with
    | none => .fail
    | some n => match loOf lo, hiOf n hi with
      | some l, some h => match i.kd with
        | .str => match x, mx with
          | .str s, none => cut known l h n (.ret (.str (s.extract l.toNat h.toNat), hp))
          | _, _ => .fail
        | .sl => match look i.elem E.ti with
          | none => .fail
          | some ei => match mx with
            | none => match x with
              | .sl e t' _ xs => match Nat.beq t'.size ei.size with
                | true => cut known l h n (.ret (.sl e t' false ((xs.take h.toNat).drop l.toNat), hp))
                | false => .fail
              | .own r => match nth hp r with
                | some (.arr _ t' _) => match Nat.beq t'.size ei.size with
                  | true => cut known l h n (.ret (.sub r l h, hp))
                  | false => .fail
                | _ => .fail
              | .sub r lo' _ => match nth hp r with
                | some (.arr _ t' _) => match Nat.beq t'.size ei.size with
                  | true => cut known l h n (.ret (.sub r (lo' + l) (lo' + h), hp))
                  | false => .fail
                | _ => .fail
              | _ => .fail
            | some (.int _ m) => match x, hi with
              | .sl e t' _ xs, some _ => match Nat.beq t'.size ei.size with
                | true => cut known l h n (.ite (decide (m = h)) (.ret (.sl e t' true ((xs.take h.toNat).drop l.toNat), hp)) .fail)
                | false => .fail
              | .nils, some _ => cut known l h n (.ite (decide (m = h)) (.ret (.nils, hp)) .fail)
              | _, _ => .fail
            | _ => .fail
        | _ => .fail
      | _, _ => .fail

def evAppend (E : Env) (sT : TypeId) (s x : AV) (hp : HP) : T (AV × HP) :=
  match look sT E.ti with
  | none => .fail
  | some i => match look i.elem E.ti with
    | none => .fail
    | some ei => match i.kd, Nat.blt 0 ei.bytes && Nat.blt 0 ei.size, slOf .lend hp ei.ty x with
      | .sl, true, some (ys, _) => match s with
        | .nils => .ite (decide (ys.length * ei.bytes ≤ roomLimit)) (.ret (.own hp.length, hp ++ [.arr i.elem ei.ty ys])) .fail
        | .own r => match nth hp r with
          | some (.arr e t xs) => if h : t = ei.ty then
              match Nat.beq e i.elem with
              | true => .ite (decide ((xs.length + ys.length) * ei.bytes ≤ roomLimit)) (.ret (.own hp.length, setNth hp r .dead ++ [.arr i.elem ei.ty ((h ▸ xs) ++ ys)])) .fail
              | false => .fail
            else .fail
          | _ => .fail
        | .sl _ t true xs => if h : t = ei.ty then
            match ys with
            | y :: ys => .ite (decide ((xs.length + (y :: ys).length) * ei.bytes ≤ roomLimit)) (.ret (.own hp.length, hp ++ [.arr i.elem ei.ty ((h ▸ xs) ++ y :: ys)])) .fail
            | [] => .fail
          else .fail
        | _ => .fail
      | _, _, _ => .fail

def repL {α : Type} : Nat → List α → List α
  | 0, _ => []
  | n + 1, l => l ++ repL n l

def packElems (t : Ty) (size : Nat) : Nat → HP → List AV → Option (List t.den × HP)
  | 0, hp, _ => some ([], hp)
  | n + 1, hp, cs => match packAll .give hp t (cs.take size) with
    | some (x, hp1) => match packElems t size n hp1 (cs.drop size) with
      | some (xs, hp2) => some (x :: xs, hp2)
      | none => none
    | none => none

/-- Where the parts of a struct or an array lie. -/
def placeOf (E : Env) (i : TI) (j : Nat) : Option (Nat × Nat) :=
  match i.kd with
  | .st => match nth i.fields j with
    | some f => some (f.off, f.size)
    | none => none
  | .arr => match look i.elem E.ti with
    | some ei => some (j * ei.size, ei.size)
    | none => none
  | _ => none

/-- The text of some bytes. -/
def bytesOf (xs : List Int) : ByteArray := ⟨(xs.map fun n => UInt8.ofNat n.toNat).toArray⟩

def evOp (E : Env) (ρ : Operand → AV) (op : Op) (hp : HP) : T (AV × HP) :=
  match op with
  | .move x => .ret (ρ x, hp)
  | .assign x => .ret (ρ x, hp)
  | .pick c a b => match ρ c with
    | .bk true => .ret (ρ a, hp)
    | .bk false => .ret (ρ b, hp)
    | _ => .fail
  | .alloc t => match look t E.ti with
    | some i => .ret (.ptr hp.length 0, hp ++ [.cells i.zero])
    | none => .fail
  | .box t x => match look t E.ti with
    | some i => match avCells (ρ x) with
      | some cs => match Nat.beq cs.length i.size with
        | true => .ret (.ptr hp.length 0, hp ++ [.cells cs])
        | false => .fail
      | none => .fail
    | none => .fail
  | .build t parts => match look t E.ti with
    | some i =>
      match i.agg && (look i.elem E.ti).isSome, fillL (placeOf E i) i.zero (parts.toList.map fun p => (p.1, ρ p.2)) with
      | true, some cs => .ret (.agg cs, hp)
      | _, _ => .fail
    | none => .fail
  | .buildSlice t n parts => match look t E.ti with
    | some i => match look i.elem E.ti, i.kd with
      | some ei, .sl => match Nat.ble (n * ei.size) 16777216 && Nat.blt 0 ei.size, fillL (fun j => some (j * ei.size, ei.size)) (repL n ei.zero) (parts.toList.map fun p => (p.1, ρ p.2)) with
        | true, some cs => match packElems ei.ty ei.size n hp cs with
          | some (xs, hp) => .ret (.own hp.length, hp ++ [.arr i.elem ei.ty xs])
          | none => .fail
        | _, _ => .fail
      | _, _ => .fail
    | none => .fail
  | .load t a => match look t E.ti with
    | none => .fail
    | some i => match ρ a with
      | .ptr r off => match nth hp r with
        | some (.cells cs) => match Nat.ble (off + i.size) cs.length, ofCells i.agg (sliceL cs off i.size) with
          | true, some v => .ret (v, hp)
          | _, _ => .fail
        | _ => .fail
      | .rptr t' x => match Nat.beq t'.size i.size, ofCells i.agg (cellsOf t' x) with
        | true, some v => .ret (v, hp)
        | _, _ => .fail
      | .eptr r j off => match nth hp r with
        | some (.arr _ t' xs) => match Nat.ble (off + i.size) t'.size, ofCells i.agg (sliceL (cellsOf t' (xs.getD j.toNat t'.dflt)) off i.size) with
          | true, some v => .ret (v, hp)
          | _, _ => .fail
        | _ => .fail
      | _ => .fail
  | .store t a x => match look t E.ti, avCells (ρ x) with
    | some i, some cv => match Nat.beq cv.length i.size with
      | false => .fail
      | true => match ρ a with
        | .ptr r off => match nth hp r with
          | some (.cells cs) => match Nat.ble (off + i.size) cs.length with
            | true => .ret (.nov, setNth hp r (.cells (putL cs off cv)))
            | false => .fail
          | _ => .fail
        | .eptr r j off => match nth hp r with
          | some (.arr e t' xs) => match Nat.ble (off + i.size) t'.size, packAll .strict hp t' (putL (cellsOf t' (xs.getD j.toNat t'.dflt)) off cv) with
            | true, some (y, _) => .ret (.nov, setNth hp r (.arr e t' (xs.set j.toNat y)))
            | _, _ => .fail
          | _ => .fail
        | _ => .fail
    | _, _ => .fail
  | .nilCheck x => match ρ x with
    | .ptr r off => .ret (.ptr r off, hp)
    | .eptr r i off => .ret (.eptr r i off, hp)
    | .rptr t y => .ret (.rptr t y, hp)
    | .fn (.func f) a b => .ret (.fn (.func f) a b, hp)
    | _ => .fail
  | .binOp op xT x y _ => match ρ x, ρ y with
    | .agg a, .agg b => match eqFit (look xT E.eqs) a b, op, eqCells a b with
      | true, .eql, some r => .ret (.bool r, hp)
      | true, .neq, some r => .ret (.bool (!r), hp)
      | _, _, _ => .fail
    | u, v => (evBin op (isK y) (Nat.beq xT E.boolT) u v).bind fun z => .ret (z, hp)
  | .unOp op _ x => (evUn op (ρ x)).bind fun v => .ret (v, hp)
  | .convert src dst x => match look dst E.ti, look src E.ti with
    | some i, some si => match i.kd, ρ x with
      | .int k, .int _ n => .ret (.int k (k.wrap n), hp)
      | .str, .str s => .ret (.str s, hp)
      | .str, .own r => match si.kd, look si.elem E.ti, nth hp r with
        | .sl, some ei, some (.arr _ (.int .u8) xs) => match ei.kd with
          | .int .u8 => .ret (.str (bytesOf xs), hp)
          | _ => .fail
        | _, _, _ => .fail
      | _, _ => .fail
    | _, _ => .fail
  | .makeFunc f a b => .ret (.fn f (a.toList.map ρ) (b.toList.map ρ), hp)
  | .slice t x lo hi mx => evSlice E t (match lo with | none => true | some o => isK o) (ρ x) (lo.map ρ) (hi.map ρ) (mx.map ρ) hp
  | .fieldAddr t x j => match look t E.ti with
    | none => .fail
    | some i => match i.kd, nth i.fields j with
      | .st, some f => match ρ x with
        | .ptr r off => .ret (.ptr r (off + f.off), hp)
        | .eptr r k off => .ret (.eptr r k (off + f.off), hp)
        | .rptr t' y => match Nat.beq (offF i.fields.length j t') f.off, projF i.fields.length j t' y with
          | true, some ⟨s, z⟩ => .ret (.rptr s z, hp)
          | _, _ => .fail
        | _ => .fail
      | _, _ => .fail
  | .field t x j => match look t E.ti with
    | none => .fail
    | some i => match i.kd, nth i.fields j with
      | .st, some f => match ρ x with
        | .agg cs => match Nat.ble (f.off + f.size) cs.length, ofCells f.agg (sliceL cs f.off f.size) with
          | true, some v => .ret (v, hp)
          | _, _ => .fail
        | _ => .fail
      | _, _ => .fail
  | .indexAddr t x j => match ρ j, look t E.ti with
    | .int _ n, some i => match i.kd, look i.elem E.ti with
      | .sl, some ei => match ρ x with
        | .sl _ t' _ xs => match Nat.beq t'.size ei.size with
          | true => inB (isK j) n xs.length (.ret (.rptr t' (xs.getD n.toNat t'.dflt), hp))
          | false => .fail
        | .own r => match nth hp r with
          | some (.arr _ t' xs) => match Nat.beq t'.size ei.size with
            | true => inB (isK j) n xs.length (.ret (.eptr r n 0, hp))
            | false => .fail
          | _ => .fail
        | .sub r lo hi => match nth hp r with
          | some (.arr _ t' _) => match Nat.beq t'.size ei.size with
            | true => inB (isK j) n (hi - lo) (.ret (.eptr r (lo + n) 0, hp))
            | false => .fail
          | _ => .fail
        | _ => .fail
      | .arr, some ei => match ρ x with
        | .ptr r off => match isK j, n with
          | true, .ofNat m => match Nat.ble (m + 1) i.alen with
            | true => .ret (.ptr r (off + m * ei.size), hp)
            | false => .fail
          | _, _ => .fail
        | .eptr r k off => match isK j, n with
          | true, .ofNat m => match Nat.ble (m + 1) i.alen with
            | true => .ret (.eptr r k (off + m * ei.size), hp)
            | false => .fail
          | _, _ => .fail
        | .rptr t' y => match isK j, n with
          | true, .ofNat m => match Nat.ble (m + 1) i.alen && Nat.beq (offF i.alen m t') (m * ei.size), projF i.alen m t' y with
            | true, some ⟨s, z⟩ => .ret (.rptr s z, hp)
            | _, _ => .fail
          | _, _ => .fail
        | _ => .fail
      | _, _ => .fail
    | _, _ => .fail
  | .index t x j => match ρ j, look t E.ti with
    | .int _ n, some i => match i.kd, ρ x with
      | .str, .str s => inB (isK j) n s.size (.ret (.int .u8 (bt s n), hp))
      | .arr, .agg cs => match look i.elem E.ti, isK j, n with
        | some ei, true, .ofNat m => match Nat.ble (m + 1) i.alen && Nat.ble (m * ei.size + ei.size) cs.length, ofCells ei.agg (sliceL cs (m * ei.size) ei.size) with
          | true, some v => .ret (v, hp)
          | _, _ => .fail
        | _, _, _ => .fail
      | _, _ => .fail
    | _, _ => .fail
  | .extract x j => match ρ x with
    | .tup vs => match nth vs j with
      | some v => .ret (v, hp)
      | none => .fail
    | _ => .fail
  | .makeSlice t n c => match look t E.ti, ρ n, ρ c with
    | some i, .int _ n, .int _ c => match look i.elem E.ti, i.kd with
      | some ei, .sl => match Nat.blt 0 ei.size && Nat.blt 0 ei.bytes, packAll .strict hp ei.ty ei.zero with
        | true, some (z, _) => .ite (decide (0 ≤ n)) (.ite (decide (n ≤ c)) (.ite (decide (c.toNat * ei.bytes ≤ roomLimit)) (.ret (.own hp.length, hp ++ [.arr i.elem ei.ty (List.replicate n.toNat z)])) .fail) .fail) .fail
        | _, _ => .fail
      | _, _ => .fail
    | _, _, _ => .fail
  | .call { callee := .builtin .len, args, argTypes, .. } => match args.toList, argTypes.toList with
    | [x], [t] => match look t E.ti with
      | some i => match i.kd, ρ x with
        | .str, .str s => .ret (.int .i64 (s.size : Int), hp)
        | .sl, .str _ => .fail
        | .sl, v => match lenOf hp v with
          | some n => .ret (.int .i64 n, hp)
          | none => .fail
        | _, _ => .fail
      | none => .fail
    | _, _ => .fail
  | .call { callee := .builtin .append, args, argTypes, .. } => match args.toList, argTypes.toList with
    | [s, x], [sT, xT] => match Nat.beq sT xT with
      | true => evAppend E sT (ρ s) (ρ x) hp
      | false => .fail
    | _, _ => .fail
  | .call { callee := .builtin .min, args, .. } => match args.toList.map ρ with
    | [.int k a, .int k' b] => if k = k' then .ret (.int k (if b < a then b else a), hp) else .fail
    | _ => .fail
  | .call { callee := .builtin .max, args, .. } => match args.toList.map ρ with
    | [.int k a, .int k' b] => if k = k' then .ret (.int k (if b > a then b else a), hp) else .fail
    | _ => .fail
  | .call { callee := .value g, args, .. } => match ρ g with
    | .fn (.func f) a b => callF E f (a ++ args.toList.map ρ ++ b) hp
    | _ => .fail
  | _ => .fail

/-! ### regions and code -/
def evGuard (ops : List Oper) (o : Oper) (σ : St) (yes no : St → T (List AV × HP)) : T (List AV × HP) :=
  match o.guard with
  | none => yes σ
  | some (j, want) => match (nth ops j).bind (·.dst) with
    | none => no σ
    | some t => match (nth σ.fr t).getD .undef with
      | .nov => no σ
      | .bk b => match b, want with
        | true, true => yes σ
        | false, false => yes σ
        | _, _ => no σ
      | .bool b => .ite b
          (match want with | true => yes ⟨setNth σ.fr t (.bk true), σ.hp⟩ | false => no ⟨setNth σ.fr t (.bk true), σ.hp⟩)
          (match want with | false => yes ⟨setNth σ.fr t (.bk false), σ.hp⟩ | true => no ⟨setNth σ.fr t (.bk false), σ.hp⟩)
      | _ => .fail

def putD (fr : List AV) (dst : Option Tmp) (v : AV) : List AV :=
  match dst with
  | some d => setNth fr d v
  | none => fr

def evOper (E : Env) (ops : List Oper) (o : Oper) (σ : St) : T (List AV × HP) :=
  evGuard ops o σ
    (fun σ => (evOp E σ.ev o.op σ.hp).bind fun p => .ret (putD σ.fr o.dst p.1, p.2))
    (fun σ => .ret (putD σ.fr o.dst .nov, σ.hp))

def evOps (E : Env) (ops : List Oper) : List Oper → St → T St
  | [], σ => .ret σ
  | o :: rest, σ => (evOper E ops o σ).bind fun p => evOps E ops rest ⟨p.1, p.2⟩

/-! ### regions whose operations may be drawn in another order -/
/-- What an operation touches of the machine's own memory. -/
inductive FP where
  | k0
  | k1 (r : Nat)
  | kr
  | k2 (b : Nat)
  | kn (r : Nat)
  | ka

def clash : FP → FP → Bool
  | .k0, _ => false
  | _, .k0 => false
  | .k1 _, .k1 _ => false
  | .k1 _, .kr => false
  | .kr, .k1 _ => false
  | .kr, .kr => false
  | .k1 r, .k2 b => Nat.beq r b
  | .k2 b, .k1 r => Nat.beq r b
  | .k2 b, .k2 c => Nat.beq b c
  | .k1 r, .kn n => !Nat.blt r n
  | .kn n, .k1 r => !Nat.blt r n
  | .k2 b, .kn n => !Nat.blt b n
  | .kn n, .k2 b => !Nat.blt b n
  | _, _ => true

def noSlP : List PT → Bool
  | [] => true
  | .d t :: ps => noSl t && noSlP ps
  | .rp _ :: ps => noSlP ps

/-- All parameters are data without a slice. -/
def noSlD : List PT → Bool
  | [] => true
  | .d t :: ps => noSl t && noSlD ps
  | .rp _ :: _ => false

def fpCall (E : Env) (f : FuncId) (args : List AV) : FP :=
  match look f E.ent with
  | some ⟨none, ps, rs, _⟩ => match noSlR rs && Nat.beq (ownsR rs) 0 with
    | true => match noSlD ps with
      | true => .k0
      | false => .kr
    | false => .ka
  | some ⟨some _, ps, _, _⟩ => match noSlP ps, args with
    | true, .ptr b _ :: _ => .k2 b
    | _, _ => .ka
  | none => .ka

def fpOf (E : Env) (ρ : Operand → AV) (op : Op) : FP :=
  match op with
  | .move _ => .k0
  | .assign _ => .k0
  | .pick _ _ _ => .k0
  | .binOp _ _ _ _ _ => .k0
  | .unOp _ _ _ => .k0
  | .convert _ _ x => match ρ x with
    | .own r => .k1 r
    | _ => .k0
  | .makeFunc _ _ _ => .k0
  | .fieldAddr _ _ _ => .k0
  | .field _ _ _ => .k0
  | .extract _ _ => .k0
  | .nilCheck _ => .k0
  | .build _ _ => .k0
  | .index _ _ _ => .k0
  | .load _ a => match ρ a with
    | .ptr r _ => .k1 r
    | .eptr r _ _ => .k1 r
    | _ => .k0
  | .indexAddr _ x _ => match ρ x with
    | .own r => .k1 r
    | .sub r _ _ => .k1 r
    | _ => .k0
  | .slice _ x _ _ _ => match ρ x with
    | .own r => .k1 r
    | .sub r _ _ => .k1 r
    | _ => .k0
  | .store _ a _ => match ρ a with
    | .ptr r _ => .k2 r
    | .eptr r _ _ => .k2 r
    | _ => .ka
  | .call { callee := .builtin .len, args, .. } => match args.toList.map ρ with
    | [.own r] => .k1 r
    | _ => .k0
  | .call { callee := .builtin .min, .. } => .k0
  | .call { callee := .builtin .max, .. } => .k0
  | .call { callee := .value g, args, .. } => match ρ g with
    | .fn (.func f) a b => fpCall E f (a ++ args.toList.map ρ ++ b)
    | _ => .ka
  | _ => .ka

def guardD (ops : List Oper) (o : Oper) (σ : St) : Option Bool :=
  match o.guard with
  | none => some true
  | some (j, want) => match (nth ops j).bind (·.dst) with
    | none => some false
    | some t => match (nth σ.fr t).getD .undef with
      | .nov => some false
      | .bk b => match b, want with
        | true, true => some true
        | false, false => some true
        | _, _ => some false
      | _ => none

def dstEq (a b : Option Tmp) : Bool :=
  match a, b with
  | some x, some y => Nat.beq x y
  | _, _ => false
/-- A guard looks at this operation's slot. -/
def asked (ops : List Oper) (o : Oper) : Bool := ops.any fun p => match p.guard with
  | some (j, _) => dstEq ((nth ops j).bind (·.dst)) o.dst
  | none => false
def know (ask : Bool) (p : AV × HP) (k : AV × HP → T (List AV × HP × FP)) : T (List AV × HP × FP) :=
  match ask, p with
  | true, (.bool b, hp) => .ite b (k (.bk true, hp)) (k (.bk false, hp))
  | _, p => k p

/-- A new variable. -/
def fpAt (op : Op) (v : AV) (f : FP) : FP :=
  match op with
  | .alloc _ => match v with
    | .ptr r _ => .kn r
    | _ => f
  | .box _ _ => match v with
    | .ptr r _ => .kn r
    | _ => f
  | _ => f

def evDrawOper (E : Env) (ops : List Oper) (o : Oper) (σ : St) : T (List AV × HP × FP) :=
  match guardD ops o σ with
  | some true => (evOp E σ.ev o.op σ.hp).bind fun p => know (asked ops o) p fun q => .ret (putD σ.fr o.dst q.1, q.2, fpAt o.op p.1 (fpOf E σ.ev o.op))
  | some false => .ret (putD σ.fr o.dst .nov, σ.hp, .k0)
  | none => .fail

def evDrawL (E : Env) (ops : List Oper) : List Oper → St → T (St × List FP)
  | [], σ => .ret (σ, [])
  | o :: rest, σ => (evDrawOper E ops o σ).bind fun p => (evDrawL E ops rest ⟨p.1, p.2.1⟩).bind fun q => .ret (q.1, p.2.2 :: q.2)

def opdTmp : Operand → Option Nat
  | .tmp t => some t
  | _ => none
def guardTmp (ops : List Oper) (o : Oper) : Option Tmp :=
  match o.guard with
  | none => none
  | some (j, _) => (nth ops j).bind (·.dst)
/-- The slot d is none of those that o looks at or writes. -/
def offD (ops : List Oper) (d : Option Tmp) (o : Oper) : Bool :=
  match d with
  | none => true
  | some t => (o.op.operands.toList.all fun x => match opdTmp x with
      | some u => !Nat.beq u t
      | none => true) && !dstEq (some t) (guardTmp ops o) && !dstEq (some t) o.dst
def commB (ops : List Oper) (x : Oper) (f : FP) (y : Oper) (g : FP) : Bool := !clash f g && offD ops x.dst y && offD ops y.dst x

def hasEdge (y : Oper) (k : Nat) : Bool := y.after.toList.any fun e => Region.binds .any e && Nat.beq e.on k
def backB (y : Oper) (i : Nat) : Bool := y.after.toList.all fun e => !Region.binds .any e || Nat.blt e.on i
def chkOne (ops : List Oper) (y : Oper) (g : FP) : List (Nat × Oper × FP) → Bool
  | [] => true
  | (k, x, f) :: r => (hasEdge y k || commB ops x f y g) && chkOne ops y g r
def chkAll (ops : List Oper) : List (Nat × Oper × FP) → Nat → List Oper → List FP → Bool
  | _, _, [], [] => true
  | pre, i, o :: os, f :: fs => chkOne ops o f pre && backB o i && chkAll ops ((i, o, f) :: pre) (i + 1) os fs
  | _, _, _, _ => false

/-- A region whose operations may be drawn: it must not matter. -/
def evDraw (E : Env) (ops : List Oper) (σ : St) : T St := (evDrawL E ops ops σ).bind fun q =>
  match chkAll ops [] 0 ops q.2 with
  | true => .ret q.1
  | false => .fail

inductive Ex where
  | normal
  | exit (id : Nat)
  | ret

def firstReg : Code → Option Nat
  | .region id _ _ => some id
  | .seq a b => match firstReg a with
    | some n => some n
    | none => firstReg b
  | .cond _ a b => match firstReg a with
    | some n => some n
    | none => firstReg b
  | .block _ b => firstReg b
  | .loop b => firstReg b
  | .scope b => firstReg b
  | _ => none

def evCode (E : Env) (Λ : Nat → St → T (Ex × St)) : Code → St → T (Ex × St)
  | .skip, σ => .ret (.normal, σ)
  | .region _ ops false, σ => (evOps E ops.toList ops.toList σ).bind fun σ' => .ret (.normal, σ')
  | .region _ ops true, σ => (evDraw E ops.toList σ).bind fun σ' => .ret (.normal, σ')
  | .seq a b, σ => (evCode E Λ a σ).bind fun p => match p.1 with
    | .normal => evCode E Λ b p.2
    | e => .ret (e, p.2)
  | .cond c x y, σ => match σ.ev c with
    | .bk true => evCode E Λ x σ
    | .bk false => evCode E Λ y σ
    | .bool b => .ite b (evCode E Λ x σ) (evCode E Λ y σ)
    | _ => .fail
  | .block id c, σ => (evCode E Λ c σ).bind fun p => match p.1 with
    | .exit id' => match Nat.beq id' id with
      | true => .ret (.normal, p.2)
      | false => .ret (.exit id', p.2)
    | e => .ret (e, p.2)
  | .loop c, σ => match firstReg c with
    | some n => Λ n σ
    | none => .fail
  | .exit id, σ => .ret (.exit id, σ)
  | .ret, σ => .ret (.ret, σ)
  | _, _ => .fail

def evRes (E : Env) (σ : St) : List ResultVar → Option (List AV)
  | [] => some []
  | .tmp t :: rs => (evRes E σ rs).map fun l => (nth σ.fr t).getD .undef :: l
  | .cell a t :: rs => match look t E.ti, (nth σ.fr a).getD .undef with
    | some i, .ptr r off => match nth σ.hp r with
      | some (.cells cs) => match Nat.ble (off + i.size) cs.length, ofCells i.agg (sliceL cs off i.size) with
        | true, some v => (evRes E σ rs).map fun l => v :: l
        | _, _ => none
      | _ => none
    | _, _ => none

def evBody (E : Env) (Λ : Nat → St → T (Ex × St)) (f : Func) (args : List AV) (hp : HP) : T (AV × HP) :=
  match f.body with
  | none => .fail
  | some c => (evCode E Λ c ⟨args ++ List.replicate (f.ntmps - args.length) .nov, hp⟩).bind fun p =>
    match p.1 with
    | .exit _ => .fail
    | _ => match evRes E p.2 f.results.toList with
      | some vs => .ret (oneOrTup vs, p.2.hp)
      | none => .fail
end Vm
/- The symbolic machine: what its states say of the model's. -/
namespace Vm
open Go

/-- Of what was there before, only the blocks in S may have turned. -/
structure Step (S : Nat → Prop) (w w' : World) : Prop where
  os : w'.os = w.os
  tape : w'.tape = w.tape
  output : w'.output = w.output
  size : w.heap.size ≤ w'.heap.size
  block : ∀ k, k < w.heap.size → ¬ S k → w'.heap[k]? = w.heap[k]?

theorem Step.refl (S : Nat → Prop) (w : World) : Step S w w := ⟨rfl, rfl, rfl, Nat.le_refl _, fun _ _ _ => rfl⟩
theorem Step.mono {S S' : Nat → Prop} {w w' : World} (h : Step S w w') (hs : ∀ k, k < w.heap.size → S k → S' k) : Step S' w w' :=
  ⟨h.os, h.tape, h.output, h.size, fun k hk hn => h.block k hk (fun hh => hn (hs k hk hh))⟩
theorem Step.trans {S S' : Nat → Prop} {w w1 w2 : World} (h : Step S w w1) (h' : Step S' w1 w2) (hs : ∀ k, k < w.heap.size → S' k → S k) : Step S w w2 :=
  ⟨h'.os.trans h.os, h'.tape.trans h.tape, h'.output.trans h.output, Nat.le_trans h.size h'.size,
    fun k hk hn => (h'.block k (Nat.lt_of_lt_of_le hk h.size) (fun hh => hn (hs k hk hh))).trans (h.block k hk hn)⟩

/-- What the program's own fixed blocks (K) are known to hold, as long as nothing turns them. -/
structure Glob where
  K : Nat → Prop
  G : World → Prop
  st : ∀ (w w' : World) (S : Nat → Prop), G w → Step S w w' → (∀ k, k < w.heap.size → S k → ¬ K k) → G w'
  lt : ∀ (w : World) (k : Nat), G w → K k → k < w.heap.size
structure Dom (Γ : Glob) where
  ok : Nat → Prop
instance {Γ : Glob} : CoeFun (Dom Γ) (fun _ => Nat → Prop) := ⟨Dom.ok⟩

/-! ### data in memory -/
/-- A row of elements that is read. -/
def RowAt (ok : Nat → Prop) (w : World) (size : Nat) {α : Type} (R : α → List Value → Prop) (A : Option Addr) (xs : List α) : Prop :=
  xs = [] ∨ ∃ b off, A = some ⟨b, off, none⟩ ∧ ok b ∧ b < w.heap.size ∧
    ∀ i x, xs[i]? = some x → ∃ cs, R x cs ∧ ∀ j u, cs[j]? = some u → w.cell? ⟨b, off + i * size + j, none⟩ = some u

/-- The cells of some data; the rows that they lead to lie in blocks that are ok. -/
def Enc (ok : Nat → Prop) (w : World) : (t : Ty) → t.den → List Value → Prop
  | .int k, x, cs => cs = [.int k x]
  | .bool, x, cs => cs = [.bool x]
  | .str, x, cs => cs = [.string x]
  | .unit, _, cs => cs = []
  | .pair a b, x, cs => ∃ c1 c2, cs = c1 ++ c2 ∧ Enc ok w a x.1 c1 ∧ Enc ok w b x.2 c2
  | .sl _ t, xs, cs => ∃ A c, cs = [.slice A xs.length c] ∧ xs.length ≤ c ∧ RowAt ok w t.size (Enc ok w t) A xs

theorem Enc.len {ok : Nat → Prop} {w : World} : ∀ {t : Ty} {x : t.den} {cs : List Value}, Enc ok w t x cs → cs.length = t.size
  | .int _, _, _, h => by rw [show _ = _ from h]; rfl
  | .bool, _, _, h => by rw [show _ = _ from h]; rfl
  | .str, _, _, h => by rw [show _ = _ from h]; rfl
  | .unit, _, _, h => by rw [show _ = _ from h]; rfl
  | .pair _ _, _, _, ⟨_, _, e, h1, h2⟩ => by rw [e, List.length_append, h1.len, h2.len]; rfl
  | .sl _ _, _, _, ⟨_, _, e, _⟩ => by rw [e]; rfl

theorem Enc.one {ok : Nat → Prop} {w : World} : ∀ {t : Ty} {x : t.den} {cs : List Value}, Enc ok w t x cs → ∀ u ∈ cs, u.oneCell' = true
  | .int _, _, _, h => by intro u hu; rw [show _ = _ from h] at hu; rw [List.mem_singleton.1 hu]; rfl
  | .bool, _, _, h => by intro u hu; rw [show _ = _ from h] at hu; rw [List.mem_singleton.1 hu]; rfl
  | .str, _, _, h => by intro u hu; rw [show _ = _ from h] at hu; rw [List.mem_singleton.1 hu]; rfl
  | .unit, _, _, h => by intro u hu; rw [show _ = _ from h] at hu; cases hu
  | .pair _ _, _, _, ⟨_, _, e, h1, h2⟩ => by
    intro u hu
    rw [e] at hu
    rcases List.mem_append.1 hu with hu | hu
    · exact h1.one u hu
    · exact h2.one u hu
  | .sl _ _, _, _, ⟨_, _, e, _⟩ => by intro u hu; rw [e] at hu; rw [List.mem_singleton.1 hu]; rfl

/-- What keeps blocks that are ok keeps what is read through them. -/
structure Carry (ok ok' : Nat → Prop) (w w' : World) : Prop where
  size : w.heap.size ≤ w'.heap.size
  into : ∀ k, k < w.heap.size → ok k → ok' k
  block : ∀ k, k < w.heap.size → ok k → w'.heap[k]? = w.heap[k]?

theorem cell_same {w w' : World} {a : Addr} (h : w'.heap[a.block]? = w.heap[a.block]?) : w'.cell? a = w.cell? a := by simp [World.cell?, h]

theorem RowAt.carry {ok ok' : Nat → Prop} {w w' : World} (hc : Carry ok ok' w w') {size : Nat} {α : Type} {R R' : α → List Value → Prop} (hR : ∀ x cs, R x cs → R' x cs)
    {A : Option Addr} {xs : List α} (h : RowAt ok w size R A xs) : RowAt ok' w' size R' A xs := by
  rcases h with h | ⟨b, off, e, hok, hlt, h⟩
  · exact .inl h
  · refine .inr ⟨b, off, e, hc.into b hlt hok, Nat.lt_of_lt_of_le hlt hc.size, fun i x hx => ?_⟩
    obtain ⟨cs, h1, h2⟩ := h i x hx
    exact ⟨cs, hR _ _ h1, fun j u hu => (cell_same (hc.block b hlt hok)).trans (h2 j u hu)⟩

theorem Enc.carry {ok ok' : Nat → Prop} {w w' : World} (hc : Carry ok ok' w w') : ∀ {t : Ty} {x : t.den} {cs : List Value}, Enc ok w t x cs → Enc ok' w' t x cs
  | .int _, _, _, h => h
  | .bool, _, _, h => h
  | .str, _, _, h => h
  | .unit, _, _, h => h
  | .pair _ _, _, _, ⟨c1, c2, e, h1, h2⟩ => ⟨c1, c2, e, h1.carry hc, h2.carry hc⟩
  | .sl _ t, _, _, ⟨A, c, e, hl, h⟩ => ⟨A, c, e, hl, h.carry hc (fun _ _ h => Enc.carry (t := t) hc h)⟩

/-- Several elements, one behind the other. -/
def EncL (ok : Nat → Prop) (w : World) (t : Ty) : List t.den → List Value → Prop
  | [], cs => cs = []
  | x :: xs, cs => ∃ c1 c2, cs = c1 ++ c2 ∧ Enc ok w t x c1 ∧ EncL ok w t xs c2

section
variable {ok ok' : Nat → Prop} {w w' : World} {t : Ty}
theorem EncL.len : ∀ {xs : List t.den} {cs : List Value}, EncL ok w t xs cs → cs.length = xs.length * t.size
  | [], _, h => by rw [show _ = _ from h]; simp
  | _ :: _, _, ⟨_, _, e, h1, h2⟩ => by rw [e, List.length_append, h1.len, h2.len, List.length_cons, Nat.succ_mul]; omega
theorem EncL.one : ∀ {xs : List t.den} {cs : List Value}, EncL ok w t xs cs → ∀ u ∈ cs, u.oneCell' = true
  | [], _, h => by intro u hu; rw [show _ = _ from h] at hu; cases hu
  | _ :: _, _, ⟨_, _, e, h1, h2⟩ => by
    intro u hu
    rw [e] at hu
    rcases List.mem_append.1 hu with hu | hu
    · exact h1.one u hu
    · exact h2.one u hu
theorem EncL.carry (hc : Carry ok ok' w w') : ∀ {xs : List t.den} {cs : List Value}, EncL ok w t xs cs → EncL ok' w' t xs cs
  | [], _, h => h
  | _ :: _, _, ⟨c1, c2, e, h1, h2⟩ => ⟨c1, c2, e, h1.carry hc, h2.carry hc⟩
theorem EncL.append : ∀ {xs ys : List t.den} {cs ds : List Value}, EncL ok w t xs cs → EncL ok w t ys ds → EncL ok w t (xs ++ ys) (cs ++ ds)
  | [], _, _, _, h, h' => by rw [show _ = _ from h]; exact h'
  | _ :: _, _, _, _, ⟨c1, c2, e, h1, h2⟩, h' => ⟨c1, c2 ++ _, by rw [e, List.append_assoc], h1, h2.append h'⟩
/-- The i-th element's cells. -/
theorem EncL.get : ∀ {xs : List t.den} {cs : List Value}, EncL ok w t xs cs → ∀ {i : Nat} {x : t.den}, xs[i]? = some x →
    ∃ c, Enc ok w t x c ∧ ∀ j u, c[j]? = some u → cs[i * t.size + j]? = some u
  | [], _, _, i, x, hx => by simp at hx
  | y :: ys, _, ⟨c1, c2, e, h1, h2⟩, 0, x, hx => by
    simp only [List.getElem?_cons_zero, Option.some.injEq] at hx
    subst hx
    refine ⟨c1, h1, fun j u hu => ?_⟩
    have hj : j < c1.length := (List.getElem?_eq_some_iff.1 hu).1
    rw [e, Nat.zero_mul, Nat.zero_add, List.getElem?_append_left hj]
    exact hu
  | y :: ys, _, ⟨c1, c2, e, h1, h2⟩, i + 1, x, hx => by
    simp only [List.getElem?_cons_succ] at hx
    obtain ⟨c, hc, h⟩ := h2.get hx
    refine ⟨c, hc, fun j u hu => ?_⟩
    have := h j u hu
    have hl := h1.len
    rw [e, List.getElem?_append_right (by rw [hl, Nat.succ_mul]; omega), hl]
    rw [← this]
    congr 1
    rw [Nat.succ_mul]; omega
theorem EncL.of : ∀ {xs : List t.den}, (∀ x ∈ xs, ∃ cs, Enc ok w t x cs) → ∃ cs, EncL ok w t xs cs
  | [], _ => ⟨[], rfl⟩
  | x :: xs, h => by
    obtain ⟨c1, h1⟩ := h x List.mem_cons_self
    obtain ⟨c2, h2⟩ := EncL.of (xs := xs) (fun y hy => h y (List.mem_cons_of_mem _ hy))
    exact ⟨c1 ++ c2, c1, c2, rfl, h1, h2⟩
theorem EncL.split : ∀ {xs ys : List t.den} {cs : List Value}, EncL ok w t (xs ++ ys) cs → ∃ c1 c2, cs = c1 ++ c2 ∧ EncL ok w t xs c1 ∧ EncL ok w t ys c2
  | [], _, cs, h => ⟨[], cs, rfl, rfl, h⟩
  | x :: xs, ys, _, ⟨c1, c2, e, h1, h2⟩ => by
    obtain ⟨d1, d2, e2, h3, h4⟩ := EncL.split (xs := xs) (ys := ys) h2
    exact ⟨c1 ++ d1, d2, by rw [e, e2, List.append_assoc], ⟨c1, d1, rfl, h1, h3⟩, h4⟩
/-- Out of a row that is read: the cells of all its elements. -/
theorem RowAt.encL {A : Option Addr} {xs : List t.den} (h : RowAt ok w t.size (Enc ok w t) A xs) : ∃ cs, EncL ok w t xs cs ∧
    (xs = [] ∨ ∃ b off, A = some ⟨b, off, none⟩ ∧ ok b ∧ b < w.heap.size ∧ ∀ j u, cs[j]? = some u → w.cell? ⟨b, off + j, none⟩ = some u) := by
  rcases h with h | ⟨b, off, e, hok, hlt, h⟩
  · subst h
    exact ⟨[], rfl, .inl rfl⟩
  · suffices hs : ∀ (ys : List t.den) (n : Nat), (∀ i x, ys[i]? = some x → ∃ cs, Enc ok w t x cs ∧ ∀ j u, cs[j]? = some u → w.cell? ⟨b, off + (n + i) * t.size + j, none⟩ = some u) →
        ∃ cs, EncL ok w t ys cs ∧ ∀ j u, cs[j]? = some u → w.cell? ⟨b, off + n * t.size + j, none⟩ = some u by
      obtain ⟨cs, h1, h2⟩ := hs xs 0 (fun i x hx => by simpa using h i x hx)
      exact ⟨cs, h1, .inr ⟨b, off, e, hok, hlt, fun j u hu => by simpa using h2 j u hu⟩⟩
    intro ys
    induction ys with
    | nil => exact fun n _ => ⟨[], rfl, fun j u hu => by simp at hu⟩
    | cons y ys ih =>
      intro n hn
      obtain ⟨c1, h1, h2⟩ := hn 0 y rfl
      obtain ⟨c2, h3, h4⟩ := ih (n + 1) (fun i x hx => by
        obtain ⟨cs, h5, h6⟩ := hn (i + 1) x (by simpa using hx)
        exact ⟨cs, h5, fun j u hu => by rw [show n + 1 + i = n + (i + 1) from by omega]; exact h6 j u hu⟩)
      refine ⟨c1 ++ c2, ⟨c1, c2, rfl, h1, h3⟩, fun j u hu => ?_⟩
      have hl := h1.len
      by_cases hj : j < c1.length
      · rw [List.getElem?_append_left hj] at hu
        simpa using h2 j u hu
      · rw [List.getElem?_append_right (by omega), hl] at hu
        rw [← h4 _ u hu]
        congr 2
        rw [Nat.succ_mul]
        omega
end

/-! ### places -/
inductive Loc where
  | rng (b off : Nat)
  | arr (size : Nat) (v : Value)

def Loc.blk : Loc → Option Nat
  | .rng b _ => some b
  | .arr _ v => v.ownBlock

def Ob.live : Ob → Bool
  | .dead => false
  | _ => true

/-- The blocks that the machine's own live ones lie in. -/
def MB (loc : List Loc) (hp : HP) (k : Nat) : Prop := ∃ i l ob, nth loc i = some l ∧ nth hp i = some ob ∧ ob.live = true ∧ l.blk = some k

/-- The blocks that data may lead to: those that came in, or that were made since; none that is the machine's own. -/
def okk {Γ : Glob} (A : Dom Γ) (base : Nat) (loc : List Loc) (hp : HP) (k : Nat) : Prop := (A k ∨ base ≤ k) ∧ ¬ MB loc hp k

mutual
inductive RV (loc : List Loc) (ok : Nat → Prop) (w : World) : AV → Value → Prop where
  | undef (v : Value) : RV loc ok w .undef v
  | nov : RV loc ok w .nov Go.undef
  | bk (b : Bool) : RV loc ok w (.bk b) (.bool b)
  | bool (b : Bool) : RV loc ok w (.bool b) (.bool b)
  | int (k : IntKind) (n : Int) : RV loc ok w (.int k n) (.int k n)
  | str (s : ByteArray) : RV loc ok w (.str s) (.string s)
  | sl {e : TypeId} {t : Ty} {c : Bool} {xs : List t.den} {A : Option Addr} {cap : Nat} (hc : c = true → cap = xs.length) (hl : xs.length ≤ cap)
      (h : RowAt ok w t.size (Enc ok w t) A xs) : RV loc ok w (.sl e t c xs) (.slice A xs.length cap)
  | nils : RV loc ok w .nils (.slice none 0 0)
  | own {r size n c : Nat} {A : Option Addr} (h : nth loc r = some (.arr size (.slice A n c))) : RV loc ok w (.own r) (.slice A n c)
  | sub {r size n cap c : Nat} {lo hi : Int} {A A' : Option Addr} (h : nth loc r = some (.arr size (.slice A n cap))) (h0 : 0 ≤ lo) (h1 : lo ≤ hi) (h2 : hi ≤ n)
      (hA : lo < hi → A' = A.map (·.add (lo.toNat * size))) (hc : (hi - lo).toNat ≤ c) : RV loc ok w (.sub r lo hi) (.slice A' (hi - lo).toNat c)
  | ptr {r off b o : Nat} (h : nth loc r = some (.rng b o)) : RV loc ok w (.ptr r off) (.pointer (some ⟨b, o + off, none⟩))
  | eptr {r off size g n cap : Nat} {i : Int} (h : nth loc r = some (.arr size (.slice (some ⟨g, 0, none⟩) n cap))) (h0 : 0 ≤ i) (h1 : i < n) :
      RV loc ok w (.eptr r i off) (.pointer (some ⟨g, i.toNat * size + off, none⟩))
  | rptr {t : Ty} {x : t.den} {b off : Nat} {cs : List Value} (h : Enc ok w t x cs) (hb : ok b) (hlt : b < w.heap.size)
      (hc : ∀ j u, cs[j]? = some u → w.cell? ⟨b, off + j, none⟩ = some u) : RV loc ok w (.rptr t x) (.pointer (some ⟨b, off, none⟩))
  | nilp : RV loc ok w .nilp (.pointer none)
  | fn {f : Fn} {a c : List AV} {va vc : List Value} (ha : RVs loc ok w a va) (hc : RVs loc ok w c vc) : RV loc ok w (.fn f a c) (.func f va.toArray vc.toArray)
  | agg {cs : List AV} {vs : List Value} (h : RVs loc ok w cs vs) (h1 : ∀ u ∈ vs, u.oneCell' = true) : RV loc ok w (.agg cs) (.agg vs.toArray)
  | tup {cs : List AV} {vs : List Value} (h : RVs loc ok w cs vs) : RV loc ok w (.tup cs) (.tuple vs.toArray)
inductive RVs (loc : List Loc) (ok : Nat → Prop) (w : World) : List AV → List Value → Prop where
  | nil : RVs loc ok w [] []
  | cons {a : AV} {v : Value} {aq : List AV} {vs : List Value} (h : RV loc ok w a v) (ht : RVs loc ok w aq vs) : RVs loc ok w (a :: aq) (v :: vs)
end

/-- The places that were there stay. -/
def Ext (loc loc' : List Loc) : Prop := ∀ r l, nth loc r = some l → nth loc' r = some l

section
variable {loc loc' : List Loc} {ok ok' : Nat → Prop} {w w' : World}
mutual
theorem RV.carry (hx : Ext loc loc') (hc : Carry ok ok' w w') : ∀ {a : AV} {v : Value}, RV loc ok w a v → RV loc' ok' w' a v
  | _, _, .undef v => .undef v
  | _, _, .nov => .nov
  | _, _, .bk b => .bk b
  | _, _, .bool b => .bool b
  | _, _, .int k n => .int k n
  | _, _, .str s => .str s
  | _, _, .sl h1 h2 h3 => .sl h1 h2 (h3.carry hc (fun _ _ h => h.carry hc))
  | _, _, .nils => .nils
  | _, _, .own h => .own (hx _ _ h)
  | _, _, .sub h h0 h1 h2 hA hcap => .sub (hx _ _ h) h0 h1 h2 hA hcap
  | _, _, .ptr h => .ptr (hx _ _ h)
  | _, _, .eptr h h0 h1 => .eptr (hx _ _ h) h0 h1
  | _, _, .rptr h hb hlt h2 => .rptr (h.carry hc) (hc.into _ hlt hb) (Nat.lt_of_lt_of_le hlt hc.size) (fun j u hu => (cell_same (hc.block _ hlt hb)).trans (h2 j u hu))
  | _, _, .nilp => .nilp
  | _, _, .fn ha hcs => .fn (ha.carry hx hc) (hcs.carry hx hc)
  | _, _, .agg h h1 => .agg (h.carry hx hc) h1
  | _, _, .tup h => .tup (h.carry hx hc)
theorem RVs.carry (hx : Ext loc loc') (hc : Carry ok ok' w w') : ∀ {a : List AV} {v : List Value}, RVs loc ok w a v → RVs loc' ok' w' a v
  | _, _, .nil => .nil
  | _, _, .cons h t => .cons (h.carry hx hc) (t.carry hx hc)
end
end
end Vm
/- The symbolic machine: its blocks in the model's memory, and how they go on. -/
namespace Vm
open Go

theorem nth_eq {α : Type} : ∀ (l : List α) (i : Nat), nth l i = l[i]?
  | [], _ => by simp [nth]
  | _ :: _, 0 => by simp [nth]
  | _ :: r, n + 1 => by simp [nth, nth_eq r n]
theorem setNth_eq {α : Type} : ∀ (l : List α) (i : Nat) (b : α), setNth l i b = l.set i b
  | [], _, _ => by simp [setNth]
  | _ :: _, 0, _ => by simp [setNth]
  | _ :: r, n + 1, b => by simp [setNth, setNth_eq r n]
theorem nth_lt {α : Type} {l : List α} {i : Nat} {a : α} (h : nth l i = some a) : i < l.length := by
  rw [nth_eq] at h
  exact (List.getElem?_eq_some_iff.1 h).1
theorem nth_of_lt {α : Type} {l : List α} {i : Nat} (h : i < l.length) : ∃ a, nth l i = some a := by
  rw [nth_eq]
  exact ⟨l[i], List.getElem?_eq_getElem h⟩
theorem nth_left {α : Type} {l : List α} {i : Nat} {a : α} (h : nth l i = some a) (r : List α) : nth (l ++ r) i = some a := by
  have hl := nth_lt h
  rw [nth_eq] at h ⊢
  rw [List.getElem?_append_left hl]
  exact h
theorem nth_left' {α : Type} {l r : List α} {i : Nat} (h : i < l.length) : nth (l ++ r) i = nth l i := by
  rw [nth_eq, nth_eq, List.getElem?_append_left h]
theorem nth_new {α : Type} (l : List α) (a : α) : nth (l ++ [a]) l.length = some a := by
  rw [nth_eq]; simp
theorem nth_set_self {α : Type} {l : List α} {i : Nat} (h : i < l.length) (b : α) : nth (setNth l i b) i = some b := by
  rw [nth_eq, setNth_eq]; simp [h]
theorem nth_set_ne {α : Type} {l : List α} {i j : Nat} (h : i ≠ j) (b : α) : nth (setNth l i b) j = nth l j := by
  rw [nth_eq, setNth_eq, nth_eq, List.getElem?_set_ne h]
theorem len_set {α : Type} (l : List α) (i : Nat) (b : α) : (setNth l i b).length = l.length := by rw [setNth_eq, List.length_set]

/-- A block of the machine's own, in memory. -/
def ObAt (base : Nat) (loc : List Loc) (ok : Nat → Prop) (w : World) : Loc → Ob → Prop
  | .rng b o, .cells cs => b < w.heap.size ∧ ∀ j a, nth cs j = some a →
      ∃ u, w.cell? ⟨b, o + j, none⟩ = some u ∧ RV loc ok w a u ∧ u.oneCell' = true ∧ w.frozen? ⟨b, o + j, none⟩ = false
  | .arr size v, .arr e t xs => size = t.size ∧ ∃ cs, w.ownsRow base e t.size v xs.length cs ∧ EncL ok w t xs cs
  | _, .dead => True
  | _, _ => False

structure Inv {Γ : Glob} (A : Dom Γ) (base : Nat) (loc : List Loc) (hp : HP) (w : World) : Prop where
  len : loc.length = hp.length
  low : base ≤ w.heap.size
  obj : ∀ i l ob, nth loc i = some l → nth hp i = some ob → ObAt base loc (okk A base loc hp) w l ob
  sep : ∀ i j l m ob oc, i ≠ j → nth loc i = some l → nth loc j = some m → nth hp i = some ob → nth hp j = some oc → ob.live = true → oc.live = true →
    ∀ k, l.blk = some k → m.blk ≠ some k
  gl : Γ.G w
  gk : ∀ k, MB loc hp k → ¬ Γ.K k

structure After {Γ : Glob} (A : Dom Γ) (base : Nat) (loc : List Loc) (hp : HP) (w : World) (loc' : List Loc) (hp' : HP) (w' : World) : Prop where
  inv : Inv A base loc' hp' w'
  ext : Ext loc loc'
  step : Step (MB loc hp) w w'
  sub : ∀ k, k < w.heap.size → MB loc' hp' k → MB loc hp k

section
variable {Γ : Glob} {A : Dom Γ} {base : Nat} {loc loc' loc2 : List Loc} {hp hp' hp2 : HP} {w w' w2 : World}

theorem Ext.refl (loc : List Loc) : Ext loc loc := fun _ _ h => h
theorem Ext.trans (h : Ext loc loc') (h' : Ext loc' loc2) : Ext loc loc2 := fun r l hl => h' r l (h r l hl)
theorem Ext.app (loc l : List Loc) : Ext loc (loc ++ l) := fun _ _ h => nth_left h l

theorem okk_mb {k : Nat} (h : okk A base loc hp k) : ¬ MB loc hp k := h.2

theorem carry_of (hs : Step (MB loc hp) w w') (sub : ∀ k, k < w.heap.size → MB loc' hp' k → MB loc hp k) : Carry (okk A base loc hp) (okk A base loc' hp') w w' :=
  ⟨hs.size, fun k hk ho => ⟨ho.1, fun hm => ho.2 (sub k hk hm)⟩, fun k hk ho => hs.block k hk ho.2⟩

theorem After.carry (h : After A base loc hp w loc' hp' w') : Carry (okk A base loc hp) (okk A base loc' hp') w w' := carry_of h.step h.sub

theorem After.rv (h : After A base loc hp w loc' hp' w') {a : AV} {v : Value} (hv : RV loc (okk A base loc hp) w a v) : RV loc' (okk A base loc' hp') w' a v := hv.carry h.ext h.carry
theorem After.rvs (h : After A base loc hp w loc' hp' w') {a : List AV} {v : List Value} (hv : RVs loc (okk A base loc hp) w a v) : RVs loc' (okk A base loc' hp') w' a v := hv.carry h.ext h.carry

theorem After.refl (h : Inv A base loc hp w) : After A base loc hp w loc hp w := ⟨h, Ext.refl _, Step.refl _ _, fun _ _ h => h⟩
theorem After.trans (h : After A base loc hp w loc' hp' w') (h' : After A base loc' hp' w' loc2 hp2 w2) : After A base loc hp w loc2 hp2 w2 :=
  ⟨h'.inv, h.ext.trans h'.ext, h.step.trans h'.step (fun k hk hm => h.sub k hk hm),
    fun k hk hm => h.sub k hk (h'.sub k (Nat.lt_of_lt_of_le hk h.step.size) hm)⟩

theorem mb_lt (h : Inv A base loc hp w) {k : Nat} (hm : MB loc hp k) : k < w.heap.size := by
  obtain ⟨i, l, ob, h1, h2, h3, h4⟩ := hm
  have ho := h.obj i l ob h1 h2
  cases l with
  | rng b o =>
    cases ob with
    | cells cs =>
      simp only [Loc.blk, Option.some.injEq] at h4
      exact h4 ▸ ho.1
    | arr e t xs => exact ho.elim
    | dead => simp [Ob.live] at h3
  | arr size v =>
    cases ob with
    | cells cs => exact ho.elim
    | arr e t xs =>
      obtain ⟨_, cs, h5, _⟩ := ho
      exact (h5.lt k h4).2
    | dead => simp [Ob.live] at h3

/-- How a block stands behind a step that has left it alone. -/
theorem ObAt.carry {ok ok' : Nat → Prop} (hx : Ext loc loc') (hc : Carry ok ok' w w') {l : Loc} {ob : Ob} (h : ObAt base loc ok w l ob)
    (hb : ∀ k, l.blk = some k → w'.heap[k]? = w.heap[k]?) : ObAt base loc' ok' w' l ob := by
  cases l with
  | rng b o =>
    cases ob with
    | cells cs =>
      refine ⟨Nat.lt_of_lt_of_le h.1 hc.size, fun j a hj => ?_⟩
      obtain ⟨u, h1, h2, h3, h4⟩ := h.2 j a hj
      have hs := hb b rfl
      exact ⟨u, (cell_same hs).trans h1, h2.carry hx hc, h3, (World.frozen?_of_block (w := w) hs).trans h4⟩
    | arr e t xs => exact h.elim
    | dead => trivial
  | arr size v =>
    cases ob with
    | cells cs => exact h.elim
    | arr e t xs =>
      obtain ⟨h0, cs, h1, h2⟩ := h
      refine ⟨h0, cs, ?_, h2.carry hc⟩
      refine ⟨h1.1, ?_⟩
      rcases h1.2 with h3 | ⟨g, cap, cur, rfl, h4, h5, h6⟩
      · exact .inl h3
      · exact .inr ⟨g, cap, cur, rfl, h4, (hb g rfl).trans h5, h6⟩
    | dead => trivial

/-- THE STEP: some blocks (T) turned or were made; what is told of them; all others stay. -/
theorem Inv.go (h : Inv A base loc hp w) (T : Nat → Prop) (ls : List Loc) (hlen : hp'.length = (loc ++ ls).length)
    (hst : Step T w w') (hT : ∀ k, k < w.heap.size → T k → MB loc hp k)
    (hold : ∀ i l ob', nth loc i = some l → nth hp' i = some ob' → ob'.live = true →
      nth hp i = some ob' ∧ (∀ k, l.blk = some k → ¬ T k) ∨
      (∃ ob, nth hp i = some ob ∧ ob.live = true) ∧ (Carry (okk A base loc hp) (okk A base (loc ++ ls) hp') w w' → ObAt base (loc ++ ls) (okk A base (loc ++ ls) hp') w' l ob'))
    (hnew : ∀ i l ob', loc.length ≤ i → nth (loc ++ ls) i = some l → nth hp' i = some ob' → ob'.live = true →
      (Carry (okk A base loc hp) (okk A base (loc ++ ls) hp') w w' → ObAt base (loc ++ ls) (okk A base (loc ++ ls) hp') w' l ob') ∧
      (∀ k, l.blk = some k → w.heap.size ≤ k ∨ MB loc hp k ∧ ∀ j m, j < loc.length → nth loc j = some m → (∃ oc, nth hp' j = some oc ∧ oc.live = true) → m.blk ≠ some k) ∧
      (∀ j m oc, loc.length ≤ j → j ≠ i → nth (loc ++ ls) j = some m → nth hp' j = some oc → oc.live = true → ∀ k, l.blk = some k → m.blk ≠ some k)) :
    After A base loc hp w (loc ++ ls) hp' w' := by
  have hx : Ext loc (loc ++ ls) := Ext.app _ _
  have hst' : Step (MB loc hp) w w' := hst.mono (fun k hk ht => hT k hk ht)
  have sub : ∀ k, k < w.heap.size → MB (loc ++ ls) hp' k → MB loc hp k := by
    rintro k hk ⟨i, l, ob, h1, h2, h3, h4⟩
    by_cases hi : i < loc.length
    · rw [nth_left' hi] at h1
      rcases hold i l ob h1 h2 h3 with ⟨h5, _⟩ | ⟨⟨oc, h5, h6⟩, _⟩
      · exact ⟨i, l, ob, h1, h5, h3, h4⟩
      · exact ⟨i, l, oc, h1, h5, h6, h4⟩
    · obtain ⟨_, h5, _⟩ := hnew i l ob (by omega) h1 h2 h3
      rcases h5 k h4 with h6 | h6
      · omega
      · exact h6.1
  have hc : Carry (okk A base loc hp) (okk A base (loc ++ ls) hp') w w' := carry_of hst' sub
  have old : ∀ i l ob, nth loc i = some l → nth hp' i = some ob → ob.live = true → ∃ oc, nth hp i = some oc ∧ oc.live = true := by
    intro i l ob h1 h2 h3
    rcases hold i l ob h1 h2 h3 with ⟨h5, _⟩ | ⟨h5, _⟩
    · exact ⟨ob, h5, h3⟩
    · exact h5
  refine ⟨⟨hlen.symm, Nat.le_trans h.low hst.size, ?_, ?_, Γ.st w w' T h.gl hst (fun k hk ht => h.gk k (hT k hk ht)), fun k hm hK => h.gk k (sub k (Γ.lt w k h.gl hK) hm) hK⟩, hx, hst', sub⟩
  · intro i l ob h1 h2
    cases hlv : ob.live with
    | false => cases ob <;> simp [Ob.live] at hlv; cases l <;> trivial
    | true =>
      by_cases hi : i < loc.length
      · rw [nth_left' hi] at h1
        rcases hold i l ob h1 h2 hlv with ⟨h5, h6⟩ | ⟨_, h6⟩
        · refine (h.obj i l ob h1 h5).carry hx hc (fun k hk => ?_)
          exact hst.block k (mb_lt h ⟨i, l, ob, h1, h5, hlv, hk⟩) (h6 k hk)
        · exact h6 hc
      · exact (hnew i l ob (by omega) h1 h2 hlv).1 hc
  · intro i j l m ob oc hij h1 h2 h3 h4 h5 h6 k h7 h8
    by_cases hi : i < loc.length
    · by_cases hj : j < loc.length
      · rw [nth_left' hi] at h1
        rw [nth_left' hj] at h2
        obtain ⟨o1, h9, h10⟩ := old i l ob h1 h3 h5
        obtain ⟨o2, h11, h12⟩ := old j m oc h2 h4 h6
        exact h.sep i j l m o1 o2 hij h1 h2 h9 h11 h10 h12 k h7 h8
      · rw [nth_left' hi] at h1
        obtain ⟨_, hb, _⟩ := hnew j m oc (by omega) h2 h4 h6
        obtain ⟨o1, h9, h10⟩ := old i l ob h1 h3 h5
        have hlt := mb_lt h ⟨i, l, o1, h1, h9, h10, h7⟩
        rcases hb k h8 with h11 | ⟨_, h11⟩
        · omega
        · exact h11 i l hi h1 ⟨ob, h3, h5⟩ h7
    · by_cases hj : j < loc.length
      · rw [nth_left' hj] at h2
        obtain ⟨_, hb, _⟩ := hnew i l ob (by omega) h1 h3 h5
        obtain ⟨o1, h9, h10⟩ := old j m oc h2 h4 h6
        have hlt := mb_lt h ⟨j, m, o1, h2, h9, h10, h8⟩
        rcases hb k h7 with h11 | ⟨_, h11⟩
        · omega
        · exact h11 j m hj h2 ⟨oc, h4, h6⟩ h8
      · obtain ⟨_, _, hb⟩ := hnew i l ob (by omega) h1 h3 h5
        exact hb j m oc (by omega) (fun e => hij e.symm) h2 h4 h6 k h7 h8

/-- Nothing of the machine's own has turned. -/
theorem Inv.idle (h : Inv A base loc hp w) (hst : Step (fun _ => False) w w') : After A base loc hp w loc hp w' := by
  have := h.go (fun _ => False) [] (hp' := hp) (by simp [h.len]) hst (fun _ _ hf => hf.elim) (fun i l ob h1 h2 h3 => .inl ⟨h2, fun _ _ hf => hf⟩)
    (fun i l ob hi h1 h2 h3 => by
      have := nth_lt h2
      have := h.len
      omega)
  simpa using this

/-- A new block. -/
theorem Inv.new (h : Inv A base loc hp w) (l : Loc) (ob : Ob) (hst : Step (fun _ => False) w w') (hb : ∀ k, l.blk = some k → w.heap.size ≤ k)
    (ho : Carry (okk A base loc hp) (okk A base (loc ++ [l]) (hp ++ [ob])) w w' → ObAt base (loc ++ [l]) (okk A base (loc ++ [l]) (hp ++ [ob])) w' l ob) :
    After A base loc hp w (loc ++ [l]) (hp ++ [ob]) w' := by
  refine h.go (fun _ => False) [l] (by simp [h.len]) hst (fun _ _ hf => hf.elim) ?_ ?_
  · intro i l' ob' h1 h2 h3
    rw [nth_left' (by rw [← h.len]; exact nth_lt h1)] at h2
    exact .inl ⟨h2, fun _ _ hf => hf⟩
  · intro i l' ob' hi h1 h2 h3
    have hlt := nth_lt h1
    simp only [List.length_append, List.length_cons, List.length_nil] at hlt
    have hie : i = loc.length := by omega
    subst hie
    rw [nth_new] at h1
    rw [h.len, nth_new] at h2
    simp only [Option.some.injEq] at h1 h2
    subst h1 h2
    refine ⟨ho, fun k hk => .inl (hb k hk), fun j m oc hj hne h4 h5 => ?_⟩
    have hlt := nth_lt h4
    simp only [List.length_append, List.length_cons, List.length_nil] at hlt
    omega

/-- A block of the machine's own turns. -/
theorem Inv.put (h : Inv A base loc hp w) {r : Nat} {l : Loc} {ob ob' : Ob} (hl : nth loc r = some l) (hr : nth hp r = some ob) (hlv : ob.live = true)
    (hst : Step (fun k => l.blk = some k) w w')
    (ho : Carry (okk A base loc hp) (okk A base loc (setNth hp r ob')) w w' → ObAt base loc (okk A base loc (setNth hp r ob')) w' l ob') :
    After A base loc hp w loc (setNth hp r ob') w' := by
  have := h.go (fun k => l.blk = some k) [] (hp' := setNth hp r ob') (by simp [h.len, len_set]) hst (fun k _ hk => ⟨r, l, ob, hl, hr, hlv, hk⟩)
    (fun i l' oc h1 h2 h3 => by
      by_cases hi : r = i
      · subst hi
        rw [nth_set_self (nth_lt hr)] at h2
        rw [hl] at h1
        simp only [Option.some.injEq] at h1 h2
        subst h1 h2
        exact .inr ⟨⟨ob, hr, hlv⟩, fun hc => by simpa using ho (by simpa using hc)⟩
      · rw [nth_set_ne hi] at h2
        exact .inl ⟨h2, fun k hk => fun hk' => h.sep r i l l' ob oc hi hl h1 hr h2 hlv h3 k hk' hk⟩)
    (fun i l' oc hi h1 h2 h3 => by
      have h4 := nth_lt h2
      rw [len_set] at h4
      have := h.len
      omega)
  simpa using this
end
end Vm
/- The symbolic machine: the program's types as it knows them, and single operations. -/
namespace Vm
open Go

def isAggD : TypeDesc → Bool
  | .struct _ => true
  | .array _ _ => true
  | _ => false

def FieldsOk (P : Program) : List Field → List FI → Prop
  | [], [] => True
  | f :: fs, i :: is => (i.off = f.offset ∧ 0 < i.size ∧ ∃ inf d, P.info? f.type = some inf ∧ P.underlying f.type = some d ∧ inf.size = i.size ∧ isAggD d = i.agg) ∧ FieldsOk P fs is
  | _, _ => False

def DescOk (P : Program) (i : TI) : TypeDesc → Prop
  | .struct fs => FieldsOk P fs.toList i.fields ∧ i.kd = .st
  | .array n e => i.fields = [] ∧ i.alen = n ∧ i.elem = e ∧ i.kd = .arr
  | .slice e => i.elem = e ∧ i.kd = .sl
  | .int k => i.kd = .int k
  | .string => i.kd = .str
  | _ => i.kd = .oth

structure TIok (P : Program) (t : TypeId) (i : TI) : Prop where
  ex : ∃ (inf : TypeInfo) (d : TypeDesc) (z : Value), P.info? t = some inf ∧ P.underlying t = some d ∧ inf.size = i.size ∧ inf.bytes = i.bytes ∧ isAggD d = i.agg ∧
    inf.zero = some z ∧ (∀ loc ok w, RVs loc ok w i.zero z.cells.toList) ∧ (∀ u ∈ z.cells.toList, u.oneCell' = true) ∧ z.cells.size = i.size ∧ i.ty.size = i.size ∧ DescOk P i d

/-! ### the same as a look that the kernel can take -/
def zero1 : AV → Value → Bool
  | .bk b, .bool c => b == c
  | .int k n, .int j m => decide (k = j) && decide (n = m)
  | .str s, .string u => decide (s.data.toList = u.data.toList)
  | .nils, .slice none 0 0 => true
  | .nilp, .pointer none => true
  | .undef, v => v.oneCell'
  | _, _ => false
def zeroL : List AV → List Value → Bool
  | [], [] => true
  | a :: aq, v :: vs => zero1 a v && zeroL aq vs
  | _, _ => false
def fieldsB (P : Program) : List Field → List FI → Bool
  | [], [] => true
  | f :: fs, i :: is => (Nat.beq i.off f.offset && Nat.blt 0 i.size && match P.info? f.type, P.underlying f.type with
    | some inf, some d => Nat.beq inf.size i.size && (isAggD d == i.agg)
    | _, _ => false) && fieldsB P fs is
  | _, _ => false
def kdB : KD → KD → Bool
  | .int k, .int j => decide (k = j)
  | .str, .str => true
  | .sl, .sl => true
  | .arr, .arr => true
  | .st, .st => true
  | .oth, .oth => true
  | _, _ => false
def descB (P : Program) (i : TI) : TypeDesc → Bool
  | .struct fs => fieldsB P fs.toList i.fields && kdB i.kd .st
  | .array n e => i.fields.isEmpty && Nat.beq i.alen n && Nat.beq i.elem e && kdB i.kd .arr
  | .slice e => Nat.beq i.elem e && kdB i.kd .sl
  | .int k => kdB i.kd (.int k)
  | .string => kdB i.kd .str
  | _ => kdB i.kd .oth
def tiB (P : Program) (t : TypeId) (i : TI) : Bool :=
  match P.info? t, P.underlying t with
  | some inf, some d => match inf.zero with
    | some z => Nat.beq inf.size i.size && Nat.beq inf.bytes i.bytes && (isAggD d == i.agg) && zeroL i.zero z.cells.toList && Nat.beq z.cells.size i.size && Nat.beq i.ty.size i.size && descB P i d
    | none => false
  | _, _ => false
def tisB (P : Program) : List (Nat × TI) → Bool
  | [] => true
  | p :: r => tiB P p.1 p.2 && tisB P r

theorem kdB_ok {a b : KD} (h : kdB a b = true) : a = b := by
  cases a <;> cases b <;> simp_all [kdB]
theorem zero1_ok {a : AV} {v : Value} (h : zero1 a v = true) : (∀ loc ok w, RV loc ok w a v) ∧ v.oneCell' = true := by
  unfold zero1 at h
  split at h
  · simp only [beq_iff_eq] at h; subst h; exact ⟨fun _ _ _ => .bk _, rfl⟩
  · simp only [Bool.and_eq_true, decide_eq_true_eq] at h; obtain ⟨rfl, rfl⟩ := h; exact ⟨fun _ _ _ => .int _ _, rfl⟩
  · rename_i s u
    simp only [decide_eq_true_eq] at h
    have : s = u := by
      cases s; cases u
      simp only [ByteArray.mk.injEq]
      exact Array.toList_inj.1 h
    subst this; exact ⟨fun _ _ _ => .str _, rfl⟩
  · exact ⟨fun _ _ _ => .nils, rfl⟩
  · exact ⟨fun _ _ _ => .nilp, rfl⟩
  · exact ⟨fun _ _ _ => .undef _, h⟩
  · cases h
theorem zeroL_ok : ∀ {aq : List AV} {vs : List Value}, zeroL aq vs = true → (∀ loc ok w, RVs loc ok w aq vs) ∧ ∀ u ∈ vs, u.oneCell' = true
  | [], [], _ => ⟨fun _ _ _ => .nil, fun u hu => by cases hu⟩
  | a :: aq, v :: vs, h => by
    simp only [zeroL, Bool.and_eq_true] at h
    have h1 := zero1_ok h.1
    have h2 := zeroL_ok h.2
    refine ⟨fun l o w => .cons (h1.1 l o w) (h2.1 l o w), fun u hu => ?_⟩
    rcases List.mem_cons.1 hu with rfl | hu
    · exact h1.2
    · exact h2.2 u hu
  | [], _ :: _, h => by simp [zeroL] at h
  | _ :: _, [], h => by simp [zeroL] at h
theorem fieldsB_ok {P : Program} : ∀ {fs : List Field} {is : List FI}, fieldsB P fs is = true → FieldsOk P fs is
  | [], [], _ => trivial
  | f :: fs, i :: is, h => by
    simp only [fieldsB, Bool.and_eq_true] at h
    obtain ⟨⟨⟨h1, h2⟩, h3⟩, h4⟩ := h
    refine ⟨⟨Nat.eq_of_beq_eq_true h1, ?_, ?_⟩, fieldsB_ok h4⟩
    · simp only [Nat.blt_eq] at h2; exact h2
    · split at h3
      · rename_i inf d e1 e2
        simp only [Bool.and_eq_true, beq_iff_eq] at h3
        exact ⟨inf, d, e1, e2, Nat.eq_of_beq_eq_true h3.1, h3.2⟩
      · cases h3
  | [], _ :: _, h => by simp [fieldsB] at h
  | _ :: _, [], h => by simp [fieldsB] at h
theorem descB_ok {P : Program} {i : TI} {d : TypeDesc} (h : descB P i d = true) : DescOk P i d := by
  unfold descB at h
  split at h
  · simp only [Bool.and_eq_true] at h; exact ⟨fieldsB_ok h.1, kdB_ok h.2⟩
  · simp only [Bool.and_eq_true] at h
    exact ⟨List.isEmpty_iff.1 h.1.1.1, Nat.eq_of_beq_eq_true h.1.1.2, Nat.eq_of_beq_eq_true h.1.2, kdB_ok h.2⟩
  · simp only [Bool.and_eq_true] at h; exact ⟨Nat.eq_of_beq_eq_true h.1, kdB_ok h.2⟩
  · exact kdB_ok h
  · exact kdB_ok h
  · rename_i h1 h2 h3 h4 h5
    have := kdB_ok h
    unfold DescOk
    split <;> simp_all
theorem tiB_ok {P : Program} {t : TypeId} {i : TI} (h : tiB P t i = true) : TIok P t i := by
  unfold tiB at h
  split at h
  · rename_i inf d e1 e2
    split at h
    · rename_i z e3
      simp only [Bool.and_eq_true, beq_iff_eq] at h
      obtain ⟨⟨⟨⟨⟨⟨h1, h2⟩, h3⟩, h4⟩, h5⟩, h6⟩, h7⟩ := h
      have hz := zeroL_ok h4
      exact ⟨inf, d, z, e1, e2, Nat.eq_of_beq_eq_true h1, Nat.eq_of_beq_eq_true h2, h3, e3, hz.1, hz.2, Nat.eq_of_beq_eq_true h5, Nat.eq_of_beq_eq_true h6, descB_ok h7⟩
    · cases h
  · cases h
theorem look_mem {α : Type} : ∀ {l : List (Nat × α)} {n : Nat} {a : α}, look n l = some a → (n, a) ∈ l
  | [], _, _, h => by simp [look] at h
  | (m, b) :: r, n, a, h => by
    simp only [look] at h
    split at h
    · rename_i e
      simp only [Option.some.injEq] at h
      rw [Nat.eq_of_beq_eq_true e, h]
      exact List.mem_cons_self
    · exact List.mem_cons_of_mem _ (look_mem h)
theorem tisB_ok {P : Program} {l : List (Nat × TI)} (h : tisB P l = true) : ∀ t i, look t l = some i → TIok P t i := by
  intro t i hl
  have hm := look_mem hl
  clear hl
  induction l with
  | nil => cases hm
  | cons p r ih =>
    simp only [tisB, Bool.and_eq_true] at h
    rcases List.mem_cons.1 hm with rfl | hm
    · exact tiB_ok h.1
    · exact ih h.2 hm

/-! ### runs of the model's small steps -/
section
variable {P : Program} {t : TypeId} {i : TI} {w : World}
theorem TIok.size (h : TIok P t i) (w : World) : (Go.sizeOf t).run P w = .ok i.size w := by
  obtain ⟨inf, d, z, h1, h2, h3, _⟩ := h.ex
  simp [Go.sizeOf, typeInfo, h1, h3]
theorem TIok.isAgg (h : TIok P t i) (w : World) : (isAgg t).run P w = .ok i.agg w := by
  obtain ⟨inf, d, z, h1, h2, h3, h4, h5, _⟩ := h.ex
  unfold Go.isAgg
  rw [Sem.run_bind, run_underlying h2 w]
  cases d <;> simp_all [isAggD]
theorem TIok.slice (h : TIok P t i) (hk : i.kd = .sl) : P.underlying t = some (.slice i.elem) := by
  obtain ⟨inf, d, z, h1, h2, h3, h4, h5, h6, h7, h8, h9, h10, h11⟩ := h.ex
  cases d <;> simp only [DescOk, hk, reduceCtorEq, and_false] at h11
  rw [h2, h11.1]
theorem isAgg_run {d : TypeDesc} (h2 : P.underlying t = some d) (w : World) : (Go.isAgg t).run P w = .ok (isAggD d) w := by
  unfold Go.isAgg
  rw [Sem.run_bind, run_underlying h2 w]
  cases d <;> simp [isAggD]
theorem TIok.zero (h : TIok P t i) (w : World) : ∃ z, (zeroValue t).run P w = .ok z w ∧ (∀ loc ok w, RVs loc ok w i.zero z.cells.toList) ∧ (∀ u ∈ z.cells.toList, u.oneCell' = true) ∧ z.cells.size = i.size := by
  obtain ⟨inf, d, z, h1, h2, h3, h4, h5, h6, h7, h8, h9, _⟩ := h.ex
  exact ⟨z, by simp [zeroValue, typeInfo, h1, h6], h7, h8, h9⟩

theorem run_loadVar_agg (h : TIok P t i) (ha : i.agg = true) {b o : Nat} {cs : List Value} (hl : cs.length = i.size) (hc : w.rangeAt b o cs) :
    (loadVar t ⟨b, o, none⟩).run P w = .ok (.agg cs.toArray) w := by
  have h1 := h.isAgg w
  have h2 := h.size w
  have h3 : (loadCells ⟨b, o, none⟩ cs.length).run P w = .ok cs.toArray w :=
    run_loadCells_list (P := P) w ⟨b, o, none⟩ cs (fun j v hv => by rw [Addr.add_mid]; exact hc j v hv)
  rw [hl] at h3
  simp [loadVar, Sem.run_bind, h1, ha, h2, h3]
theorem run_loadVar_one (h : TIok P t i) (ha : i.agg = false) {b o : Nat} {u : Value} (hc : w.cell? ⟨b, o, none⟩ = some u) :
    (loadVar t ⟨b, o, none⟩).run P w = .ok u w := by
  have h1 := h.isAgg w
  simp [loadVar, Sem.run_bind, h1, ha, load, Sem.run, hc]
theorem run_storeVar (h : TIok P t i) {b o : Nat} {v : Value} (hl : v.cells.size = i.size) (h1 : ∀ u ∈ v.cells.toList, u.oneCell' = true) (ht : w.there b o i.size) :
    (storeVar t ⟨b, o, none⟩ v).run P w = .ok () (w.setCells b o v.cells.toList) := by
  have h2 := h.size w
  have := run_storeCells_cells (P := P) b o v.cells.toList 0 w (fun j hj => by simpa using (ht j (by simpa [← hl] using hj)).1) (fun j hj => by simpa using (ht j (by simpa [← hl] using hj)).2) h1
  simp only [Nat.add_zero] at this
  simp [storeVar, Sem.run_bind, h2, hl, this]
end

/-! ### what an operation comes to -/
def OpGo (P : Program) (o : Oper) (a : Act) (w : World) (R : Value → World → Prop) : Prop :=
  (∃ u w', (execOp a.eval o).run P w = .ok (.value u) w' ∧ R u w') ∨
  (∃ w', (execOp a.eval o).run P w = .ok .skip w' ∧ R Go.undef w') ∨
  (∃ f args w', (execOp a.eval o).run P w = .ok (.enter f args) w' ∧ Calls P f args w' (fun e w'' => ∃ u, e = .returned u ∧ R u w''))

theorem OpGo.wp {P : Program} {o : Oper} {a : Act} {w : World} {R : Value → World → Prop} (h : OpGo P o a w R) {next : Act → World → Prop} {Q : Exit → Act → World → Prop}
    (hn : ∀ u w', R u w' → next (a.put o.dst u) w') : o.wp P a w next Q := by
  unfold Oper.wp
  rcases h with ⟨u, w', h1, h2⟩ | ⟨w', h1, h2⟩ | ⟨f, args, w', h1, h2⟩
  · rw [h1]; exact hn _ _ h2
  · rw [h1]; exact hn _ _ h2
  · rw [h1]
    exact Calls.mono h2 (fun e w'' he => by
      obtain ⟨u, rfl, hr⟩ := he
      exact hn _ _ hr)

theorem OpGo.mono {P : Program} {o : Oper} {a : Act} {w : World} {R R' : Value → World → Prop} (h : OpGo P o a w R) (hr : ∀ u w', R u w' → R' u w') : OpGo P o a w R' := by
  rcases h with ⟨u, w', h1, h2⟩ | ⟨w', h1, h2⟩ | ⟨f, args, w', h1, h2⟩
  · exact .inl ⟨u, w', h1, hr _ _ h2⟩
  · exact .inr (.inl ⟨w', h1, hr _ _ h2⟩)
  · exact .inr (.inr ⟨f, args, w', h1, Calls.mono h2 (fun e w'' ⟨u, he, hh⟩ => ⟨u, he, hr _ _ hh⟩)⟩)

/-! ### trees -/
namespace T
variable {α β : Type}
theorem run_bind : ∀ (x : T α) (f : α → T β), (x.bind f).run = x.run.bind (fun a => (f a).run)
  | .ret a, f => rfl
  | .fail, f => rfl
  | .ite c x y, f => by
    simp only [bind, run, run_bind x f, run_bind y f]
    cases c <;> rfl
  | .call o k, f => by
    simp only [bind, run, Option.bind_assoc]
    congr 1
    funext b
    exact run_bind (k b) f
  | .alt (.inl b) k l, f => run_bind (k b) f
  | .alt (.inr c) k l, f => run_bind (l c) f
theorem run_tst (k c : Bool) (x y : T α) : (tst k c x y).run = bif c then x.run else y.run := by
  cases k <;> cases c <;> rfl
theorem run_some_bind {x : T α} {f : α → T β} {b : β} (h : (x.bind f).run = some b) : ∃ a, x.run = some a ∧ (f a).run = some b := by
  rw [run_bind] at h
  exact Option.bind_eq_some_iff.1 h
theorem run_tst_fail {k c : Bool} {x : T α} {a : α} (h : (tst k c x .fail).run = some a) : c = true ∧ x.run = some a := by
  rw [run_tst] at h
  cases c
  · cases h
  · exact ⟨rfl, h⟩
theorem run_fail_tst {k c : Bool} {x : T α} {a : α} (h : (tst k c .fail x).run = some a) : c = false ∧ x.run = some a := by
  rw [run_tst] at h
  cases c
  · exact ⟨rfl, h⟩
  · cases h
theorem run_ite_fail {c : Bool} {x : T α} {a : α} (h : (T.ite c x .fail).run = some a) : c = true ∧ x.run = some a := by
  cases c
  · cases h
  · exact ⟨rfl, h⟩
end T
end Vm
/- The symbolic machine: operations on plain values. -/
namespace Vm
open Go
set_option linter.unusedVariables false
set_option linter.unusedSimpArgs false

theorem beq_bytes (a b : ByteArray) : (a.toList == b.toList) = (a == b) := (beq_toListBytes a b).symm

theorem bits2_and {P : Program} {k : IntKind} {a b : Int} {w : World} : (Op.intBits .and k a b).run P w = .ok (.int k (bits2 .and k a b)) w := rfl
theorem bits2_or {P : Program} {k : IntKind} {a b : Int} {w : World} : (Op.intBits .or k a b).run P w = .ok (.int k (bits2 .or k a b)) w := rfl
theorem bits2_xor {P : Program} {k : IntKind} {a b : Int} {w : World} : (Op.intBits .xor k a b).run P w = .ok (.int k (bits2 .xor k a b)) w := rfl
theorem bits2_andNot {P : Program} {k : IntKind} {a b : Int} {w : World} : (Op.intBits .andNot k a b).run P w = .ok (.int k (bits2 .andNot k a b)) w := rfl

section
variable {P : Program} {loc : List Loc} {ok : Nat → Prop} {w : World}

/-- No nil and no struct: nothing stands in an equality's way. -/
def plainV : Value → Bool
  | .int _ _ => true
  | .bool _ => true
  | .string _ => true
  | _ => false

theorem run_eqGuard {op : BinOp} {t : TypeId} {x y : Operand} {u v : Value} (hu : plainV u = true) : (eqGuard op t x y u v).run P w = .ok () w := by
  unfold eqGuard
  cases u <;> simp_all [plainV] <;> cases op <;> simp

theorem int_inj {k : IntKind} {n : Int} {u : Value} (h : RV loc ok w (.int k n) u) : u = .int k n := by cases h; rfl
theorem str_inj {s : ByteArray} {u : Value} (h : RV loc ok w (.str s) u) : u = .string s := by cases h; rfl
theorem bool_inj {a : AV} {b : Bool} {u : Value} (hb : boolOf a = some b) (h : RV loc ok w a u) : u = .bool b := by
  cases h <;> simp_all [boolOf]

theorem run_equal_bool {t : TypeId} {a b : Bool} (h : P.underlying t = some .bool) : (Op.equal t (.bool a) (.bool b)).run P w = .ok (a == b) w := by
  unfold Op.equal Op.maxDepth
  exact run_equalIn_bool w 9999 t a b h

theorem evBin_sound {op : BinOp} {yk bT : Bool} {x y v : AV} (h : (evBin op yk bT x y).run = some v) {u1 u2 : Value} (h1 : RV loc ok w x u1) (h2 : RV loc ok w y u2)
    (xT : TypeId) (hb : bT = true → P.underlying xT = some .bool) :
    plainV u1 = true ∧ ∃ u, (binOp op xT u1 u2).run P w = .ok u w ∧ RV loc ok w v u := by
  unfold evBin at h
  split at h
  · cases h1; cases h2
    obtain ⟨hc, h⟩ := T.run_fail_tst h
    simp only [T.run, Option.some.injEq] at h
    subst h
    simp only [decide_eq_false_iff_not] at hc
    exact ⟨rfl, _, by simp [binOp, Op.shift, hc, shl], .int _ _⟩
  · cases h1; cases h2
    obtain ⟨hc, h⟩ := T.run_fail_tst h
    simp only [T.run, Option.some.injEq] at h
    subst h
    simp only [decide_eq_false_iff_not] at hc
    exact ⟨rfl, _, by simp [binOp, Op.shift, hc, shr], .int _ _⟩
  · rename_i k a k' b hs1 hs2
    cases h1; cases h2
    refine ⟨rfl, ?_⟩
    split at h
    · rename_i hk
      subst hk
      split at h
      all_goals first
        | (obtain ⟨hc, h⟩ := T.run_fail_tst h
           simp only [T.run, Option.some.injEq] at h
           subst h
           simp only [decide_eq_false_iff_not] at hc
           refine ⟨_, ?_, .int _ _⟩
           simp [binOp, Op.intDiv, hc]; done)
        | (simp only [T.run, Option.some.injEq] at h
           subst h
           refine ⟨_, ?_, .int _ _⟩
           simp only [binOp, if_true, ne_eq, not_true_eq_false, if_false]
           first | rfl | exact bits2_and | exact bits2_or | exact bits2_xor | exact bits2_andNot)
        | (simp only [T.run, Option.some.injEq] at h
           subst h
           refine ⟨_, ?_, .bool _⟩
           simp only [binOp, if_true, ne_eq, not_true_eq_false, if_false]
           rfl)
        | (simp [T.run] at h; done)
    · simp [T.run] at h
  · cases h1; cases h2
    obtain ⟨hc, h⟩ := T.run_ite_fail h
    simp only [T.run, Option.some.injEq] at h
    subst h
    refine ⟨rfl, _, ?_, .str _⟩
    have hc := of_decide_eq_true hc
    unfold catLimit at hc
    simp only [binOp, Op.stringOp]
    rw [if_neg]
    · rfl
    · simp only [IntKind.max, IntKind.signed, IntKind.bits, if_true]
      omega
  · cases h1; cases h2
    simp only [T.run, Option.some.injEq] at h
    subst h
    refine ⟨rfl, _, ?_, .bool _⟩
    simp only [binOp, Op.stringOp, beq_bytes]
    rfl
  · cases h1; cases h2
    simp only [T.run, Option.some.injEq] at h
    subst h
    refine ⟨rfl, _, ?_, .bool _⟩
    simp only [binOp, Op.stringOp, beq_bytes]
    rfl
  · split at h
    · rename_i p q hp hq
      have hb' := hb rfl
      simp only [T.run, Option.some.injEq] at h
      subst h
      have e1 := bool_inj hp h1
      have e2 := bool_inj hq h2
      subst e1 e2
      refine ⟨rfl, _, ?_, .bool _⟩
      simp [binOp, run_equal_bool hb']
    · simp [T.run] at h
  · split at h
    · rename_i p q hp hq
      have hb' := hb rfl
      simp only [T.run, Option.some.injEq] at h
      subst h
      have e1 := bool_inj hp h1
      have e2 := bool_inj hq h2
      subst e1 e2
      refine ⟨rfl, _, ?_, .bool _⟩
      simp [binOp, run_equal_bool hb']
    · simp [T.run] at h
  · simp [T.run] at h

theorem evUn_sound {op : UnOp} {x v : AV} (h : (evUn op x).run = some v) {u : Value} (h1 : RV loc ok w x u) :
    ∃ u', (Op.unary op u).run P w = .ok u' w ∧ RV loc ok w v u' := by
  unfold evUn at h
  split at h
  · cases h1; simp only [T.run, Option.some.injEq] at h; subst h; exact ⟨_, rfl, .bk _⟩
  · cases h1; simp only [T.run, Option.some.injEq] at h; subst h; exact ⟨_, rfl, .bool _⟩
  · cases h1; simp only [T.run, Option.some.injEq] at h; subst h; exact ⟨_, rfl, .int _ _⟩
  · cases h1; simp only [T.run, Option.some.injEq] at h; subst h; exact ⟨_, rfl, .int _ _⟩
  · simp [T.run] at h
end
end Vm
/- The symbolic machine: cells and data. -/
namespace Vm
open Go
set_option linter.unusedVariables false
set_option linter.unusedSimpArgs false

section
variable {loc : List Loc} {ok : Nat → Prop} {w : World}
theorem RVs.len : ∀ {aq : List AV} {vs : List Value}, RVs loc ok w aq vs → aq.length = vs.length
  | _, _, .nil => rfl
  | _, _, .cons _ h => by simp [h.len]
theorem RVs.append : ∀ {aq bs : List AV} {vs us : List Value}, RVs loc ok w aq vs → RVs loc ok w bs us → RVs loc ok w (aq ++ bs) (vs ++ us)
  | _, _, _, _, .nil, h => h
  | _, _, _, _, .cons h t, h' => .cons h (t.append h')
theorem RVs.split : ∀ {aq bs : List AV} {vs : List Value}, RVs loc ok w (aq ++ bs) vs → ∃ v1 v2, vs = v1 ++ v2 ∧ RVs loc ok w aq v1 ∧ RVs loc ok w bs v2
  | [], _, vs, h => ⟨[], vs, rfl, .nil, h⟩
  | a :: aq, bs, _, .cons h t => by
    obtain ⟨v1, v2, e, h1, h2⟩ := RVs.split (aq := aq) t
    exact ⟨_ :: v1, v2, by rw [e]; rfl, .cons h h1, h2⟩
theorem RVs.get : ∀ {aq : List AV} {vs : List Value}, RVs loc ok w aq vs → ∀ {j : Nat} {a : AV}, nth aq j = some a → ∃ v, vs[j]? = some v ∧ RV loc ok w a v
  | _, _, .cons h t, 0, a, hj => by simp only [nth, Option.some.injEq] at hj; subst hj; exact ⟨_, rfl, h⟩
  | _, _, .cons h t, j + 1, a, hj => by simp only [nth] at hj; simpa using t.get hj
theorem RVs.drop : ∀ {aq : List AV} {vs : List Value}, RVs loc ok w aq vs → ∀ n, RVs loc ok w (aq.drop n) (vs.drop n)
  | _, _, h, 0 => by simpa using h
  | _, _, .nil, n + 1 => by simpa using .nil
  | _, _, .cons h t, n + 1 => by simpa using t.drop n
theorem RVs.take : ∀ {aq : List AV} {vs : List Value}, RVs loc ok w aq vs → ∀ n, RVs loc ok w (aq.take n) (vs.take n)
  | _, _, h, 0 => by simpa using .nil
  | _, _, .nil, n + 1 => by simpa using .nil
  | _, _, .cons h t, n + 1 => by simpa using .cons h (t.take n)
theorem RVs.sliceL {aq : List AV} {vs : List Value} (h : RVs loc ok w aq vs) (o n : Nat) : RVs loc ok w (sliceL aq o n) ((vs.drop o).take n) := (h.drop o).take n
theorem RVs.putL {aq bs : List AV} {vs us : List Value} (h : RVs loc ok w aq vs) (h' : RVs loc ok w bs us) (o : Nat) : RVs loc ok w (putL aq o bs) (vs.take o ++ us ++ vs.drop (o + us.length)) := by
  unfold Vm.putL
  rw [h'.len]
  exact ((h.take o).append h').append (h.drop _)
theorem RVs.set : ∀ {aq : List AV} {vs : List Value}, RVs loc ok w aq vs → ∀ (n : Nat) {a : AV} {v : Value}, RV loc ok w a v → RVs loc ok w (setNth aq n a) (vs.set n v)
  | _, _, .nil, _, _, _, _ => by simpa [setNth] using .nil
  | _, _, .cons h t, 0, _, _, h' => by simpa [setNth] using .cons h' t
  | _, _, .cons h t, n + 1, _, _, h' => by simpa [setNth] using .cons h (t.set n h')
theorem RVs.rep {a : AV} {v : Value} (h : RV loc ok w a v) : ∀ n, RVs loc ok w (List.replicate n a) (List.replicate n v)
  | 0 => .nil
  | n + 1 => .cons h (RVs.rep h n)

theorem setNth_len {α : Type} (l : List α) (i : Nat) (b : α) : (setNth l i b).length = l.length := len_set l i b

/-- Data's cells, as the machine spells them. -/
theorem cellsOf_rv : ∀ {t : Ty} {x : t.den} {cs : List Value}, Enc ok w t x cs → RVs loc ok w (cellsOf t x) cs
  | .int k, x, _, h => by rw [show _ = _ from h]; exact .cons (.int _ _) .nil
  | .bool, x, _, h => by rw [show _ = _ from h]; exact .cons (.bool _) .nil
  | .str, x, _, h => by rw [show _ = _ from h]; exact .cons (.str _) .nil
  | .unit, x, _, h => by rw [show _ = _ from h]; exact .nil
  | .pair a b, x, _, ⟨c1, c2, e, h1, h2⟩ => by rw [e]; exact (cellsOf_rv h1).append (cellsOf_rv h2)
  | .sl e t, x, _, ⟨A, c, e', hl, h⟩ => by rw [e']; exact .cons (.sl (fun h => by cases h) hl h) .nil

theorem cellsOf_len : ∀ (t : Ty) (x : t.den), (cellsOf t x).length = t.size
  | .int _, _ => rfl
  | .bool, _ => rfl
  | .str, _ => rfl
  | .unit, _ => rfl
  | .pair a b, x => by simp [cellsOf, Ty.size, cellsOf_len a, cellsOf_len b]
  | .sl _ _, _ => rfl

theorem mkAV_rv : ∀ {t : Ty} {x : t.den} {u : Value}, Enc ok w t x u.cells.toList → (t.row = true → ∃ cs, u = .agg cs) → (t.row = false → ∀ cs, u ≠ .agg cs) → RV loc ok w (mkAV t x) u
  | .int k, x, u, h, _, hn => by
    cases u <;> simp_all [Enc, Value.cells, Ty.row]
    exact .int _ _
  | .bool, x, u, h, _, hn => by
    cases u <;> simp_all [Enc, Value.cells, Ty.row]
    exact .bool _
  | .str, x, u, h, _, hn => by
    cases u <;> simp_all [Enc, Value.cells, Ty.row]
    exact .str _
  | .unit, x, u, h, hr, _ => by
    obtain ⟨cs, rfl⟩ := hr rfl
    have : cs.toList = [] := h
    have hc : cs = [].toArray := by rw [← this]
    rw [hc]
    exact .agg .nil (fun u hu => by cases hu)
  | .pair a b, x, u, h, hr, _ => by
    obtain ⟨cs, rfl⟩ := hr rfl
    have hh : RVs loc ok w (cellsOf (.pair a b) x) cs.toList := cellsOf_rv h
    have : RV loc ok w (.agg (cellsOf (.pair a b) x)) (.agg cs.toList.toArray) := .agg hh h.one
    rw [Array.toArray_toList] at this
    exact this
  | .sl e t, x, u, h, _, hn => by
    obtain ⟨A, c, e', hl, hR⟩ := h
    cases u <;> simp_all [Value.cells, Ty.row]
    exact .sl (fun h => by cases h) hl hR

/-- A value and its cells. -/
theorem avCells_rv {a : AV} {u : Value} (h : RV loc ok w a u) {cs : List AV} (hc : avCells a = some cs) : RVs loc ok w cs u.cells.toList ∧ ∀ v ∈ u.cells.toList, v.oneCell' = true := by
  cases h <;> simp only [avCells, Option.some.injEq, reduceCtorEq] at hc <;> subst hc
  case agg h h1 => exact ⟨by simpa [Value.cells] using h, by simpa [Value.cells] using h1⟩
  all_goals refine ⟨.cons ?_ .nil, fun v hv => by simp [Value.cells] at hv; subst hv; rfl⟩
  · exact .bk _
  · exact .bool _
  · exact .int _ _
  · exact .str _
  · rename_i h1 h2 h3; exact .sl h1 h2 h3
  · exact .nils
  · rename_i h; exact .own h
  · rename_i h h0 h1 h2 hA hc; exact .sub h h0 h1 h2 hA hc
  · rename_i h; exact .ptr h
  · rename_i h h0 h1; exact .eptr h h0 h1
  · rename_i h hb hlt hc; exact .rptr h hb hlt hc
  · exact .nilp
  · rename_i ha hc; exact .fn ha hc
end
end Vm
/- The symbolic machine: cells read as data. -/
namespace Vm
open Go
set_option linter.unusedVariables false
set_option linter.unusedSimpArgs false

/-- Some blocks were given away; nothing else. -/
structure Kill (hp hp' : HP) : Prop where
  len : hp'.length = hp.length
  old : ∀ (i : Nat) (ob : Ob), nth hp' i = some ob → ob.live = true → nth hp i = some ob

theorem Kill.refl (hp : HP) : Kill hp hp := ⟨rfl, fun _ _ h _ => h⟩
theorem Kill.trans {a b c : HP} (h : Kill a b) (h' : Kill b c) : Kill a c := ⟨h'.len.trans h.len, fun i ob h1 h2 => h.old i ob (h'.old i ob h1 h2) h2⟩
theorem Kill.one (hp : HP) (r : Nat) : Kill hp (setNth hp r .dead) := by
  refine ⟨len_set _ _ _, fun i ob h1 h2 => ?_⟩
  by_cases e : r = i
  · subst e
    have hl := nth_lt h1
    rw [len_set] at hl
    rw [nth_set_self hl] at h1
    simp only [Option.some.injEq] at h1
    subst h1
    cases h2
  · rwa [nth_set_ne e] at h1

section
variable {Γ : Glob} {A : Dom Γ} {base : Nat} {loc : List Loc} {hp hp' : HP} {w : World}

theorem Kill.mb (h : Kill hp hp') {k : Nat} (hm : MB loc hp' k) : MB loc hp k := by
  obtain ⟨i, l, ob, h1, h2, h3, h4⟩ := hm
  exact ⟨i, l, ob, h1, h.old i ob h2 h3, h3, h4⟩
theorem Kill.okk (h : Kill hp hp') {k : Nat} (hk : okk A base loc hp k) : okk A base loc hp' k := ⟨hk.1, fun hm => hk.2 (h.mb hm)⟩
theorem Inv.kill (h : Inv A base loc hp w) (hk : Kill hp hp') : After A base loc hp w loc hp' w := by
  have := h.go (fun _ => False) [] (hp' := hp') (by simp [h.len, hk.len]) (Step.refl _ w) (fun _ _ hf => hf.elim)
    (fun i l ob h1 h2 h3 => .inl ⟨hk.old i ob h2 h3, fun _ _ hf => hf⟩)
    (fun i l ob hi h1 h2 h3 => by
      have := nth_lt h2
      have := h.len
      have := hk.len
      omega)
  simpa using this

theorem carry_ok {ok ok' : Nat → Prop} (h : ∀ k, ok k → ok' k) (w : World) : Carry ok ok' w w := ⟨Nat.le_refl _, fun k _ hk => h k hk, fun _ _ _ => rfl⟩

/-- A row of the machine's own, read. -/
theorem own_read {e : TypeId} {t : Ty} {v : Value} {xs : List t.den} {cs : List Value} {ok : Nat → Prop} (h : w.ownsRow base e t.size v xs.length cs) (he : EncL ok w t xs cs) :
    ∃ B c, v = .slice B xs.length c ∧ xs.length ≤ c ∧ ∀ ok' : Nat → Prop, (∀ k, ok k → ok' k) → (∀ g, v.ownBlock = some g → ok' g) →
      xs = [] ∨ ∃ g, B = some ⟨g, 0, none⟩ ∧ ok' g ∧ g < w.heap.size ∧ ∀ i x, xs[i]? = some x → ∃ ds, Enc ok' w t x ds ∧ ∀ j u, ds[j]? = some u → w.cell? ⟨g, i * t.size + j, none⟩ = some u := by
  rcases h.2 with ⟨rfl, h0⟩ | ⟨g, cap, cur, rfl, hg, hh, hcap, hm, hs, ht⟩
  · exact ⟨none, 0, by rw [h0], by omega, fun ok' _ _ => .inl (List.length_eq_zero_iff.1 h0)⟩
  · refine ⟨some ⟨g, 0, none⟩, cap, rfl, hcap, fun ok' h1 h2 => .inr ⟨g, rfl, h2 g rfl, (Array.getElem?_eq_some_iff.1 hh).1, fun i x hx => ?_⟩⟩
    obtain ⟨ds, h3, h4⟩ := he.get hx
    refine ⟨ds, h3.carry (carry_ok h1 w), fun j u hu => ?_⟩
    have := h.cells (g := g) rfl _ u (h4 j u hu)
    simpa [Addr.add_mid] using this

/-- Which blocks data may lead to, by how it was read. -/
def okm (m : Mo) {Γ : Glob} (A : Dom Γ) (base : Nat) (loc : List Loc) (hp : HP) (k : Nat) : Prop :=
  match m with
  | .lend => True
  | _ => okk A base loc hp k

theorem okm_of {m : Mo} {k : Nat} (h : okk A base loc hp k) : okm m A base loc hp k := by cases m <;> first | exact h | exact trivial
theorem Kill.okm {m : Mo} (h : Kill hp hp') {k : Nat} (hk : okm m A base loc hp k) : okm m A base loc hp' k := by
  cases m
  · exact h.okk hk
  · exact hk
  · exact h.okk hk

theorem arrOf_some {t : Ty} {ob : Ob} {xs : List t.den} (h : arrOf t ob = some xs) : ∃ e, ob = .arr e t xs := by
  cases ob with
  | cells _ => simp [arrOf] at h
  | dead => simp [arrOf] at h
  | arr e t' ys =>
    simp only [arrOf] at h
    split at h
    · rename_i e'
      subst e'
      simp only [Option.some.injEq] at h
      subst h
      exact ⟨e, rfl⟩
    · cases h

theorem arrAt_some {m : Mo} {t : Ty} {r : Nat} {xs : List t.den} (h : arrAt m hp t r = some xs) : m ≠ .strict ∧ ∃ e, nth hp r = some (.arr e t xs) := by
  unfold arrAt at h
  cases m with
  | strict => cases h
  | lend =>
    refine ⟨by simp, ?_⟩
    dsimp only at h
    split at h
    · rename_i o ho
      obtain ⟨e, rfl⟩ := arrOf_some h
      exact ⟨e, ho⟩
    · cases h
  | give =>
    refine ⟨by simp, ?_⟩
    dsimp only at h
    split at h
    · rename_i o ho
      obtain ⟨e, rfl⟩ := arrOf_some h
      exact ⟨e, ho⟩
    · cases h

theorem gone_kill (m : Mo) (hp : HP) (r : Nat) : Kill hp (gone m hp r) := by
  cases m
  · exact Kill.refl _
  · exact Kill.refl _
  · exact Kill.one _ _

/-- The block of a row that was read is ok. -/
theorem gone_ok (hi : Inv A base loc hp w) {m : Mo} (hm : m ≠ .strict) {r : Nat} {size : Nat} {v : Value} {e : TypeId} {t : Ty} {xs : List t.den} (hl : nth loc r = some (.arr size v)) (hr : nth hp r = some (.arr e t xs))
    {g : Nat} (hg : v.ownBlock = some g) : okm m A base loc (gone m hp r) g := by
  have ho := hi.obj r _ _ hl hr
  obtain ⟨_, cs, h1, h2⟩ := ho
  have hb := (h1.lt g hg).1
  cases m with
  | strict => exact absurd rfl hm
  | lend => exact trivial
  | give =>
    refine ⟨.inr hb, ?_⟩
    rintro ⟨i, l, ob, h3, h4, h5, h6⟩
    have h7 := (Kill.one hp r).old i ob h4 h5
    by_cases e' : r = i
    · subst e'
      have hlt := nth_lt hr
      rw [show gone .give hp r = setNth hp r .dead from rfl, nth_set_self hlt] at h4
      simp only [Option.some.injEq] at h4
      subst h4
      cases h5
    · exact hi.sep r i _ l _ ob e' hl h3 hr h7 rfl h5 g hg h6

theorem slOf_sound (hi : Inv A base loc hp w) {m : Mo} {t : Ty} {a : AV} {v : Value} {xs : List t.den} (h : slOf m hp t a = some (xs, hp')) {ok0 : Nat → Prop}
    (h0 : ∀ k, ok0 k → okk A base loc hp k) (hv : RV loc ok0 w a v) :
    Kill hp hp' ∧ ∃ B c, v = .slice B xs.length c ∧ xs.length ≤ c ∧ RowAt (okm m A base loc hp') w t.size (Enc (okm m A base loc hp') w t) B xs := by
  unfold slOf at h
  split at h
  · split at h
    · rename_i e
      simp only [Option.some.injEq, Prod.mk.injEq] at h
      obtain ⟨h1, rfl⟩ := h
      subst e
      simp only at h1
      subst h1
      cases hv with
      | sl hc hl hR =>
        have hc' := carry_ok (w := w) (ok := ok0) (ok' := okm m A base loc hp) (fun k hk => okm_of (h0 k hk))
        exact ⟨Kill.refl _, _, _, rfl, hl, hR.carry hc' (fun _ _ hh => hh.carry hc')⟩
    · cases h
  · simp only [Option.some.injEq, Prod.mk.injEq] at h
    obtain ⟨rfl, rfl⟩ := h
    cases hv
    exact ⟨Kill.refl _, none, 0, rfl, Nat.le_refl _, .inl rfl⟩
  · rename_i r
    split at h
    · rename_i ys hys
      simp only [Option.some.injEq, Prod.mk.injEq] at h
      obtain ⟨rfl, rfl⟩ := h
      obtain ⟨hm, e, hr⟩ := arrAt_some hys
      cases hv with
      | own hl =>
        have ho := hi.obj r _ _ hl hr
        obtain ⟨hsz, cs, h1, h2⟩ := ho
        obtain ⟨B, c, h3, h4, h5⟩ := own_read h1 h2
        refine ⟨gone_kill m hp r, B, c, h3, h4, ?_⟩
        rcases h5 (okm m A base loc (gone m hp r)) (fun k hk => okm_of ((gone_kill m hp r).okk hk)) (fun g hg => gone_ok hi hm hl hr hg) with h6 | ⟨g, h6, h7, h8, h9⟩
        · exact .inl h6
        · exact .inr ⟨g, 0, h6, h7, h8, by simpa using h9⟩
    · cases h
  · rename_i r lo hi'
    split at h
    · rename_i ys hys
      simp only [Option.some.injEq, Prod.mk.injEq] at h
      obtain ⟨rfl, rfl⟩ := h
      obtain ⟨hm, e, hr⟩ := arrAt_some hys
      cases hv with
      | sub hl hlo h01 h02 hA hc =>
        have ho := hi.obj r _ _ hl hr
        obtain ⟨hsz, cs, h1, h2⟩ := ho
        obtain ⟨B, c, h3, h4, h5⟩ := own_read h1 h2
        simp only [Value.slice.injEq] at h3
        obtain ⟨rfl, hn, rfl⟩ := h3
        have hlen : ((ys.take hi'.toNat).drop lo.toNat).length = (hi' - lo).toNat := by
          rw [List.length_drop, List.length_take]
          omega
        refine ⟨gone_kill m hp r, _, _, by rw [hlen], by rw [hlen]; exact hc, ?_⟩
        by_cases hlt : lo < hi'
        · rcases h5 (okm m A base loc (gone m hp r)) (fun k hk => okm_of ((gone_kill m hp r).okk hk)) (fun g hg => gone_ok hi hm hl hr hg) with h6 | ⟨g, h6, h7, h8, h9⟩
          · subst h6
            simp at hn
            omega
          · rw [hA hlt, h6]
            refine .inr ⟨g, lo.toNat * t.size, by rw [hsz]; simp [Addr.add_mid], h7, h8, fun i x hx => ?_⟩
            have hx' : ys[lo.toNat + i]? = some x := by
              rw [List.getElem?_drop] at hx
              rw [List.getElem?_take] at hx
              split at hx
              · exact hx
              · cases hx
            obtain ⟨ds, h10, h11⟩ := h9 _ x hx'
            refine ⟨ds, h10, fun j u hu => ?_⟩
            rw [← h11 j u hu, Nat.add_mul]
        · left
          apply List.eq_nil_of_length_eq_zero
          rw [hlen]
          omega
    · cases h
  · cases h

theorem Enc.carry' {ok ok' : Nat → Prop} (h : ∀ k, ok k → ok' k) {t : Ty} {x : t.den} {cs : List Value} (he : Enc ok w t x cs) : Enc ok' w t x cs := he.carry (carry_ok h w)

theorem pack_sound {m : Mo} {ok0 : Nat → Prop} : ∀ (t : Ty) {hp hp' : HP} {aq rest : List AV} {vs : List Value} {x : t.den}, pack m t hp aq = some (x, rest, hp') → Inv A base loc hp w →
    (∀ k, ok0 k → okk A base loc hp k) → RVs loc ok0 w aq vs →
    Kill hp hp' ∧ ∃ cs vr, vs = cs ++ vr ∧ Enc (okm m A base loc hp') w t x cs ∧ RVs loc ok0 w rest vr
  | .int k, hp, hp', aq, rest, vs, x, h, hi, h0, hv => by
    cases aq with
    | nil => simp [pack] at h
    | cons a r =>
      cases a <;> try (simp [pack] at h; done)
      rename_i k' n
      simp only [pack] at h
      split at h
      · rename_i e
        simp only [Option.some.injEq, Prod.mk.injEq] at h
        obtain ⟨rfl, rfl, rfl⟩ := h
        subst e
        cases hv with
        | cons h1 h2 => cases h1; exact ⟨Kill.refl _, _, _, rfl, rfl, h2⟩
      · cases h
  | .bool, hp, hp', aq, rest, vs, x, h, hi, h0, hv => by
    cases aq with
    | nil => simp [pack] at h
    | cons a r =>
      cases a <;> try (simp [pack] at h; done)
      all_goals
        simp only [pack, Option.some.injEq, Prod.mk.injEq] at h
        obtain ⟨rfl, rfl, rfl⟩ := h
        cases hv with
        | cons h1 h2 => cases h1; exact ⟨Kill.refl _, _, _, rfl, rfl, h2⟩
  | .str, hp, hp', aq, rest, vs, x, h, hi, h0, hv => by
    cases aq with
    | nil => simp [pack] at h
    | cons a r =>
      cases a <;> try (simp [pack] at h; done)
      simp only [pack, Option.some.injEq, Prod.mk.injEq] at h
      obtain ⟨rfl, rfl, rfl⟩ := h
      cases hv with
      | cons h1 h2 => cases h1; exact ⟨Kill.refl _, _, _, rfl, rfl, h2⟩
  | .unit, hp, hp', aq, rest, vs, x, h, hi, h0, hv => by
    simp only [pack, Option.some.injEq, Prod.mk.injEq] at h
    obtain ⟨_, rfl, rfl⟩ := h
    exact ⟨Kill.refl _, [], vs, rfl, rfl, hv⟩
  | .pair a b, hp, hp', aq, rest, vs, x, h, hi, h0, hv => by
    simp only [pack] at h
    split at h
    · rename_i y r hp1 e1
      split at h
      · rename_i z r' hp2 e2
        simp only [Option.some.injEq, Prod.mk.injEq] at h
        obtain ⟨rfl, rfl, rfl⟩ := h
        obtain ⟨k1, c1, v1, rfl, h3, h4⟩ := pack_sound a e1 hi h0 hv
        have hi1 := (hi.kill k1).inv
        obtain ⟨k2, c2, v2, rfl, h5, h6⟩ := pack_sound b e2 hi1 (fun k hk => k1.okk (h0 k hk)) h4
        exact ⟨k1.trans k2, c1 ++ c2, v2, by rw [List.append_assoc], ⟨c1, c2, rfl, h3.carry' (fun k hk => k2.okm hk), h5⟩, h6⟩
      · cases h
    · cases h
  | .sl e t, hp, hp', aq, rest, vs, x, h, hi, h0, hv => by
    cases aq with
    | nil => simp [pack] at h
    | cons a r =>
      simp only [pack] at h
      split at h
      · rename_i xs hp1 e1
        simp only [Option.some.injEq, Prod.mk.injEq] at h
        obtain ⟨rfl, rfl, rfl⟩ := h
        cases hv with
        | cons h1 h2 =>
          obtain ⟨k1, B, c, rfl, hl, hR⟩ := slOf_sound hi e1 h0 h1
          exact ⟨k1, _, _, rfl, ⟨B, c, rfl, hl, hR⟩, h2⟩
      · cases h

theorem pack_strict : ∀ (t : Ty) {hp hp' : HP} {aq rest : List AV} {x : t.den}, pack .strict t hp aq = some (x, rest, hp') → hp' = hp := by
  intro t
  induction t with
  | int k => intro hp hp' aq rest x h; cases aq with
    | nil => simp [pack] at h
    | cons b r => cases b <;> simp [pack] at h <;> simp [h]
  | bool => intro hp hp' aq rest x h; cases aq with
    | nil => simp [pack] at h
    | cons b r => cases b <;> simp [pack] at h <;> simp [h]
  | str => intro hp hp' aq rest x h; cases aq with
    | nil => simp [pack] at h
    | cons b r => cases b <;> simp [pack] at h <;> simp [h]
  | unit => intro hp hp' aq rest x h; simp [pack] at h; simp [h]
  | pair a b iha ihb =>
    intro hp hp' aq rest x h
    simp only [pack] at h
    split at h
    · rename_i e1
      split at h
      · rename_i e2
        simp only [Option.some.injEq, Prod.mk.injEq] at h
        rw [← h.2.2, ihb e2, iha e1]
      · cases h
    · cases h
  | sl e t ih =>
    intro hp hp' aq rest x h
    cases aq with
    | nil => simp [pack] at h
    | cons b r =>
      simp only [pack] at h
      split at h
      · rename_i e1
        simp only [Option.some.injEq, Prod.mk.injEq] at h
        rw [← h.2.2]
        unfold slOf at e1
        split at e1
        · split at e1
          · simp only [Option.some.injEq, Prod.mk.injEq] at e1; exact e1.2.symm
          · cases e1
        · simp only [Option.some.injEq, Prod.mk.injEq] at e1; exact e1.2.symm
        · simp [arrAt] at e1
        · simp [arrAt] at e1
        · cases e1
      · cases h
theorem packAll_strict {t : Ty} {aq : List AV} {x : t.den} (h : packAll .strict hp t aq = some (x, hp')) : hp' = hp := by
  unfold packAll at h
  split at h
  · rename_i e1
    simp only [Option.some.injEq, Prod.mk.injEq] at h
    rw [← h.2]
    exact pack_strict t e1
  · cases h

theorem packAll_sound {m : Mo} {ok0 : Nat → Prop} {t : Ty} {aq : List AV} {vs : List Value} {x : t.den} (h : packAll m hp t aq = some (x, hp')) (hi : Inv A base loc hp w)
    (h0 : ∀ k, ok0 k → okk A base loc hp k) (hv : RVs loc ok0 w aq vs) : Kill hp hp' ∧ Enc (okm m A base loc hp') w t x vs := by
  unfold packAll at h
  split at h
  · rename_i y hp1 e
    simp only [Option.some.injEq, Prod.mk.injEq] at h
    obtain ⟨rfl, rfl⟩ := h
    obtain ⟨k1, cs, vr, rfl, h1, h2⟩ := pack_sound t e hi h0 hv
    cases h2
    exact ⟨k1, by simpa using h1⟩
  · cases h

theorem packElems_sound {ok0 : Nat → Prop} {t : Ty} : ∀ (n : Nat) {hp hp' : HP} {aq : List AV} {vs : List Value} {xs : List t.den}, packElems t t.size n hp aq = some (xs, hp') → Inv A base loc hp w →
    (∀ k, ok0 k → okk A base loc hp k) → RVs loc ok0 w aq vs → aq.length = n * t.size → Kill hp hp' ∧ xs.length = n ∧ EncL (okk A base loc hp') w t xs vs
  | 0, hp, hp', aq, vs, xs, h, hi, h0, hv, hl => by
    simp only [packElems, Option.some.injEq, Prod.mk.injEq] at h
    obtain ⟨rfl, rfl⟩ := h
    have : aq = [] := List.length_eq_zero_iff.1 (by simpa using hl)
    subst this
    cases hv
    exact ⟨Kill.refl _, rfl, rfl⟩
  | n + 1, hp, hp', aq, vs, xs, h, hi, h0, hv, hl => by
    simp only [packElems] at h
    split at h
    · rename_i x hp1 e1
      split at h
      · rename_i ys hp2 e2
        simp only [Option.some.injEq, Prod.mk.injEq] at h
        obtain ⟨rfl, rfl⟩ := h
        obtain ⟨k1, h1⟩ := packAll_sound e1 hi h0 (hv.take t.size)
        obtain ⟨k2, h2, h3⟩ := packElems_sound n e2 (hi.kill k1).inv (fun k hk => k1.okk (h0 k hk)) (hv.drop t.size) (by rw [List.length_drop, hl, Nat.succ_mul]; omega)
        exact ⟨k1.trans k2, by simp [h2], vs.take t.size, vs.drop t.size, by simp, h1.carry' (fun k hk => k2.okk hk), h3⟩
      · cases h
    · cases h
end
end Vm
/- The symbolic machine: operations on its blocks. -/
namespace Vm
open Go
set_option linter.unusedVariables false
set_option linter.unusedSimpArgs false

def Res {Γ : Glob} (A : Dom Γ) (base : Nat) (loc : List Loc) (hp : HP) (w : World) (v : AV) (hp' : HP) (u : Value) (w' : World) : Prop :=
  ∃ loc', RV loc' (okk A base loc' hp') w' v u ∧ After A base loc hp w loc' hp' w'

section
variable {P : Program} {Γ : Glob} {A : Dom Γ} {base : Nat} {loc : List Loc} {hp hp' : HP} {w w' : World} {a : Act} {o : Oper} {u : Value} {v : AV}

theorem Res.same (hi : Inv A base loc hp w) (h : RV loc (okk A base loc hp) w v u) : Res A base loc hp w v hp u w := ⟨loc, h, After.refl hi⟩

theorem run_v {s : Sem Value} (h : s.run P w = .ok u w') : (do pure (Next.value (← s)) : Sem Next).run P w = .ok (.value u) w' := by
  simp [Sem.run_bind, h]
theorem run_u {s : Sem Unit} (h : s.run P w = .ok () w') : (do s; pure Next.skip : Sem Next).run P w = .ok .skip w' := by
  simp [Sem.run_bind, h]

theorem OpGo.value {R : Value → World → Prop} (h : (execOp a.eval o).run P w = .ok (.value u) w') (hr : R u w') : OpGo P o a w R := .inl ⟨u, w', h, hr⟩

theorem RowAt.get {ok : Nat → Prop} {t : Ty} {B : Option Addr} {xs : List t.den} (h : RowAt ok w t.size (Enc ok w t) B xs) {i : Nat} {x : t.den} (hx : xs[i]? = some x) :
    ∃ b off cs, B = some ⟨b, off, none⟩ ∧ ok b ∧ b < w.heap.size ∧ Enc ok w t x cs ∧ ∀ j u, cs[j]? = some u → w.cell? ⟨b, off + i * t.size + j, none⟩ = some u := by
  rcases h with h | ⟨b, off, e, hok, hlt, h⟩
  · subst h; simp at hx
  · obtain ⟨cs, h1, h2⟩ := h i x hx
    exact ⟨b, off, cs, e, hok, hlt, h1, h2⟩

theorem alloc_old (w : World) (c : Obj) {k : Nat} (h : k < w.heap.size) : (w.alloc c).heap[k]? = w.heap[k]? := by
  show (w.heap.push c)[k]? = _
  rw [Array.getElem?_push, if_neg (by omega)]
theorem alloc_new (w : World) (c : Obj) : (w.alloc c).heap[w.heap.size]? = some c := by
  show (w.heap.push c)[w.heap.size]? = _
  simp
theorem alloc_size (w : World) (c : Obj) : (w.alloc c).heap.size = w.heap.size + 1 := by
  show (w.heap.push c).size = _
  simp
theorem alloc_step (w : World) (c : Obj) : Step (fun _ => False) w (w.alloc c) :=
  ⟨rfl, rfl, rfl, by rw [alloc_size]; omega, fun k hk _ => alloc_old w c hk⟩

/-- A variable of the machine's own. -/
theorem new_cells (hi : Inv A base loc hp w) {cs : List AV} {vs : Array Value} {t : TypeId} (h : RVs loc (okk A base loc hp) w cs vs.toList) (h1 : ∀ x ∈ vs.toList, x.oneCell' = true) :
    Res A base loc hp w (.ptr hp.length 0) (hp ++ [.cells cs]) (.pointer (some ⟨w.heap.size, 0, none⟩)) (w.alloc (.cells vs t)) := by
  have hn := hi.new (.rng w.heap.size 0) (.cells cs) (alloc_step w (.cells vs t)) (fun k hk => by simp only [Loc.blk, Option.some.injEq] at hk; omega) (fun hc => by
    refine ⟨by rw [alloc_size]; omega, fun j x hj => ?_⟩
    have h' := h.carry (Ext.app loc [.rng w.heap.size 0]) hc
    obtain ⟨y, hy, hyr⟩ := h'.get hj
    refine ⟨y, ?_, hyr, h1 y (List.mem_of_getElem? hy), ?_⟩
    · rw [cell_of_row _ _ _ _ _ _ (alloc_new w _)]
      simpa using hy
    · unfold World.frozen?
      rw [alloc_new]
      simp)
  refine ⟨_, ?_, hn⟩
  have : nth (loc ++ [Loc.rng w.heap.size 0]) hp.length = some (.rng w.heap.size 0) := by rw [← hi.len]; exact nth_new _ _
  simpa using RV.ptr (off := 0) this

/-- A row of the machine's own, just made. -/
theorem new_arr (hi : Inv A base loc hp w) {e : TypeId} {t : Ty} {xs : List t.den} {cs : List Value} {v : Value} (hst : Step (fun _ => False) w w') (ho : w'.ownsRow w.heap.size e t.size v xs.length cs)
    (he : EncL (okk A base loc hp) w t xs cs) : Res A base loc hp w (.own hp.length) (hp ++ [.arr e t xs]) v w' := by
  have hn := hi.new (.arr t.size v) (.arr e t xs) hst (fun k hk => (ho.lt k hk).1) (fun hc => by
    refine ⟨rfl, cs, ?_, he.carry hc⟩
    refine ⟨ho.1, ?_⟩
    rcases ho.2 with h | ⟨g, cap, cur, h1, h2, h3⟩
    · exact .inl h
    · exact .inr ⟨g, cap, cur, h1, Nat.le_trans hi.low h2, h3⟩)
  refine ⟨_, ?_, hn⟩
  have : nth (loc ++ [Loc.arr t.size v]) hp.length = some (.arr t.size v) := by rw [← hi.len]; exact nth_new _ _
  rcases ho.2 with ⟨rfl, _⟩ | ⟨g, cap, cur, rfl, _⟩
  · exact .own this
  · exact .own this

theorem cells_of (hi : Inv A base loc hp w) {r b o : Nat} {cs : List AV} (hl : nth loc r = some (.rng b o)) (hr : nth hp r = some (.cells cs)) : ∃ vs : List Value, RVs loc (okk A base loc hp) w cs vs ∧
    (∀ j u, vs[j]? = some u → w.cell? ⟨b, o + j, none⟩ = some u ∧ w.frozen? ⟨b, o + j, none⟩ = false) ∧ (∀ u ∈ vs, u.oneCell' = true) := by
  obtain ⟨_, h⟩ := hi.obj r _ _ hl hr
  suffices hs : ∀ (ds : List AV) (n : Nat), (∀ j x, nth ds j = some x → ∃ u, w.cell? ⟨b, o + (n + j), none⟩ = some u ∧ RV loc (okk A base loc hp) w x u ∧ u.oneCell' = true ∧ w.frozen? ⟨b, o + (n + j), none⟩ = false) →
      ∃ vs : List Value, RVs loc (okk A base loc hp) w ds vs ∧ (∀ j u, vs[j]? = some u → w.cell? ⟨b, o + (n + j), none⟩ = some u ∧ w.frozen? ⟨b, o + (n + j), none⟩ = false) ∧ (∀ u ∈ vs, u.oneCell' = true) by
    obtain ⟨vs, h1, h2, h3⟩ := hs cs 0 (fun j x hj => by simpa using h j x hj)
    exact ⟨vs, h1, fun j u hu => by simpa using h2 j u hu, h3⟩
  intro ds
  induction ds with
  | nil => exact fun n _ => ⟨[], .nil, fun j u hu => by simp at hu, fun u hu => by cases hu⟩
  | cons d ds ih =>
    intro n hn
    obtain ⟨u, h1, h2, h3, h4⟩ := hn 0 d rfl
    obtain ⟨vs, h5, h6, h7⟩ := ih (n + 1) (fun j x hj => by
      have := hn (j + 1) x (by simpa [nth] using hj)
      rwa [show n + (j + 1) = n + 1 + j from by omega] at this)
    refine ⟨u :: vs, .cons h2 h5, fun j y hy => ?_, fun y hy => ?_⟩
    · cases j with
      | zero =>
        simp only [List.getElem?_cons_zero, Option.some.injEq] at hy
        subst hy
        exact ⟨by simpa using h1, by simpa using h4⟩
      | succ j =>
        simp only [List.getElem?_cons_succ] at hy
        have := h6 j y hy
        rwa [show n + 1 + j = n + (j + 1) from by omega] at this
    · rcases List.mem_cons.1 hy with rfl | hy
      · exact h3
      · exact h7 y hy

theorem ofCells_rv {t : TypeId} {i : TI} {ok : Nat → Prop} (ht : TIok P t i) {cs : List AV} {vs : List Value} {b off : Nat} (h : RVs loc ok w cs vs) (hl : cs.length = i.size) (h1 : ∀ u ∈ vs, u.oneCell' = true)
    (hc : w.rangeAt b off vs) (hv : ofCells i.agg cs = some v) : ∃ u, (loadVar t ⟨b, off, none⟩).run P w = .ok u w ∧ RV loc ok w v u := by
  unfold ofCells at hv
  split at hv
  · rename_i ha
    simp only [Option.some.injEq] at hv
    subst hv
    exact ⟨_, run_loadVar_agg ht ha (by rw [← h.len, hl]) hc, .agg h h1⟩
  · rename_i x ha
    simp only [Option.some.injEq] at hv
    subst hv
    cases h with
    | cons h2 h3 =>
      cases h3
      exact ⟨_, run_loadVar_one ht ha (by simpa using hc 0 _ rfl), h2⟩
  · cases hv

theorem run_loadAt {t : TypeId} {p : Addr} (h : (loadVar t p).run P w = .ok u w) : (Instr.loadAt t (.pointer (some p))).run P w = .ok u w := by
  simp [Instr.loadAt, Instr.sureAddr, Sem.run_bind, h]
theorem run_storeAt {t : TypeId} {p : Addr} (h : (storeVar t p u).run P w = .ok () w') : (Instr.storeAt t (.pointer (some p)) u).run P w = .ok () w' := by
  simp [Instr.storeAt, Instr.sureAddr, Sem.run_bind, h]

/-- A read out of a variable of the machine's own. -/
theorem load_ptr (hi : Inv A base loc hp w) {t : TypeId} {i : TI} (ht : TIok P t i) {r off : Nat} {cs : List AV} (hr : nth hp r = some (.cells cs)) (hle : off + i.size ≤ cs.length)
    (hv : ofCells i.agg (sliceL cs off i.size) = some v) (hp1 : RV loc (okk A base loc hp) w (.ptr r off) u) : ∃ u', (Instr.loadAt t u).run P w = .ok u' w ∧ RV loc (okk A base loc hp) w v u' := by
  cases hp1 with
  | @ptr _ _ b o hl =>
    obtain ⟨vs, h1, h2, h3⟩ := cells_of hi hl hr
    obtain ⟨u', h4, h5⟩ := ofCells_rv (b := b) (off := o + off) ht (h1.sliceL off i.size) (by simp [sliceL]; omega) (fun u hu => h3 u (List.mem_of_mem_drop (List.mem_of_mem_take hu)))
      (fun j x hx => by
        have : vs[off + j]? = some x := by
          rw [List.getElem?_take] at hx
          split at hx
          · rw [List.getElem?_drop] at hx; exact hx
          · cases hx
        rw [Nat.add_assoc]
        exact (h2 _ _ this).1) hv
    exact ⟨u', run_loadAt h4, h5⟩

theorem load_rptr {ok : Nat → Prop} {t : TypeId} {i : TI} (ht : TIok P t i) {s : Ty} {x : s.den} (hsz : s.size = i.size) (hv : ofCells i.agg (cellsOf s x) = some v)
    (hp1 : RV loc ok w (.rptr s x) u) : ∃ u', (Instr.loadAt t u).run P w = .ok u' w ∧ RV loc ok w v u' := by
  cases hp1 with
  | rptr h hb hlt hc =>
    obtain ⟨u', h4, h5⟩ := ofCells_rv ht (cellsOf_rv h) (by rw [cellsOf_len, hsz]) h.one hc hv
    exact ⟨u', run_loadAt h4, h5⟩

/-- An element of a row of the machine's own. -/
theorem elem_of (hi : Inv A base loc hp w) {r size g n cap : Nat} {e : TypeId} {t : Ty} {xs : List t.den} (hl : nth loc r = some (.arr size (.slice (some ⟨g, 0, none⟩) n cap))) (hr : nth hp r = some (.arr e t xs)) :
    size = t.size ∧ n = xs.length ∧ ∃ cs, w.ownsRow base e t.size (.slice (some ⟨g, 0, none⟩) n cap) n cs ∧ EncL (okk A base loc hp) w t xs cs ∧
      ∀ i x, xs[i]? = some x → ∃ ds, Enc (okk A base loc hp) w t x ds ∧ (∀ j u, ds[j]? = some u → cs[i * t.size + j]? = some u) ∧ ∀ j u, ds[j]? = some u → w.cell? ⟨g, i * t.size + j, none⟩ = some u := by
  obtain ⟨h0, cs, h1, h2⟩ := hi.obj r _ _ hl hr
  have hn : n = xs.length := by
    rcases h1.2 with ⟨h3, _⟩ | ⟨_, _, _, h3, _⟩ <;> · cases h3; first | rfl | skip
  subst hn
  refine ⟨h0, rfl, cs, h1, h2, fun i x hx => ?_⟩
  obtain ⟨ds, h3, h4⟩ := h2.get hx
  refine ⟨ds, h3, h4, fun j u hu => ?_⟩
  have := h1.cells (g := g) rfl _ u (h4 j u hu)
  simpa [Addr.add_mid] using this

theorem getD_some {α : Type} {xs : List α} {n : Nat} (h : n < xs.length) (d : α) : xs[n]? = some (xs.getD n d) := by
  rw [List.getD_eq_getElem?_getD, List.getElem?_eq_getElem h]; rfl

theorem load_eptr (hi : Inv A base loc hp w) {t : TypeId} {i : TI} (ht : TIok P t i) {r off : Nat} {j : Int} {e : TypeId} {s : Ty} {xs : List s.den} (hr : nth hp r = some (.arr e s xs)) (hle : off + i.size ≤ s.size)
    (hv : ofCells i.agg (sliceL (cellsOf s (xs.getD j.toNat s.dflt)) off i.size) = some v) (hp1 : RV loc (okk A base loc hp) w (.eptr r j off) u) :
    ∃ u', (Instr.loadAt t u).run P w = .ok u' w ∧ RV loc (okk A base loc hp) w v u' := by
  cases hp1 with
  | eptr hl h0 h1 =>
    obtain ⟨hsz, hn, cs, _, _, h2⟩ := elem_of hi hl hr
    subst hn
    obtain ⟨ds, h3, _, h4⟩ := h2 j.toNat _ (getD_some (by omega) s.dflt)
    have h5 := (cellsOf_rv (loc := loc) h3).sliceL off i.size
    obtain ⟨u', h6, h7⟩ := ofCells_rv (b := _) (off := j.toNat * s.size + off) ht h5 (by simp [sliceL, cellsOf_len]; omega) (fun u hu => h3.one u (List.mem_of_mem_drop (List.mem_of_mem_take hu)))
      (fun k x hx => by
        have : ds[off + k]? = some x := by
          rw [List.getElem?_take] at hx
          split at hx
          · rw [List.getElem?_drop] at hx; exact hx
          · cases hx
        rw [Nat.add_assoc]
        exact h4 _ _ this) hv
    subst hsz
    exact ⟨u', run_loadAt h6, h7⟩
end
end Vm
/- The symbolic machine: stores. -/
namespace Vm
open Go
set_option linter.unusedVariables false
set_option linter.unusedSimpArgs false

theorem setCell_heap (w : World) (a : Addr) (v : Value) : (w.setCell a v).heap = w.heap.modify a.block fun
      | .cells c elem frozen => .cells (if a.spot.isSome then c else c.setIfInBounds a.off v) elem frozen
      | o => o := rfl

theorem setCells_step (b : Nat) : ∀ (vs : List Value) (o : Nat) (w : World), Step (fun k => some b = some k) w (w.setCells b o vs)
  | [], _, w => Step.refl _ w
  | v :: r, o, w => by
    have h1 : Step (fun k => some b = some k) w (w.setCell ⟨b, o, none⟩ v) :=
      ⟨rfl, rfl, rfl, by rw [setCell_heap]; simp, fun k hk hn => by
        rw [setCell_heap, Array.getElem?_modify, if_neg (fun e => hn (by rw [← e]))]⟩
    exact h1.trans (setCells_step b r (o + 1) _) (fun _ _ h => h)

theorem setCells_heap (b : Nat) : ∀ (vs : List Value) (o : Nat) (w : World) (cur : Array Value) (e : TypeId) (fz : Nat × Nat), w.heap[b]? = some (.cells cur e fz) →
    ∃ cur' : Array Value, (w.setCells b o vs).heap[b]? = some (.cells cur' e fz) ∧ cur'.size = cur.size ∧ ∀ j, cur'[j]? = if o ≤ j ∧ j < o + vs.length ∧ j < cur.size then vs[j - o]? else cur[j]?
  | [], o, w, cur, e, fz, h => ⟨cur, h, rfl, fun j => by rw [if_neg (by simp; omega)]⟩
  | v :: r, o, w, cur, e, fz, h => by
    have h1 : (w.setCell ⟨b, o, none⟩ v).heap[b]? = some (.cells (cur.setIfInBounds o v) e fz) := by
      rw [setCell_heap, Array.getElem?_modify, if_pos rfl, h]
      rfl
    obtain ⟨cur', h2, h3, h4⟩ := setCells_heap b r (o + 1) _ _ _ _ h1
    refine ⟨cur', h2, by rw [h3, Array.size_setIfInBounds], fun j => ?_⟩
    rw [h4, Array.size_setIfInBounds]
    by_cases hj : o = j
    · subst hj
      rw [if_neg (by omega)]
      by_cases hlt : o < cur.size
      · rw [if_pos ⟨Nat.le_refl _, by simp, hlt⟩]
        simp [hlt]
      · rw [if_neg (by omega)]
        simp [hlt]
    · rw [Array.getElem?_setIfInBounds_ne hj]
      by_cases hc : o + 1 ≤ j ∧ j < o + 1 + r.length ∧ j < cur.size
      · rw [if_pos hc, if_pos ⟨by omega, by simp; omega, hc.2.2⟩]
        rw [show j - o = (j - (o + 1)) + 1 from by omega, List.getElem?_cons_succ]
      · rw [if_neg hc, if_neg (by simp; omega)]

section
variable {P : Program} {Γ : Glob} {A : Dom Γ} {base : Nat} {loc : List Loc} {hp hp' : HP} {w w' : World} {a : Act} {o : Oper} {u : Value} {v : AV}

theorem nth_putL {l cs : List AV} {off j : Nat} (h : off + cs.length ≤ l.length) : nth (putL l off cs) j = if off ≤ j ∧ j < off + cs.length then nth cs (j - off) else nth l j := by
  unfold putL
  rw [nth_eq, nth_eq, nth_eq]
  by_cases h1 : j < off
  · rw [if_neg (by omega), List.append_assoc, List.getElem?_append_left (by rw [List.length_take]; omega), List.getElem?_take, if_pos h1]
  · by_cases h2 : j < off + cs.length
    · rw [if_pos ⟨by omega, h2⟩, List.append_assoc, List.getElem?_append_right (by rw [List.length_take]; omega), List.length_take,
        List.getElem?_append_left (by omega)]
      congr 1; omega
    · rw [if_neg (by omega), List.getElem?_append_right (by rw [List.length_append, List.length_take]; omega), List.getElem?_drop, List.length_append, List.length_take]
      congr 1; omega

/-- A variable of the machine's own is written. -/
theorem store_ptr (hi : Inv A base loc hp w) {t : TypeId} {i : TI} (ht : TIok P t i) {r off : Nat} {cs cv : List AV} (hr : nth hp r = some (.cells cs)) (hle : off + i.size ≤ cs.length)
    {u x : Value} (hx : RVs loc (okk A base loc hp) w cv x.cells.toList) (h1 : ∀ y ∈ x.cells.toList, y.oneCell' = true) (hl : cv.length = i.size)
    (hp1 : RV loc (okk A base loc hp) w (.ptr r off) u) : ∃ w', (Instr.storeAt t u x).run P w = .ok () w' ∧ Res A base loc hp w .nov (setNth hp r (.cells (putL cs off cv))) Go.undef w' := by
  cases hp1 with
  | @ptr _ _ b o' hlo =>
    obtain ⟨hlt, hob⟩ := hi.obj r _ _ hlo hr
    have hlx : x.cells.toList.length = i.size := by rw [← hx.len, hl]
    have hth : w.there b (o' + off) i.size := fun j hj => by
      obtain ⟨y, hy⟩ := nth_of_lt (l := cs) (i := off + j) (by omega)
      obtain ⟨z, h2, h3, h4, h5⟩ := hob _ _ hy
      rw [Nat.add_assoc]
      exact ⟨by rw [h2]; rfl, h5⟩
    refine ⟨_, run_storeAt (run_storeVar ht (by simpa using hlx) h1 hth), loc, .nov, ?_⟩
    refine hi.put hlo hr rfl ((setCells_step b x.cells.toList (o' + off) w).mono (fun k _ hk => hk)) (fun hc => ?_)
    refine ⟨Nat.lt_of_lt_of_le hlt (setCells_step b x.cells.toList (o' + off) w).size, fun j y hj => ?_⟩
    rw [nth_putL (by omega)] at hj
    by_cases hin : off ≤ j ∧ j < off + cv.length
    · rw [if_pos hin] at hj
      obtain ⟨z, h2, h3⟩ := (hx.carry (Ext.refl loc) hc).get hj
      obtain ⟨h4, h5⟩ := List.getElem?_eq_some_iff.1 h2
      refine ⟨z, ?_, h3, h1 z (List.mem_of_getElem? h2), ?_⟩
      · have := World.cell?_setCells_in b x.cells.toList (o' + off) w (fun j hj => (hth j (by omega)).1) (j - off) h4
        rw [show o' + off + (j - off) = o' + j from by omega] at this
        rw [this, h5]
      · rw [World.frozen?_setCells]
        have := (hth (j - off) (by omega)).2
        rwa [show o' + off + (j - off) = o' + j from by omega] at this
    · rw [if_neg hin] at hj
      obtain ⟨z, h2, h3, h4, h5⟩ := hob _ _ hj
      refine ⟨z, ?_, h3.carry (Ext.refl loc) hc, h4, by rw [World.frozen?_setCells]; exact h5⟩
      rw [World.cell?_setCells_out b _ _ _ _ (fun _ _ => by simp only; omega)]
      exact h2

theorem EncL.set {ok : Nat → Prop} {t : Ty} : ∀ {xs : List t.den} {cs : List Value}, EncL ok w t xs cs → ∀ {i : Nat} {y : t.den} {ds : List Value}, i < xs.length → Enc ok w t y ds →
    EncL ok w t (xs.set i y) (cs.take (i * t.size) ++ ds ++ cs.drop ((i + 1) * t.size))
  | [], _, _, i, y, ds, hi, _ => by simp at hi
  | x :: xs, _, ⟨c1, c2, e, h1, h2⟩, 0, y, ds, _, hy => by
    have hl := h1.len
    refine ⟨ds, c2, ?_, hy, h2⟩
    rw [e, Nat.zero_mul, List.take_zero, List.nil_append, Nat.zero_add, Nat.one_mul, ← hl, List.drop_left]
  | x :: xs, _, ⟨c1, c2, e, h1, h2⟩, i + 1, y, ds, hi, hy => by
    have hl := h1.len
    refine ⟨c1, _, ?_, h1, h2.set (i := i) (by simpa using hi) hy⟩
    rw [e]
    have e1 : (i + 1) * t.size = c1.length + i * t.size := by rw [hl, Nat.succ_mul]; omega
    have e2 : (i + 1 + 1) * t.size = c1.length + (i + 1) * t.size := by rw [hl, Nat.succ_mul (i + 1)]; omega
    rw [e1, e2, List.take_length_add_append, List.drop_length_add_append, List.append_assoc, List.append_assoc, List.append_assoc, e1]

/-- An element of a row of the machine's own is written. -/
theorem store_eptr (hi : Inv A base loc hp w) {t : TypeId} {i : TI} (ht : TIok P t i) {r off : Nat} {j : Int} {e : TypeId} {s : Ty} {xs : List s.den} (hr : nth hp r = some (.arr e s xs)) (hle : off + i.size ≤ s.size)
    {cv : List AV} {y : s.den} {hpx : HP} (hpk : packAll .strict hp s (putL (cellsOf s (xs.getD j.toNat s.dflt)) off cv) = some (y, hpx))
    {u x : Value} (hx : RVs loc (okk A base loc hp) w cv x.cells.toList) (h1 : ∀ y ∈ x.cells.toList, y.oneCell' = true) (hl : cv.length = i.size)
    (hp1 : RV loc (okk A base loc hp) w (.eptr r j off) u) : ∃ w', (Instr.storeAt t u x).run P w = .ok () w' ∧ Res A base loc hp w .nov (setNth hp r (.arr e s (xs.set j.toNat y))) Go.undef w' := by
  cases hp1 with
  | @eptr _ _ size g n cap _ hlo h0 hjn =>
    obtain ⟨hsz, hn, cs, hown, hec, hel⟩ := elem_of hi hlo hr
    subst hn
    have hlx : x.cells.toList.length = i.size := by rw [← hx.len, hl]
    have hjl : j.toNat < xs.length := by omega
    obtain ⟨ds, h3, h4, h5⟩ := hel j.toNat _ (getD_some hjl s.dflt)
    have hdl := h3.len
    obtain ⟨cap', cur, hcur⟩ : ∃ cap' cur, cap = cap' ∧ w.heap[g]? = some (.cells cur e (0, 0)) ∧ xs.length ≤ cap ∧ cap ≤ maxLen ∧ cur.size = cap * s.size ∧ cur.toList.take (xs.length * s.size) = cs ∧ base ≤ g := by
      rcases hown.2 with ⟨h6, _⟩ | ⟨g', cap', cur, h6, h7, h8, h9, h10, h11, h12⟩
      · cases h6
      · cases h6
        exact ⟨_, cur, rfl, h8, h9, h10, h11, h12, h7⟩
    obtain ⟨rfl, hh, hc1, hc2, hc3, hc4, hc5⟩ := hcur
    have hmul : (j.toNat + 1) * s.size ≤ xs.length * s.size := Nat.mul_le_mul_right _ hjl
    have hmul2 : xs.length * s.size ≤ cap * s.size := Nat.mul_le_mul_right _ hc1
    have hs1 : (j.toNat + 1) * s.size = j.toNat * s.size + s.size := Nat.succ_mul _ _
    have hth : w.there g (j.toNat * s.size + off) i.size := fun k hk => by
      obtain ⟨z, hz⟩ : ∃ z, ds[off + k]? = some z := ⟨_, List.getElem?_eq_getElem (by omega)⟩
      have := h5 _ _ hz
      rw [Nat.add_assoc]
      refine ⟨by rw [this]; rfl, ?_⟩
      unfold World.frozen?
      rw [hh]
      simp
    obtain ⟨hk, hpe⟩ := packAll_sound hpk hi (fun _ h => h) (((cellsOf_rv (loc := loc) h3).putL hx off))
    have hpe : Enc (okk A base loc hp) w s y (ds.take off ++ x.cells.toList ++ ds.drop (off + x.cells.toList.length)) := by
      refine hpe.carry' (fun k hk' => ?_)
      have : hpx = hp := packAll_strict hpk
      rw [this] at hk'
      exact hk'
    refine ⟨_, run_storeAt (run_storeVar ht (by simpa using hlx) h1 (by rw [hsz]; exact hth)), loc, .nov, ?_⟩
    refine hi.put hlo hr rfl ((setCells_step g x.cells.toList _ w).mono (fun k _ hk => hk)) (fun hc => ?_)
    refine ⟨hsz, _, ?_, ((hec.set hjl hpe).carry hc)⟩
    obtain ⟨cur', h6, h7, h8⟩ := setCells_heap g x.cells.toList (j.toNat * size + off) w cur e (0, 0) hh
    have hecl := hec.len
    refine ⟨?_, .inr ⟨g, cap, cur', by rw [List.length_set], hc5, h6, by rw [List.length_set]; exact hc1, hc2, by rw [h7, hc3], ?_⟩⟩
    · rw [List.length_set]
      simp only [List.length_append, List.length_take, List.length_drop]
      omega
    · rw [List.length_set]
      apply List.ext_getElem?
      intro k
      rw [List.getElem?_take, Array.getElem?_toList, h8, hsz]
      have hcs : ∀ m, m < xs.length * s.size → cs[m]? = cur[m]? := fun m hm => by
        rw [← hc4, List.getElem?_take, if_pos hm, Array.getElem?_toList]
      by_cases hk1 : k < xs.length * s.size
      · rw [if_pos hk1]
        by_cases hk2 : k < j.toNat * s.size
        · rw [if_neg (by omega), List.append_assoc, List.getElem?_append_left (by rw [List.length_take]; omega), List.getElem?_take, if_pos hk2, hcs k hk1]
        · by_cases hk3 : k < (j.toNat + 1) * s.size
          · rw [List.append_assoc, List.getElem?_append_right (by rw [List.length_take]; omega), List.length_take,
              List.getElem?_append_left (by simp only [List.length_append, List.length_take, List.length_drop]; omega)]
            have hmin : min (j.toNat * s.size) cs.length = j.toNat * s.size := by omega
            rw [hmin]
            by_cases hk4 : k < j.toNat * s.size + off
            · rw [if_neg (by omega), List.append_assoc, List.getElem?_append_left (by rw [List.length_take]; omega), List.getElem?_take, if_pos (by omega)]
              obtain ⟨z, hz⟩ : ∃ z, ds[k - j.toNat * s.size]? = some z := ⟨_, List.getElem?_eq_getElem (by omega)⟩
              have := h4 _ _ hz
              rw [show j.toNat * s.size + (k - j.toNat * s.size) = k from by omega, hcs k hk1] at this
              rw [hz, this]
            · by_cases hk5 : k < j.toNat * s.size + off + x.cells.toList.length
              · rw [if_pos ⟨by omega, hk5, by omega⟩, List.append_assoc, List.getElem?_append_right (by rw [List.length_take]; omega), List.length_take,
                  List.getElem?_append_left (by omega)]
                congr 1; omega
              · rw [if_neg (by omega), List.getElem?_append_right (by simp only [List.length_append, List.length_take]; omega), List.getElem?_drop]
                simp only [List.length_append, List.length_take]
                obtain ⟨z, hz⟩ : ∃ z, ds[k - j.toNat * s.size]? = some z := ⟨_, List.getElem?_eq_getElem (by omega)⟩
                have := h4 _ _ hz
                rw [show j.toNat * s.size + (k - j.toNat * s.size) = k from by omega, hcs k hk1] at this
                rw [this, ← hz]
                congr 1; omega
          · rw [if_neg (by omega), List.getElem?_append_right (by simp only [List.length_append, List.length_take, List.length_drop]; omega), List.getElem?_drop]
            simp only [List.length_append, List.length_take, List.length_drop]
            rw [← hcs k hk1]
            congr 1; omega
      · rw [if_neg hk1]
        symm
        apply List.getElem?_eq_none
        simp only [List.length_append, List.length_take, List.length_drop]
        omega
end
end Vm
/- The symbolic machine: rows that grow, and new ones. -/
namespace Vm
open Go
set_option linter.unusedVariables false
set_option linter.unusedSimpArgs false

section
variable {P : Program} {Γ : Glob} {A : Dom Γ} {base : Nat} {loc : List Loc} {hp hp' : HP} {w w' : World} {a : Act} {o : Oper} {u : Value} {v : AV}

theorem Step.of_grown {row : Option Nat} (h : w.grownBy w' row) : Step (fun k => row = some k) w w' :=
  ⟨h.os, h.tape, h.output, h.size, fun k hk hn => h.block k hk (fun e => hn e.symm)⟩

/-- A row of the machine's own goes on as another one. -/
theorem grow_arr (hi : Inv A base loc hp w) {r size : Nat} {v v' : Value} {e e' : TypeId} {t t' : Ty} {xs : List t.den} {ys : List t'.den} {cs : List Value} (hl : nth loc r = some (.arr size v)) (hr : nth hp r = some (.arr e t xs))
    (hst : Step (fun k => v.ownBlock = some k) w w') (ho : w'.ownsRow base e' t'.size v' ys.length cs) (hb : ∀ k, v'.ownBlock = some k → w.heap.size ≤ k ∨ v.ownBlock = some k)
    (he : EncL (okk A base loc hp) w t' ys cs) : Res A base loc hp w (.own hp.length) (setNth hp r .dead ++ [.arr e' t' ys]) v' w' := by
  have hlen : (setNth hp r Ob.dead).length = loc.length := by rw [len_set, hi.len]
  have hrl := nth_lt hl
  have hn := hi.go (fun k => v.ownBlock = some k) [.arr t'.size v'] (hp' := setNth hp r .dead ++ [.arr e' t' ys]) (by simp [len_set, hi.len]) hst
    (fun k _ hk => ⟨r, _, _, hl, hr, rfl, hk⟩)
    (fun i l ob' h1 h2 h3 => by
      have hil := nth_lt h1
      rw [nth_left' (by rw [hlen]; exact hil)] at h2
      by_cases e1 : r = i
      · subst e1
        rw [nth_set_self (by rw [← hi.len]; exact hil)] at h2
        simp only [Option.some.injEq] at h2
        subst h2
        cases h3
      · rw [nth_set_ne e1] at h2
        exact .inl ⟨h2, fun k hk hk' => hi.sep r i _ l _ ob' e1 hl h1 hr h2 rfl h3 k hk' hk⟩)
    (fun i l ob' hge h1 h2 h3 => by
      have hlt := nth_lt h1
      simp only [List.length_append, List.length_cons, List.length_nil] at hlt
      have hie : i = loc.length := by omega
      subst hie
      rw [nth_new] at h1
      rw [← hlen, nth_new] at h2
      simp only [Option.some.injEq] at h1 h2
      subst h1 h2
      refine ⟨fun hc => ⟨rfl, cs, ho, he.carry hc⟩, fun k hk => ?_, fun j m oc hj hne h4 h5 => ?_⟩
      · rcases hb k hk with h6 | h6
        · exact .inl h6
        · refine .inr ⟨⟨r, _, _, hl, hr, rfl, h6⟩, fun j m hj h7 ⟨oc, h8, h9⟩ => ?_⟩
          rw [nth_left' (by rw [hlen]; exact hj)] at h8
          by_cases e1 : r = j
          · subst e1
            rw [nth_set_self (by rw [← hi.len]; exact hj)] at h8
            simp only [Option.some.injEq] at h8
            subst h8
            cases h9
          · rw [nth_set_ne e1] at h8
            exact hi.sep r j _ m _ oc e1 hl h7 hr h8 rfl h9 k h6
      · have hlt := nth_lt h4
        simp only [List.length_append, List.length_cons, List.length_nil] at hlt
        omega)
  refine ⟨_, ?_, hn⟩
  have : nth (loc ++ [Loc.arr t'.size v']) hp.length = some (.arr t'.size v') := by rw [← hi.len]; exact nth_new _ _
  rcases ho.2 with ⟨rfl, _⟩ | ⟨g, cap, cur, rfl, _⟩
  · exact .own this
  · exact .own this

theorem Src.zero {size : Nat} {tx e' : TypeId} (hk : P.underlying tx = some (.slice e')) (B : Option Addr) (c : Nat) : Src P size tx (.slice B 0 c) 0 [] w := by
  cases B with
  | none => exact Src.ofNil w hk c
  | some b => exact Src.ofSlice w hk b 0 c [] (by simp) (fun j u hu => by simp at hu) (fun u hu => by cases hu)

theorem encL_mono {ok ok' : Nat → Prop} (h : ∀ k, ok k → ok' k) {t : Ty} {xs : List t.den} {cs : List Value} (he : EncL ok w t xs cs) : EncL ok' w t xs cs := he.carry (carry_ok h w)

/-- The elements of a slice that is read, or lent: their cells; what they lead to is none of the machine's own. -/
theorem slOf_cells (hi : Inv A base loc hp w) {t : Ty} {x : AV} {v : Value} {ys : List t.den} {hpx : HP} (h : slOf .lend hp t x = some (ys, hpx)) (hv : RV loc (okk A base loc hp) w x v) :
    ∃ B c cs, v = .slice B ys.length c ∧ ys.length ≤ c ∧ EncL (okk A base loc hp) w t ys cs ∧ (ys = [] ∨ ∃ b off, B = some ⟨b, off, none⟩ ∧ ∀ j u, cs[j]? = some u → w.cell? ⟨b, off + j, none⟩ = some u) := by
  unfold slOf at h
  split at h
  · split at h
    · rename_i e
      subst e
      simp only [Option.some.injEq, Prod.mk.injEq] at h
      obtain ⟨rfl, rfl⟩ := h
      cases hv with
      | sl hc hl hR =>
        obtain ⟨cs, h1, h2⟩ := hR.encL
        refine ⟨_, _, cs, rfl, hl, h1, ?_⟩
        rcases h2 with h2 | ⟨b, off, h3, _, _, h4⟩
        · exact .inl h2
        · exact .inr ⟨b, off, h3, h4⟩
    · cases h
  · simp only [Option.some.injEq, Prod.mk.injEq] at h
    obtain ⟨rfl, rfl⟩ := h
    cases hv
    exact ⟨none, 0, [], rfl, Nat.le_refl _, rfl, .inl rfl⟩
  · rename_i r
    split at h
    · rename_i zs hzs
      simp only [Option.some.injEq, Prod.mk.injEq] at h
      obtain ⟨rfl, rfl⟩ := h
      obtain ⟨_, e, hr⟩ := arrAt_some hzs
      cases hv with
      | own hl =>
        obtain ⟨hsz, cs, h1, h2⟩ := hi.obj r _ _ hl hr
        rcases h1.2 with ⟨h3, h0⟩ | ⟨g, cap, cur, h3, hg, hh, hcap, hm, hs, ht⟩
        · cases h3
          exact ⟨none, 0, cs, by rw [h0], by omega, h2, .inl (List.length_eq_zero_iff.1 h0)⟩
        · cases h3
          exact ⟨_, _, cs, rfl, hcap, h2, .inr ⟨g, 0, rfl, fun j u hu => by simpa [Addr.add_mid] using h1.cells (g := g) rfl j u hu⟩⟩
    · cases h
  · rename_i r lo hi'
    split at h
    · rename_i zs hzs
      simp only [Option.some.injEq, Prod.mk.injEq] at h
      obtain ⟨rfl, rfl⟩ := h
      obtain ⟨_, e, hr⟩ := arrAt_some hzs
      cases hv with
      | sub hl h01 h02 h03 hA hc =>
        obtain ⟨hsz, cs, h1, h2⟩ := hi.obj r _ _ hl hr
        rename_i n1 cap1 c1 A1 A2
        have hn : n1 = zs.length := by
          rcases h1.2 with ⟨h3, h0⟩ | ⟨_, _, _, h3, _⟩
          · cases h3; exact h0.symm
          · cases h3; rfl
        have hlen : ((zs.take hi'.toNat).drop lo.toNat).length = (hi' - lo).toNat := by
          rw [List.length_drop, List.length_take]
          omega
        have e1 : zs = zs.take lo.toNat ++ ((zs.take hi'.toNat).drop lo.toNat ++ zs.drop hi'.toNat) := by
          rw [← List.append_assoc]
          have : zs.take lo.toNat = (zs.take hi'.toNat).take lo.toNat := by rw [List.take_take]; congr 1; omega
          rw [this, List.take_append_drop, List.take_append_drop]
        rw [e1] at h2
        obtain ⟨c1, c2, h5, h6, h7⟩ := h2.split
        obtain ⟨c3, c4, h8, h9, h10⟩ := h7.split
        refine ⟨_, _, c3, by rw [hlen], by rw [hlen]; exact hc, h9, ?_⟩
        by_cases hlt : lo < hi'
        · rcases h1.2 with ⟨h3, h0⟩ | ⟨g, cap, cur, h3, hg, hh, hcap, hm, hs, ht⟩
          · cases h3; omega
          · cases h3
            refine .inr ⟨g, lo.toNat * t.size, by rw [hA hlt, hsz]; simp [Addr.add_mid], fun j u hu => ?_⟩
            have hcl := h6.len
            have hltl : (zs.take lo.toNat).length = lo.toNat := by rw [List.length_take]; omega
            rw [hltl] at hcl
            have := h1.cells (g := g) rfl (lo.toNat * t.size + j) u (by
              rw [h5, h8, List.getElem?_append_right (by omega), hcl, List.getElem?_append_left (by have := (List.getElem?_eq_some_iff.1 hu).1; omega)]
              rw [← hu]; congr 1; omega)
            simpa [Addr.add_mid] using this
        · left
          apply List.eq_nil_of_length_eq_zero
          rw [hlen]; omega
    · cases h
  · cases h

theorem append_sound {E : Env} (hE : ∀ t i, look t E.ti = some i → TIok P t i) (hi : Inv A base loc hp w) {sT ty : TypeId} {s x v : AV} {us ux : Value}
    (h : (evAppend E sT s x hp).run = some (v, hp')) (hs : RV loc (okk A base loc hp) w s us) (hx : RV loc (okk A base loc hp) w x ux) :
    ∃ u w', (Builtin.append_ #[sT, sT] ty #[us, ux]).run P w = .ok u w' ∧ Res A base loc hp w v hp' u w' := by
  unfold evAppend at h
  split at h
  · cases h
  rename_i i hi1
  split at h
  · cases h
  rename_i ei hi2
  split at h
  case h_2 => cases h
  rename_i ys hpx hk hb hsl
  simp only [Bool.and_eq_true, Nat.blt_eq] at hb
  have hT := hE _ _ hi2
  have ht := (hE _ _ hi1).slice hk
  obtain ⟨inf, d, z, h1, h2, h3, h4, h5, h6, h7, h7b, h8, h9, h10⟩ := hT.ex
  obtain ⟨B, c, cs, rfl, hyc, hec, hrd⟩ := slOf_cells hi hsl hx
  have hcl := hec.len
  rw [← h9] at h8
  have hsz : 0 < ei.ty.size := by rw [h9]; exact hb.2
  have hsz2 : inf.size = ei.ty.size := by rw [h3, h9]
  -- all the ways to append to a row that the machine owns
  have own : ∀ (b0 : Nat) (uv : Value) (xs : List ei.ty.den) (ds : List Value), w.ownsRow b0 i.elem ei.ty.size uv xs.length ds → EncL (okk A base loc hp) w ei.ty xs ds → (xs.length + ys.length) * ei.bytes ≤ roomLimit → b0 ≤ w.heap.size →
      ∃ u w', (Builtin.append_ #[sT, sT] ty #[uv, .slice B ys.length c]).run P w = .ok u w' ∧ w'.ownsRow b0 i.elem ei.ty.size u (xs ++ ys).length (ds ++ cs) ∧ Step (fun k => uv.ownBlock = some k) w w' ∧
        (∀ k, u.ownBlock = some k → w.heap.size ≤ k ∨ uv.ownBlock = some k) := by
    intro b0 uv xs ds hown hxs hroom hb0
    have hbytes : (xs.length + ys.length) * ei.bytes ≤ 140737488355328 := hroom
    have h63 : xs.length + ys.length ≤ maxLen := by
      have : xs.length + ys.length ≤ (xs.length + ys.length) * ei.bytes := Nat.le_mul_of_pos_right _ hb.1
      simp only [maxLen]
      omega
    rcases hrd with rfl | ⟨b, off, rfl, hcell⟩
    · have hcs : cs = [] := List.length_eq_zero_iff.1 (by simpa using hcl)
      subst hcs
      obtain ⟨uB, uC, rfl, hle⟩ : ∃ uB uC, uv = .slice uB xs.length uC ∧ xs.length ≤ uC := by
        rcases hown.2 with ⟨rfl, h0⟩ | ⟨g, cap, cur, rfl, _, _, hcap, _⟩
        · exact ⟨none, 0, by rw [h0], by omega⟩
        · exact ⟨_, _, rfl, hcap⟩
      refine ⟨_, w, run_append_nothing w sT sT ty i.elem inf ht h1 uB _ uC hle _ (Src.zero (by rw [ht]) B c), ?_, Step.refl _ _, fun k hk => .inr hk⟩
      simpa using hown
    · have hn : ∀ j u, cs[j]? = some u → w.cell? ((⟨b, off, none⟩ : Addr).add j) = some u := fun j u hu => by rw [Addr.add_mid]; exact hcell j u hu
      by_cases hfit : ∃ g cap, uv = .slice (some ⟨g, 0, none⟩) xs.length cap ∧ xs.length + ys.length ≤ cap
      · obtain ⟨g, cap, rfl, hcap⟩ := hfit
        obtain ⟨w', h11, h12, h13⟩ := run_append_fits w b0 sT ty i.elem inf ei.ty.size ht h1 hsz2 g _ cap ds hown ⟨b, off, none⟩ ys.length c cs hcl hn hec.one hcap
        exact ⟨_, w', h11, by rw [List.length_append]; exact h12, Step.of_grown h13, fun k hk => .inr hk⟩
      · rcases hown.2 with ⟨rfl, h0⟩ | ⟨g, cap, cur, rfl, hg, hh, hcap, hm, hs', ht'⟩
        · have hx0 : xs = [] := List.length_eq_zero_iff.1 h0
          subst hx0
          have hd0 : ds = [] := hxs
          subst hd0
          obtain ⟨u, w', h11, h12, h13, _⟩ := run_append_own (P := P) w w.heap.size sT ty i.elem inf z ei.ty.size ei.bytes ht h1 h6 hsz2 h4 h8 hsz (.slice none 0 0) 0 [] (World.ownsRow_nil _ _ _ _) ⟨b, off, none⟩ ys.length c cs hcl hn hec.one
            (by simpa using h63) (by simpa using hbytes) (Nat.le_refl _)
          refine ⟨u, w', h11, ?_, Step.of_grown h13, fun k hk => .inl (h12.lt k hk).1⟩
          have h14 : w'.ownsRow b0 i.elem ei.ty.size u (0 + ys.length) ([] ++ cs) := by
            refine ⟨h12.1, ?_⟩
            rcases h12.2 with h15 | ⟨g, cap, cur, h15, h16, h17⟩
            · exact .inl h15
            · exact .inr ⟨g, cap, cur, h15, by omega, h17⟩
          simpa using h14
        · have hgt : cap < xs.length + ys.length := by
            rcases Nat.lt_or_ge cap (xs.length + ys.length) with hh | hh
            · exact hh
            · exact absurd ⟨g, cap, rfl, hh⟩ hfit
          obtain ⟨u, w', h11, h12, h13⟩ := run_append_arg_grows (P := P) w sT ty i.elem inf z ei.ty.size ei.bytes ht h1 h6 hsz2 h4 h8 hsz ⟨g, 0, none⟩ xs.length cap ds hxs.len (hown.cells (g := g) rfl)
            ⟨b, off, none⟩ ys.length c cs hcl hn hgt h63 hbytes
          refine ⟨u, w', h11, ?_, (Step.of_grown h13).mono (fun k _ hk => by cases hk), fun k hk => .inl (h12.lt k hk).1⟩
          rw [List.length_append]
          refine ⟨h12.1, ?_⟩
          rcases h12.2 with h15 | ⟨g', cap', cur', h15, h16, h17⟩
          · exact .inl h15
          · exact .inr ⟨g', cap', cur', h15, by omega, h17⟩
  split at h
  · cases hs
    obtain ⟨hc, h⟩ := T.run_ite_fail h
    have hc := of_decide_eq_true hc
    simp only [T.run, Option.some.injEq, Prod.mk.injEq] at h
    obtain ⟨rfl, rfl⟩ := h
    obtain ⟨u, w', h11, h12, h13, _⟩ := own w.heap.size (.slice none 0 0) [] [] (World.ownsRow_nil _ _ _ _) rfl (by simpa using hc) (Nat.le_refl _)
    exact ⟨u, w', h11, new_arr hi (h13.mono (fun k _ hk => by cases hk)) h12 hec⟩
  · rename_i r
    split at h
    case h_2 => cases h
    rename_i e t xs hr
    split at h
    case isFalse => cases h
    rename_i et
    subst et
    split at h
    case h_2 => cases h
    rename_i he
    have he := Nat.eq_of_beq_eq_true he
    subst he
    obtain ⟨hc, h⟩ := T.run_ite_fail h
    have hc := of_decide_eq_true hc
    simp only [T.run, Option.some.injEq, Prod.mk.injEq] at h
    obtain ⟨rfl, rfl⟩ := h
    cases hs with
    | own hl =>
      obtain ⟨hsz3, ds, h11, h12⟩ := hi.obj r _ _ hl hr
      obtain ⟨u, w', h13, h14, h15, h16⟩ := own base _ xs ds h11 h12 hc hi.low
      exact ⟨u, w', h13, grow_arr hi hl hr h15 h14 h16 (h12.append hec)⟩
  · rename_i e' t' xs
    split at h
    case isFalse => cases h
    rename_i et
    subst et
    split at h
    case h_2 => cases h
    rename_i y ys
    obtain ⟨hc, h⟩ := T.run_ite_fail h
    have hc := of_decide_eq_true hc
    simp only [T.run, Option.some.injEq, Prod.mk.injEq] at h
    obtain ⟨rfl, rfl⟩ := h
    have hbytes : (xs.length + (y :: ys).length) * ei.bytes ≤ 140737488355328 := hc
    have h63 : xs.length + (y :: ys).length ≤ maxLen := by
      have : xs.length + (y :: ys).length ≤ (xs.length + (y :: ys).length) * ei.bytes := Nat.le_mul_of_pos_right _ hb.1
      simp only [maxLen]
      omega
    rcases hrd with hrd | ⟨b, off, rfl, hcell⟩
    · cases hrd
    have hn : ∀ j u, cs[j]? = some u → w.cell? ((⟨b, off, none⟩ : Addr).add j) = some u := fun j u hu => by rw [Addr.add_mid]; exact hcell j u hu
    cases hs with
    | @sl _ _ _ _ A' cap hcl' hl hR =>
      have hcap := hcl' rfl
      subst hcap
      obtain ⟨ds, h11, h12⟩ := hR.encL
      rcases h12 with rfl | ⟨b', off', rfl, _, _, hcell'⟩
      · have hd0 : ds = [] := h11
        subst hd0
        -- an empty row without room: as from nothing
        have hr := run_append_grow_src (P := P) w sT sT ty i.elem inf z ht h1 h6 A' 0 0 [] (by cases A' <;> simp [Builtin.firstCells, loadCells, loadCellsFrom]) (.slice (some ⟨b, off, none⟩) (y :: ys).length c) _ cs
          (by rw [hsz2]; exact Src.ofSlice w (by rw [ht]) _ _ _ _ hcl hn hec.one) (by simp) (by simp only [maxLen] at h63; simp at h63 ⊢; omega) (by rw [h4]; exact growslice_fits (by simp) (by simpa using hbytes))
        simp only [Nat.zero_add, List.nil_append] at hr
        refine ⟨_, _, hr, ?_⟩
        have hgr := grownCap_ge w (y :: ys).length 0 i.elem
        refine new_arr hi (t := ei.ty) (xs := y :: ys) (cs := cs) ?_ ?_ hec
        · exact ⟨rfl, rfl, rfl, by rw [alloc_size]; exact Nat.le_succ _, fun k hk _ => alloc_old w.drew _ hk⟩
        · refine ⟨hcl, .inr ⟨w.heap.size, _, _, rfl, Nat.le_refl _, alloc_new w.drew _, hgr, grownCap_le_maxLen w _ _ _ (by simpa using h63), ?_, ?_⟩⟩
          · simp only [Array.size_append, List.size_toArray, size_zeroCells, h8, hcl, ← Nat.add_mul]
            congr 1
            omega
          · simp only [Array.toList_append]
            rw [← hcl]
            exact List.take_left
      · obtain ⟨u, w', h13, h14, h15⟩ := run_append_arg_grows (P := P) w sT ty i.elem inf z ei.ty.size ei.bytes ht h1 h6 hsz2 h4 h8 hsz ⟨b', off', none⟩ xs.length xs.length ds h11.len (fun j u hu => by rw [Addr.add_mid]; exact hcell' j u hu)
            ⟨b, off, none⟩ (y :: ys).length c cs hcl hn (by simp) h63 hbytes
        refine ⟨u, w', h13, new_arr hi ((Step.of_grown h15).mono (fun k _ hk => by cases hk)) ?_ (h11.append hec)⟩
        rw [List.length_append]
        exact h14
  · cases h
end
end Vm
/- The symbolic machine: structs, new rows, addresses. -/
namespace Vm
open Go
set_option linter.unusedVariables false
set_option linter.unusedSimpArgs false

theorem run_mapM {P : Program} {α β : Type} {f : α → Sem β} {g : α → β} {w : World} (aq : Array α) (h : ∀ x ∈ aq, (f x).run P w = .ok (g x) w) : (aq.mapM f).run P w = .ok (aq.map g) w := by
  rw [Array.mapM_eq_mapM_toList]
  have key : ∀ l : List α, (∀ x ∈ l, (f x).run P w = .ok (g x) w) → (l.mapM f).run P w = .ok (l.map g) w := by
    intro l
    induction l with
    | nil => intro _; simp
    | cons x l ih =>
      intro hl
      have h1 := hl x List.mem_cons_self
      have h2 := ih (fun y hy => hl y (List.mem_cons_of_mem _ hy))
      simp [List.mapM_cons, Sem.run_bind, h1, h2]
  have := key aq.toList (fun x hx => h x (by simpa using hx))
  rw [map_eq_pure_bind, Sem.run_bind, this]
  simp only [Result.andThen_ok, Sem.run_pure, Result.ok.injEq, and_true]
  apply Array.ext'
  simp

inductive Both {α β : Type} (R : α → β → Prop) : List α → List β → Prop where
  | nil : Both R [] []
  | cons {a : α} {b : β} {aq : List α} {bs : List β} (h : R a b) (t : Both R aq bs) : Both R (a :: aq) (b :: bs)

theorem fold_set (off : Nat) : ∀ (vs : List Value) (k : Nat) (cells : Array Value), off + k + vs.length ≤ cells.size →
    (((vs.zipIdx k).foldl (fun cs (p : Value × Nat) => cs.setIfInBounds (off + p.2) p.1) cells).toList = cells.toList.take (off + k) ++ vs ++ cells.toList.drop (off + k + vs.length))
  | [], k, cells, h => by simp
  | v :: r, k, cells, h => by
    simp only [List.zipIdx_cons, List.foldl_cons]
    simp only [List.length_cons] at h
    rw [fold_set off r (k + 1) _ (by rw [Array.size_setIfInBounds]; omega)]
    rw [Array.toList_setIfInBounds]
    have e : off + (k + 1) = off + k + 1 := by omega
    rw [e, List.drop_set_of_lt (by omega)]
    have hl : off + k < cells.toList.length := by rw [Array.length_toList]; omega
    rw [List.take_set, List.take_add_one, List.getElem?_eq_getElem hl]
    simp only [Option.toList_some]
    rw [List.set_append_right _ _ (by rw [List.length_take]; omega)]
    rw [List.length_take]
    have : off + k - min (off + k) cells.toList.length = 0 := by omega
    rw [this]
    simp only [List.set_cons_zero, List.append_assoc, List.singleton_append, List.length_cons]
    congr 3
    omega

section
variable {P : Program} {Γ : Glob} {A : Dom Γ} {base : Nat} {loc : List Loc} {hp hp' : HP} {w w' : World} {a : Act} {o : Oper} {u : Value} {v : AV} {ok : Nat → Prop}

theorem fill_sound {pl : Nat → Option (Nat × Nat)} {pr : Nat → Option (Nat × Nat)} (hpl : ∀ j q, pl j = some q → pr j = some q) : ∀ {ps : List (Nat × AV)} {vs : List (Nat × Value)} {cs cs' : List AV} {cells : Array Value},
    fillL pl cs ps = some cs' → Both (fun p q => p.1 = q.1 ∧ RV loc ok w p.2 q.2) ps vs → RVs loc ok w cs cells.toList → (∀ x ∈ cells.toList, x.oneCell' = true) →
    ∃ cells', Instr.fill pr cells vs = some cells' ∧ RVs loc ok w cs' cells'.toList ∧ (∀ x ∈ cells'.toList, x.oneCell' = true) ∧ cells'.size = cells.size
  | [], _, cs, cs', cells, h, .nil, hc, h1 => by
    simp only [fillL, Option.some.injEq] at h
    subst h
    exact ⟨cells, rfl, hc, h1, rfl⟩
  | (j, x) :: ps, (_, y) :: vs, cs, cs', cells, h, .cons ⟨rfl, hx⟩ ht, hc, h1 => by
    simp only [fillL] at h
    split at h
    · cases h
    rename_i off size hq
    split at h
    · cases h
    rename_i cx hcx
    split at h
    case h_2 => cases h
    rename_i hb
    simp only [Bool.and_eq_true] at hb
    have e1 := Nat.eq_of_beq_eq_true hb.1
    have e2 := Nat.le_of_ble_eq_true hb.2
    obtain ⟨h2, h3⟩ := avCells_rv hx hcx
    have hlen := hc.len
    have hl2 := h2.len
    simp only [Array.length_toList] at hlen hl2
    let cells1 : Array Value := y.cells.zipIdx.foldl (fun cs (p : Value × Nat) => cs.setIfInBounds (off + p.2) p.1) cells
    have hf : cells1.toList = cells.toList.take off ++ y.cells.toList ++ cells.toList.drop (off + y.cells.toList.length) := by
      have := fold_set off y.cells.toList 0 cells (by simp; omega)
      simp only [Nat.add_zero] at this
      rw [← this]
      show (Array.foldl _ cells y.cells.zipIdx).toList = _
      rw [← Array.foldl_toList]
      congr 1
      simp
    have hsz : cells1.size = cells.size := by
      rw [← Array.length_toList, hf]
      simp only [List.length_append, List.length_take, List.length_drop, Array.length_toList]
      omega
    obtain ⟨cells', h4, h5, h6, h7⟩ := fill_sound hpl (cells := cells1) h ht (by rw [hf]; exact hc.putL h2 off) (by
      rw [hf]
      intro z hz
      rcases List.mem_append.1 hz with hz | hz
      · rcases List.mem_append.1 hz with hz | hz
        · exact h1 z (List.mem_of_mem_take hz)
        · exact h3 z hz
      · exact h1 z (List.mem_of_mem_drop hz))
    refine ⟨cells', ?_, h5, h6, h7.trans hsz⟩
    simp only [Instr.fill, hpl _ _ hq]
    rw [if_neg (by simp; omega)]
    exact h4

theorem parts_rel {ρ : Operand → AV} {ev : Operand → Value} (hρ : ∀ x, RV loc ok w (ρ x) (ev x)) (parts : Array (Nat × Operand)) :
    Both (fun (p : Nat × AV) (q : Nat × Value) => p.1 = q.1 ∧ RV loc ok w p.2 q.2) (parts.toList.map fun p => (p.1, ρ p.2)) (parts.map fun (p : Nat × Operand) => (p.1, ev p.2)).toList := by
  rw [Array.toList_map]
  generalize parts.toList = l
  induction l with
  | nil => exact .nil
  | cons p l ih => exact .cons ⟨rfl, hρ _⟩ ih

theorem fields_nth : ∀ {fs : List Field} {is : List FI}, FieldsOk P fs is → ∀ {j : Nat} {fi : FI}, nth is j = some fi → ∃ f, fs[j]? = some f ∧ fi.off = f.offset ∧ 0 < fi.size ∧
    ∃ inf d, P.info? f.type = some inf ∧ P.underlying f.type = some d ∧ inf.size = fi.size ∧ isAggD d = fi.agg
  | f :: fs, i :: is, ⟨h, ht⟩, 0, fi, hj => by
    simp only [nth, Option.some.injEq] at hj
    subst hj
    exact ⟨f, rfl, h.1, h.2.1, h.2.2⟩
  | f :: fs, i :: is, ⟨h, ht⟩, j + 1, fi, hj => by
    simp only [nth] at hj
    simpa using fields_nth ht hj
  | [], [], _, j, fi, hj => by simp [nth] at hj
theorem fields_each : ∀ {fs : List Field} {is : List FI}, FieldsOk P fs is → ∀ f ∈ fs, ∃ inf, P.info? f.type = some inf
  | f :: fs, i :: is, ⟨h, ht⟩, x, hx => by
    rcases List.mem_cons.1 hx with rfl | hx
    · obtain ⟨inf, d, h1, _⟩ := h.2.2; exact ⟨inf, h1⟩
    · exact fields_each ht x hx
  | [], [], _, x, hx => by cases hx

theorem build_sound {E : Env} (hE : ∀ t i, look t E.ti = some i → TIok P t i) {t : TypeId} {i : TI} (hi1 : look t E.ti = some i) {ρ : Operand → AV} {ev : Operand → Value} (hρ : ∀ x, RV loc ok w (ρ x) (ev x))
    {parts : Array (Nat × Operand)} {cs : List AV} (h : fillL (placeOf E i) i.zero (parts.toList.map fun p => (p.1, ρ p.2)) = some cs) (hk : i.agg = true) (hel0 : (look i.elem E.ti).isSome = true) :
    ∃ u, (Instr.build t (parts.map fun (p : Nat × Operand) => (p.1, ev p.2))).run P w = .ok u w ∧ RV loc ok w (.agg cs) u := by
  have hT := hE _ _ hi1
  obtain ⟨z, hz1, hz2, hz3, hz4⟩ := hT.zero w
  obtain ⟨inf, d, z', h1, h2, h3, h4, h5, h6, h7, h7b, h8, h9, h10⟩ := hT.ex
  have hpr := parts_rel hρ parts
  rw [hk] at h5
  cases d <;> simp only [isAggD, reduceCtorEq, Bool.false_eq_true] at h5
  case struct fs =>
    obtain ⟨hF, hkd⟩ := h10
    have hplaces : (fs.mapM (fun f => do pure (f.offset, ← Go.sizeOf f.type) : Field → Sem (Nat × Nat))).run P w = .ok (fs.map fun f => (f.offset, ((P.info? f.type).map (·.size)).getD 0)) w := by
      refine run_mapM fs (fun f hf => ?_)
      obtain ⟨inf', h11⟩ := fields_each hF f (by simpa using hf)
      simp [Go.sizeOf, typeInfo, h11]
    obtain ⟨cells', h11, h12, h13, h14⟩ := fill_sound (pr := fun j => (fs.map fun f => (f.offset, ((P.info? f.type).map (·.size)).getD 0))[j]?) (fun j q hq => by
      simp only [placeOf, hkd] at hq
      split at hq
      · rename_i fi h11
        simp only [Option.some.injEq] at hq
        subst hq
        obtain ⟨f, h12, h13, h14, inf', d', h15, h16, h17, h18⟩ := fields_nth hF h11
        rw [Array.getElem?_map, ← Array.getElem?_toList, h12]
        simp [h13, h15, h17]
      · cases hq) h hpr (hz2 loc ok w) hz3
    refine ⟨.agg cells', ?_, ?_⟩
    · simp only [Instr.build, Sem.run_bind, hz1, Result.andThen_ok, run_underlying h2, hplaces, h11]
      rfl
    · have := RV.agg h12 h13
      simpa using this
  case array n e =>
    obtain ⟨hf0, hal, hel, hkd⟩ := h10
    cases hei : look i.elem E.ti with
    | none => rw [hei] at hel0; cases hel0
    | some ei =>
      have hTe := hE _ _ hei
      rw [hel] at hTe
      have hsz := hTe.size w
      obtain ⟨cells', h11, h12, h13, h14⟩ := fill_sound (pr := fun j => some (j * ei.size, ei.size)) (fun j q hq => by simpa [placeOf, hkd, hei] using hq) h hpr (hz2 loc ok w) hz3
      refine ⟨.agg cells', ?_, ?_⟩
      · simp only [Instr.build, Sem.run_bind, hz1, Result.andThen_ok, run_underlying h2, hsz, h11]
        rfl
      · have := RV.agg h12 h13
        simpa using this
end
end Vm
/- The symbolic machine: new rows; places; slices. -/
namespace Vm
open Go
set_option linter.unusedVariables false
set_option linter.unusedSimpArgs false

theorem repL_len {α : Type} (l : List α) : ∀ n, (repL n l).length = n * l.length
  | 0 => by simp [repL]
  | n + 1 => by rw [repL, List.length_append, repL_len l n, Nat.succ_mul]; omega
theorem repL_get {α : Type} (l : List α) : ∀ (n i : Nat), i < n * l.length → (repL n l)[i]? = l[i % l.length]?
  | 0, i, h => by simp at h
  | n + 1, i, h => by
    rw [repL]
    by_cases hi : i < l.length
    · rw [List.getElem?_append_left hi, Nat.mod_eq_of_lt hi]
    · have h' : i < n * l.length + l.length := by rw [Nat.succ_mul] at h; exact h
      have hm := Nat.mod_eq_sub_mod (a := i) (b := l.length) (by omega)
      rw [List.getElem?_append_right (by omega), repL_get l n _ (by omega), hm]

theorem range_rep (z : Array Value) (n : Nat) : ((Array.range (n * z.size)).map (fun i => z[i % z.size]!)).toList = repL n z.toList := by
  apply List.ext_getElem?
  intro i
  rw [Array.toList_map, List.getElem?_map, Array.getElem?_toList]
  by_cases hi : i < n * z.size
  · rw [repL_get _ _ _ (by simpa using hi)]
    simp only [Array.length_toList]
    have hz : 0 < z.size := by
      rcases Nat.eq_zero_or_pos z.size with h | h
      · rw [h] at hi; simp at hi
      · exact h
    have hm : i % z.size < z.size := Nat.mod_lt _ hz
    have : (Array.range (n * z.size))[i]? = some i := by simp [hi]
    rw [this]
    simp [hm]
  · have h1 : (Array.range (n * z.size))[i]? = none := by simp; omega
    have h2 : (repL n z.toList)[i]? = none := List.getElem?_eq_none (by rw [repL_len]; simpa using hi)
    rw [h1, h2]
    rfl

theorem run_newRow {P : Program} (e : TypeId) (cells : Array Value) (w : World) : (newRow e cells).run P w = .ok ⟨w.heap.size, 0, none⟩ (w.alloc (.cells cells e)) := rfl

section
variable {P : Program} {Γ : Glob} {A : Dom Γ} {base : Nat} {loc : List Loc} {hp hp' : HP} {w w' : World} {a : Act} {o : Oper} {u : Value} {v : AV} {ok : Nat → Prop}

theorem RVs.repL {aq : List AV} {vs : List Value} (h : RVs loc ok w aq vs) : ∀ n, RVs loc ok w (Vm.repL n aq) (Vm.repL n vs)
  | 0 => .nil
  | n + 1 => h.append (RVs.repL h n)
theorem mem_repL {α : Type} {l : List α} {x : α} : ∀ {n : Nat}, x ∈ repL n l → x ∈ l
  | 0, h => by simp [repL] at h
  | n + 1, h => by
    rcases List.mem_append.1 h with h | h
    · exact h
    · exact mem_repL h
theorem EncL.rep {t : Ty} {x : t.den} {cs : List Value} (h : Enc ok w t x cs) : ∀ n, EncL ok w t (List.replicate n x) (Vm.repL n cs)
  | 0 => rfl
  | n + 1 => ⟨cs, _, rfl, h, EncL.rep h n⟩

theorem buildSlice_sound {E : Env} (hE : ∀ t i, look t E.ti = some i → TIok P t i) (hi : Inv A base loc hp w) {t : TypeId} {i ei : TI} (hi1 : look t E.ti = some i) (hi2 : look i.elem E.ti = some ei) (hk : i.kd = .sl)
    {ρ : Operand → AV} {ev : Operand → Value} (hρ : ∀ x, RV loc (okk A base loc hp) w (ρ x) (ev x)) {parts : Array (Nat × Operand)} {n : Nat} {cs : List AV} {xs : List ei.ty.den} {hp1 : HP}
    (hb1 : n * ei.size ≤ 16777216) (hb2 : 0 < ei.size)
    (h : fillL (fun j => some (j * ei.size, ei.size)) (Vm.repL n ei.zero) (parts.toList.map fun p => (p.1, ρ p.2)) = some cs) (hpk : packElems ei.ty ei.size n hp cs = some (xs, hp1)) :
    ∃ u w', (Instr.buildSlice t n (parts.map fun (p : Nat × Operand) => (p.1, ev p.2))).run P w = .ok u w' ∧ Res A base loc hp w (.own hp1.length) (hp1 ++ [.arr i.elem ei.ty xs]) u w' := by
  have hT := hE _ _ hi2
  have hS := (hE _ _ hi1).slice hk
  obtain ⟨z, hz1, hz2, hz3, hz4⟩ := hT.zero w
  have hsz := hT.size w
  have hty : ei.ty.size = ei.size := by obtain ⟨_, _, _, _, _, _, _, _, _, _, _, _, h9, _⟩ := hT.ex; exact h9
  have hpr := parts_rel hρ parts
  have hzs : ((Array.range (n * ei.size)).map (fun i => z.cells[i % z.cells.size]!)).toList = Vm.repL n z.cells.toList := by rw [← hz4]; exact range_rep _ _
  obtain ⟨cells', h11, h12, h13, h14⟩ := fill_sound (pr := fun j => some (j * ei.size, ei.size)) (fun j q hq => hq) (cells := (Array.range (n * ei.size)).map (fun i => z.cells[i % z.cells.size]!)) h hpr
    (by rw [hzs]; exact RVs.repL (hz2 _ _ _) n) (by rw [hzs]; exact fun x hx => hz3 x (mem_repL hx))
  have hcl : cs.length = n * ei.size := by rw [h12.len, Array.length_toList, h14]; simp
  rw [← hty] at hpk hcl
  obtain ⟨hkl, hxl, hxe⟩ := packElems_sound n hpk hi (fun _ h => h) h12 hcl
  have hi' := (hi.kill hkl)
  have hlim : ¬ (2 ^ 24 < n * ei.size) := by omega
  refine ⟨.slice (some ⟨w.heap.size, 0, none⟩) n n, w.alloc (.cells cells' i.elem), ?_, ?_⟩
  · unfold Instr.buildSlice
    simp only [Sem.run_bind, run_underlying hS, Result.andThen_ok, hsz, gt_iff_lt, if_neg hlim, Sem.run_pure]
    by_cases h0 : n * ei.size = 0
    · have hn : n = 0 := by
        rcases Nat.mul_eq_zero.1 h0 with h | h
        · exact h
        · omega
      subst hn
      have hpl : parts.toList = [] := by
        cases hpp : parts.toList with
        | nil => rfl
        | cons p ps =>
          rw [hpp] at h
          simp only [List.map_cons, fillL] at h
          split at h
          · cases h
          · split at h
            · rename_i hb
              simp only [Bool.and_eq_true] at hb
              have := Nat.le_of_ble_eq_true hb.2
              simp [Vm.repL] at this
              omega
            · cases h
      have hpa : parts = #[] := by rw [← Array.toList_inj, hpl]
      subst hpa
      simp only [List.map_nil, fillL, Option.some.injEq] at h
      subst h
      have hc' : cells' = #[] := by
        apply Array.ext'
        have := h12.len
        simp only [Vm.repL, List.length_nil, Array.length_toList] at this
        exact List.eq_nil_of_length_eq_zero (by simpa using this.symm)
      subst hc'
      rw [if_pos h0, Nat.zero_mul]
      simp [Instr.fill, run_newRow]
      congr 2
      apply Array.ext'
      simp
    · simp only [if_neg h0, Sem.run_bind, hz1, Result.andThen_ok, Sem.run_pure, h11]
      rfl
  · obtain ⟨loc', hr, ha⟩ := new_arr (t := ei.ty) hi'.inv (alloc_step w (.cells cells' i.elem)) (cs := cells'.toList) (v := .slice (some ⟨w.heap.size, 0, none⟩) n n) (e := i.elem) (xs := xs) (by
        refine ⟨by rw [hxe.len], .inr ⟨w.heap.size, n, cells', by rw [hxl], Nat.le_refl _, alloc_new w _, by omega, by simp only [maxLen]; have : n ≤ n * ei.size := Nat.le_mul_of_pos_right _ hb2; omega, ?_, ?_⟩⟩
        · rw [h14]; simp [hty]
        · rw [← hxe.len, List.take_length]) hxe
    exact ⟨loc', hr, hi'.trans ha⟩

theorem makeSlice_sound {E : Env} (hE : ∀ t i, look t E.ti = some i → TIok P t i) (hi : Inv A base loc hp w) {t : TypeId} {i ei : TI} (hi1 : look t E.ti = some i) (hi2 : look i.elem E.ti = some ei) (hk : i.kd = .sl)
    {k1 k2 : IntKind} {n c : Int} {x : ei.ty.den} {hpx : HP} (hb1 : 0 < ei.size) (hb2 : 0 < ei.bytes) (hpk : packAll .strict hp ei.ty ei.zero = some (x, hpx)) (h0 : 0 ≤ n) (h1 : n ≤ c) (h2 : c.toNat * ei.bytes ≤ roomLimit) :
    ∃ u w', (Instr.makeSlice t (.int k1 n) (.int k2 c)).run P w = .ok u w' ∧ Res A base loc hp w (.own hp.length) (hp ++ [.arr i.elem ei.ty (List.replicate n.toNat x)]) u w' := by
  have hT := hE _ _ hi2
  have hS := (hE _ _ hi1).slice hk
  obtain ⟨z, hz1, hz2, hz3, hz4⟩ := hT.zero w
  obtain ⟨inf, d, z', g1, g2, g3, g4, g5, g6, g7, g7b, g8, g9, g10⟩ := hT.ex
  have hsz := hT.size w
  obtain ⟨hkl, hen⟩ := packAll_sound hpk hi (fun _ h => h) (hz2 _ _ _)
  have hpx : hpx = hp := packAll_strict hpk
  subst hpx
  have hroom : c.toNat * ei.bytes ≤ 140737488355328 := h2
  have hcn : c.toNat ≤ c.toNat * ei.bytes := Nat.le_mul_of_pos_right _ hb2
  have hbc : (inf.bytes : Int) * c ≤ 281474976710656 := by
    have h3 : ((c.toNat * ei.bytes : Nat) : Int) ≤ ((140737488355328 : Nat) : Int) := Int.ofNat_le.2 hroom
    rw [Int.natCast_mul, Int.toNat_of_nonneg (by omega), Int.mul_comm] at h3
    rw [g4]
    omega
  have hr := run_make (P := P) w t i.elem inf z' hS g1 g6 k1 k2 n c h0 h1 hbc (by omega)
  rw [g3, ← g8] at hr
  have hmc : (madeCells z'.cells (c.toNat * z'.cells.size)).toList = Vm.repL c.toNat z'.cells.toList := range_rep _ _
  have hzz : z = z' := by
    have := hz1
    simp only [zeroValue, Sem.run_bind, typeInfo] at this
    simp [g1, g6] at this
    exact this.symm
  subst hzz
  have hcz : z.cells.toList.length = ei.ty.size := by rw [Array.length_toList, g8, g9]
  refine ⟨_, _, hr, new_arr hi (alloc_step w _) (t := ei.ty) (cs := Vm.repL n.toNat z.cells.toList) ?_ (EncL.rep hen n.toNat)⟩
  refine ⟨by rw [repL_len, hcz, List.length_replicate], .inr ⟨w.heap.size, c.toNat, _, by rw [List.length_replicate], Nat.le_refl _, alloc_new w _, by rw [List.length_replicate]; omega, by simp only [maxLen]; omega, ?_, ?_⟩⟩
  · rw [← Array.length_toList, hmc, repL_len, hcz]
  · rw [hmc, List.length_replicate]
    have : ∀ (m k : Nat) (l : List Value), m ≤ k → (Vm.repL k l).take (m * l.length) = Vm.repL m l := by
      intro m
      induction m with
      | zero => intro k l _; simp [Vm.repL]
      | succ m ih =>
        intro k l hk
        obtain ⟨k, rfl⟩ : ∃ j, k = j + 1 := ⟨k - 1, by omega⟩
        rw [Vm.repL, Vm.repL, Nat.succ_mul, Nat.add_comm, List.take_length_add_append, ih k l (by omega)]
    rw [← hcz]
    exact this _ _ _ (by omega)
end
end Vm
